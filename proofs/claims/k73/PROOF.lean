import PyProof.Rows.All
import Wide.All
import OpenK.AllK
import Wide.FinOn
import HandS.ForMost
import HandS.IsInst
import HandS.TupAny
import HandS.Style
import HandS.Deep
import HandS.Property
import HandS.More
import HandS.Conv
import PySem.Challenge.RW_pupilpairs_k73_whole_claims_together
import KE.KOpsOwn
import KE.KOwnIter
import HandS.IterVal
import HandS.Strs
import HandS.SetFor
import HandS.SortInts
set_option Elab.async false
set_option linter.all false
set_option maxRecDepth 100000
set_option maxHeartbeats 4000000
/-! plain mathematics: calls on lines, symbolic places, when a claim settles -/
namespace PP

inductive Call where
  | all (k : Int) | up (f k : Int) | swap (f g : Int) | wheel (f g k : Int) | about | front (f g : Int)
  deriving DecidableEq

def Call.size : Call → Int
  | .all k => (k.natAbs : Int)
  | .up _ k => (k.natAbs : Int)
  | .wheel _ _ k => (k.natAbs : Int)
  | _ => 1

def Call.ok (fs : Int) : Call → Prop
  | .all k => k ≠ 0
  | .up f k => 0 ≤ f ∧ f < fs ∧ k ≠ 0
  | .swap f g => 0 ≤ f ∧ f < fs ∧ 0 ≤ g ∧ g < fs ∧ f ≠ g
  | .wheel f g k => 0 ≤ f ∧ f < fs ∧ 0 ≤ g ∧ g < fs ∧ f ≠ g ∧ k ≠ 0
  | .about => True
  | .front f g => 0 ≤ f ∧ f < fs ∧ 0 ≤ g ∧ g < fs ∧ f ≠ g

def Call.turned : Call → Call
  | .all k => .all (-k)
  | .up f k => .up f (-k)
  | .wheel f g k => .wheel f g (-k)
  | c => c

theorem Call.turned_ok {fs : Int} {c : Call} (h : c.ok fs) : c.turned.ok fs := by
  cases c <;> simp only [Call.turned, Call.ok] at h ⊢ <;> omega

theorem Call.turned_size (c : Call) : c.turned.size = c.size := by
  cases c <;> simp [Call.turned, Call.size]

/-- where a wheel brings -/
def wheelMv (a b k rows r f : Int) : Int × Int :=
  if f ≠ a ∧ f ≠ b then (r, f)
  else
    let seat := ((if f = a then rows - 1 - r else rows + r) + k) % (2 * rows)
    if seat < rows then (rows - 1 - seat, a) else (seat - rows, b)

def mv (fs rows : Int) (c : Call) (p : Int × Int) : Int × Int :=
  match c with
  | .all k => ((p.1 - k) % rows, p.2)
  | .up g k => if p.2 = g then ((p.1 - k) % rows, p.2) else p
  | .about => (rows - 1 - p.1, fs - 1 - p.2)
  | .wheel a b k => wheelMv a b k rows p.1 p.2
  | .swap a b => if p.2 ≠ a ∧ p.2 ≠ b then p else (p.1, if p.2 = a then b else a)
  | .front a b => if (p.2 ≠ a ∧ p.2 ≠ b) ∨ p.1 > 0 then p else (p.1, if p.2 = a then b else a)

def isPl (fs rows : Int) (p : Int × Int) : Prop := 0 ≤ p.1 ∧ p.1 < rows ∧ 0 ≤ p.2 ∧ p.2 < fs

theorem mv_pl {fs rows : Int} {c : Call} {p : Int × Int} (hc : c.ok fs) (hp : isPl fs rows p) : isPl fs rows (mv fs rows c p) := by
  obtain ⟨r, f⟩ := p
  obtain ⟨h1, h2, h3, h4⟩ := hp
  simp only at h1 h2 h3 h4
  have hr : 0 < rows := by omega
  cases c with
  | all k =>
    have a := Int.emod_nonneg (r - k) (show rows ≠ 0 by omega)
    have b := Int.emod_lt_of_pos (r - k) hr
    exact ⟨a, b, h3, h4⟩
  | up g k =>
    have a := Int.emod_nonneg (r - k) (show rows ≠ 0 by omega)
    have b := Int.emod_lt_of_pos (r - k) hr
    show isPl fs rows (if f = g then ((r - k) % rows, f) else (r, f))
    split
    · exact ⟨a, b, h3, h4⟩
    · exact ⟨h1, h2, h3, h4⟩
  | about => exact ⟨by show 0 ≤ rows - 1 - r; omega, by show rows - 1 - r < rows; omega, by show 0 ≤ fs - 1 - f; omega, by show fs - 1 - f < fs; omega⟩
  | swap a b =>
    obtain ⟨c1, c2, c3, c4, c5⟩ := hc
    show isPl fs rows (if f ≠ a ∧ f ≠ b then (r, f) else (r, if f = a then b else a))
    split
    · exact ⟨h1, h2, h3, h4⟩
    · refine ⟨h1, h2, ?_, ?_⟩ <;> (simp only; split <;> assumption)
  | front a b =>
    obtain ⟨c1, c2, c3, c4, c5⟩ := hc
    show isPl fs rows (if (f ≠ a ∧ f ≠ b) ∨ r > 0 then (r, f) else (r, if f = a then b else a))
    split
    · exact ⟨h1, h2, h3, h4⟩
    · refine ⟨h1, h2, ?_, ?_⟩ <;> (simp only; split <;> assumption)
  | wheel a b k =>
    obtain ⟨c1, c2, c3, c4, c5, c6⟩ := hc
    show isPl fs rows (wheelMv a b k rows r f)
    unfold wheelMv
    split
    · exact ⟨h1, h2, h3, h4⟩
    · have q1 := Int.emod_nonneg ((if f = a then rows - 1 - r else rows + r) + k) (show 2 * rows ≠ 0 by omega)
      have q2 := Int.emod_lt_of_pos ((if f = a then rows - 1 - r else rows + r) + k) (show 0 < 2 * rows by omega)
      revert q1 q2
      generalize ((if f = a then rows - 1 - r else rows + r) + k) % (2 * rows) = seat
      intro q1 q2
      simp only
      split
      · exact ⟨by show 0 ≤ rows - 1 - seat; omega, by show rows - 1 - seat < rows; omega, c1, c2⟩
      · exact ⟨by show 0 ≤ seat - rows; omega, by show seat - rows < rows; omega, c3, c4⟩

def mvs (fs rows : Int) (cs : List Call) (p : Int × Int) : Int × Int := cs.foldl (fun p c => mv fs rows c p) p

theorem mvs_pl {fs rows : Int} : ∀ {cs : List Call} {p : Int × Int}, (∀ c ∈ cs, c.ok fs) → isPl fs rows p → isPl fs rows (mvs fs rows cs p)
  | [], _, _, h => h
  | c :: cs, p, hc, h => mvs_pl (cs := cs) (p := mv fs rows c p) (fun d hd => hc d (List.mem_cons_of_mem _ hd)) (mv_pl (hc c (List.mem_cons_self)) h)

/-! ### symbolic places: how far from an end -/
/-- the distance from the end: o ≥ 0 is row o, o < 0 is row rows + o -/
def far (o : Int) : Int := if 0 ≤ o then o else -1 - o
def den (rows : Int) (q : Int × Int) : Int × Int := (if 0 ≤ q.1 then q.1 else rows + q.1, q.2)

def smv (fs : Int) (c : Call) (q : Int × Int) : Int × Int :=
  match c with
  | .all k => (q.1 - k, q.2)
  | .up g k => if q.2 = g then (q.1 - k, q.2) else q
  | .about => (-1 - q.1, fs - 1 - q.2)
  | .wheel a b k =>
    if q.2 = a then (if (0 ≤ q.1 - k ↔ 0 ≤ q.1) then (q.1 - k, a) else (-1 - (q.1 - k), b))
    else if q.2 = b then (if (0 ≤ q.1 + k ↔ 0 ≤ q.1) then (q.1 + k, b) else (-1 - (q.1 + k), a))
    else q
  | .swap a b => if q.2 ≠ a ∧ q.2 ≠ b then q else (q.1, if q.2 = a then b else a)
  | .front a b => if (q.2 ≠ a ∧ q.2 ≠ b) ∨ q.1 ≠ 0 then q else (q.1, if q.2 = a then b else a)

theorem emod_add_self (a n : Int) : (a + n) % n = a % n := by simp
theorem mod_den {rows o : Int} (h1 : -rows ≤ o) (h2 : o < rows) : o % rows = if 0 ≤ o then o else rows + o := by
  split
  · exact Int.emod_eq_of_lt (by omega) h2
  · rw [← emod_add_self]
    rw [Int.emod_eq_of_lt (by omega) (by omega)]
    omega
theorem den_sub {rows o k : Int} (_h : 0 < rows) : ((if 0 ≤ o then o else rows + o) - k) % rows = (o - k) % rows := by
  split
  · rfl
  · rw [show rows + o - k = (o - k) + rows by omega]
    exact emod_add_self _ _

theorem far_cases (o : Int) : (0 ≤ o ∧ far o = o) ∨ (o < 0 ∧ far o = -1 - o) := by
  unfold far
  by_cases h : 0 ≤ o
  · exact .inl ⟨h, if_pos h⟩
  · exact .inr ⟨by omega, if_neg h⟩

theorem far_smv (fs : Int) (c : Call) (q : Int × Int) : far (smv fs c q).1 ≤ far q.1 + c.size := by
  obtain ⟨o, f⟩ := q
  have h0 := far_cases o
  cases c with
  | all k =>
    have h1 := far_cases (o - k)
    simp only [smv, Call.size]; omega
  | up g k =>
    have h1 := far_cases (o - k)
    simp only [smv, Call.size]; split <;> simp only <;> omega
  | about =>
    have h1 := far_cases (-1 - o)
    simp only [smv, Call.size]; omega
  | wheel a b k =>
    have h1 := far_cases (o - k)
    have h2 := far_cases (-1 - (o - k))
    have h3 := far_cases (o + k)
    have h4 := far_cases (-1 - (o + k))
    simp only [smv, Call.size]
    split
    · split <;> simp only <;> omega
    · split
      · split <;> simp only <;> omega
      · simp only; omega
  | swap a b => simp only [smv, Call.size]; split <;> simp only <;> omega
  | front a b => simp only [smv, Call.size]; split <;> simp only <;> omega

/-- on a long line the symbolic step tells the step -/
theorem mv_den {fs rows : Int} {c : Call} {q : Int × Int} (hc : c.ok fs) (hr : far q.1 + c.size + 2 ≤ rows) : mv fs rows c (den rows q) = den rows (smv fs c q) := by
  obtain ⟨o, f⟩ := q
  have h0 := far_cases o
  have hf := far_smv fs c (o, f)
  simp only at hr hf
  have szp : 0 ≤ c.size := by cases c <;> simp only [Call.size] <;> omega
  cases c with
  | all k =>
    simp only [smv, Call.size] at hf hr
    have h1 := far_cases (o - k)
    show (((if 0 ≤ o then o else rows + o) - k) % rows, f) = ((if 0 ≤ o - k then o - k else rows + (o - k)), f)
    rw [den_sub (by omega), mod_den (by omega) (by omega)]
  | up g k =>
    simp only [Call.size] at hr hf
    show (if f = g then ((((if 0 ≤ o then o else rows + o) - k) % rows, f) : Int × Int) else ((if 0 ≤ o then o else rows + o), f)) = den rows (if f = g then (o - k, f) else (o, f))
    split
    · have h1 := far_cases (o - k)
      rename_i e
      simp only [smv, e, if_true] at hf
      show _ = ((if 0 ≤ o - k then o - k else rows + (o - k)), f)
      rw [den_sub (by omega), mod_den (by omega) (by omega)]
    · rfl
  | about =>
    show (rows - 1 - (if 0 ≤ o then o else rows + o), fs - 1 - f) = ((if 0 ≤ -1 - o then -1 - o else rows + (-1 - o)), fs - 1 - f)
    have e : rows - 1 - (if 0 ≤ o then o else rows + o) = (if 0 ≤ -1 - o then -1 - o else rows + (-1 - o)) := by
      rcases h0 with ⟨h, _⟩ | ⟨h, _⟩
      · rw [if_pos h, if_neg (by omega)]; omega
      · rw [if_neg (by omega), if_pos (by omega)]; omega
    rw [e]
  | swap a b =>
    show (if f ≠ a ∧ f ≠ b then (((if 0 ≤ o then o else rows + o), f) : Int × Int) else ((if 0 ≤ o then o else rows + o), if f = a then b else a)) = den rows (if f ≠ a ∧ f ≠ b then (o, f) else (o, if f = a then b else a))
    split <;> rfl
  | front a b =>
    simp only [Call.size] at hr
    have e : ((if 0 ≤ o then o else rows + o) > 0) ↔ o ≠ 0 := by
      rcases h0 with ⟨h, _⟩ | ⟨h, _⟩
      · rw [if_pos h]; omega
      · rw [if_neg (by omega)]; omega
    show (if (f ≠ a ∧ f ≠ b) ∨ (if 0 ≤ o then o else rows + o) > 0 then (((if 0 ≤ o then o else rows + o), f) : Int × Int) else ((if 0 ≤ o then o else rows + o), if f = a then b else a)) = den rows (if (f ≠ a ∧ f ≠ b) ∨ o ≠ 0 then (o, f) else (o, if f = a then b else a))
    by_cases h : (f ≠ a ∧ f ≠ b) ∨ o ≠ 0
    · rw [if_pos h, if_pos (h.imp id e.mpr)]; rfl
    · rw [if_neg h, if_neg (fun z => h (z.imp id e.mp))]; rfl
  | wheel a b k =>
    obtain ⟨c1, c2, c3, c4, c5, c6⟩ := hc
    simp only [Call.size] at hr
    have big : ∀ x : Int, 0 ≤ x → x < 2 * rows → x % (2 * rows) = x := fun x h1 h2 => Int.emod_eq_of_lt h1 h2
    have low : ∀ x : Int, -(2 * rows) ≤ x → x < 0 → x % (2 * rows) = x + 2 * rows := fun x h1 h2 => by
      rw [← emod_add_self, Int.emod_eq_of_lt (by omega) (by omega)]
    have high : ∀ x : Int, 2 * rows ≤ x → x < 4 * rows → x % (2 * rows) = x - 2 * rows := fun x h1 h2 => by
      rw [show x = (x - 2 * rows) + 2 * rows by omega, emod_add_self, Int.emod_eq_of_lt (by omega) (by omega)]
      omega
    have sa : ∀ r seat : Int, (rows - 1 - r + k) % (2 * rows) = seat → wheelMv a b k rows r a = if seat < rows then (rows - 1 - seat, a) else (seat - rows, b) := fun r seat e => by
      unfold wheelMv
      rw [if_neg (by simp)]
      simp only [if_true]
      rw [e]
    have sb : ∀ r seat : Int, (rows + r + k) % (2 * rows) = seat → wheelMv a b k rows r b = if seat < rows then (rows - 1 - seat, a) else (seat - rows, b) := fun r seat e => by
      unfold wheelMv
      rw [if_neg (by simp)]
      simp only [if_neg (show ¬ b = a from fun z => c5 z.symm)]
      rw [e]
    show wheelMv a b k rows (if 0 ≤ o then o else rows + o) f = den rows (smv fs (.wheel a b k) (o, f))
    by_cases ea : f = a
    · subst ea
      simp only [smv, if_true]
      rcases h0 with ⟨h, q⟩ | ⟨h, q⟩
      · rw [if_pos h]
        rw [sa o _ (big _ (by omega) (by omega))]
        by_cases h2 : 0 ≤ o - k
        · rw [if_pos (show rows - 1 - o + k < rows by omega), if_pos (show (0 ≤ o - k ↔ 0 ≤ o) by constructor <;> intro _ <;> omega)]
          simp only [den, if_pos h2, Prod.mk.injEq, and_true]
          omega
        · rw [if_neg (show ¬ rows - 1 - o + k < rows by omega), if_neg (show ¬ (0 ≤ o - k ↔ 0 ≤ o) by intro z; exact h2 (z.mpr h))]
          simp only [den, if_pos (show 0 ≤ -1 - (o - k) by omega), Prod.mk.injEq, and_true]
          omega
      · rw [if_neg (show ¬ 0 ≤ o by omega)]
        by_cases h2 : 0 ≤ o - k
        · rw [sa (rows + o) _ (low _ (by omega) (by omega)), if_neg (show ¬ rows - 1 - (rows + o) + k + 2 * rows < rows by omega), if_neg (show ¬ (0 ≤ o - k ↔ 0 ≤ o) by intro z; have := z.mp h2; omega)]
          simp only [den, if_neg (show ¬ 0 ≤ -1 - (o - k) by omega), Prod.mk.injEq, and_true]
          omega
        · rw [sa (rows + o) _ (big _ (by omega) (by omega)), if_pos (show rows - 1 - (rows + o) + k < rows by omega), if_pos (show (0 ≤ o - k ↔ 0 ≤ o) by constructor <;> intro _ <;> omega)]
          simp only [den, if_neg h2, Prod.mk.injEq, and_true]
          omega
    · by_cases eb : f = b
      · subst eb
        simp only [smv, if_neg ea, if_true]
        rcases h0 with ⟨h, q⟩ | ⟨h, q⟩
        · rw [if_pos h]
          rw [sb o _ (big _ (by omega) (by omega))]
          by_cases h2 : 0 ≤ o + k
          · rw [if_neg (show ¬ rows + o + k < rows by omega), if_pos (show (0 ≤ o + k ↔ 0 ≤ o) by constructor <;> intro _ <;> omega)]
            simp only [den, if_pos h2, Prod.mk.injEq, and_true]
            omega
          · rw [if_pos (show rows + o + k < rows by omega), if_neg (show ¬ (0 ≤ o + k ↔ 0 ≤ o) by intro z; exact h2 (z.mpr h))]
            simp only [den, if_pos (show 0 ≤ -1 - (o + k) by omega), Prod.mk.injEq, and_true]
            omega
        · rw [if_neg (show ¬ 0 ≤ o by omega)]
          by_cases h2 : 0 ≤ o + k
          · rw [sb (rows + o) _ (high _ (by omega) (by omega)), if_pos (show rows + (rows + o) + k - 2 * rows < rows by omega), if_neg (show ¬ (0 ≤ o + k ↔ 0 ≤ o) by intro z; have := z.mp h2; omega)]
            simp only [den, if_neg (show ¬ 0 ≤ -1 - (o + k) by omega), Prod.mk.injEq, and_true]
            omega
          · rw [sb (rows + o) _ (big _ (by omega) (by omega)), if_neg (show ¬ rows + (rows + o) + k < rows by omega), if_pos (show (0 ≤ o + k ↔ 0 ≤ o) by constructor <;> intro _ <;> omega)]
            simp only [den, if_neg h2, Prod.mk.injEq, and_true]
            omega
      · unfold wheelMv
        rw [if_pos ⟨ea, eb⟩]
        simp only [smv, if_neg ea, if_neg eb]
        rfl

def sizes : List Call → Int
  | [] => 0
  | c :: cs => c.size + sizes cs
theorem size_nn (c : Call) : 0 ≤ c.size := by cases c <;> simp only [Call.size] <;> omega
theorem sizes_nn : ∀ cs : List Call, 0 ≤ sizes cs
  | [] => Int.le_refl 0
  | c :: cs => by
    have a := size_nn c
    have b := sizes_nn cs
    show 0 ≤ c.size + sizes cs
    omega
theorem sizes_append : ∀ a b : List Call, sizes (a ++ b) = sizes a + sizes b
  | [], b => by show sizes b = 0 + sizes b; omega
  | c :: a, b => by
    show c.size + sizes (a ++ b) = c.size + sizes a + sizes b
    rw [sizes_append a b]; omega
def turnedAll (cs : List Call) : List Call := cs.reverse.map Call.turned
theorem sizes_turned : ∀ cs : List Call, sizes (turnedAll cs) = sizes cs
  | [] => rfl
  | c :: cs => by
    unfold turnedAll
    rw [List.reverse_cons, List.map_append, sizes_append]
    have e := sizes_turned cs
    unfold turnedAll at e
    rw [e]
    show sizes cs + (c.turned.size + 0) = c.size + sizes cs
    rw [Call.turned_size]; omega
theorem turnedAll_ok {fs : Int} {cs : List Call} (h : ∀ c ∈ cs, c.ok fs) : ∀ c ∈ turnedAll cs, c.ok fs := by
  intro c hc
  unfold turnedAll at hc
  obtain ⟨d, hd, rfl⟩ := List.mem_map.mp hc
  exact Call.turned_ok (h d (List.mem_reverse.mp hd))

def smvs (fs : Int) (cs : List Call) (q : Int × Int) : Int × Int := cs.foldl (fun q c => smv fs c q) q
theorem far_smvs (fs : Int) : ∀ (cs : List Call) (q : Int × Int), far (smvs fs cs q).1 ≤ far q.1 + sizes cs
  | [], q => by show far q.1 ≤ far q.1 + 0; omega
  | c :: cs, q => by
    have a := far_smv fs c q
    have b := far_smvs fs cs (smv fs c q)
    show far (smvs fs cs (smv fs c q)).1 ≤ far q.1 + (c.size + sizes cs)
    omega
theorem mvs_den {fs rows : Int} : ∀ {cs : List Call} {q : Int × Int}, (∀ c ∈ cs, c.ok fs) → far q.1 + sizes cs + 2 ≤ rows → mvs fs rows cs (den rows q) = den rows (smvs fs cs q)
  | [], _, _, _ => rfl
  | c :: cs, q, hc, hr => by
    have hr' : far q.1 + (c.size + sizes cs) + 2 ≤ rows := hr
    have a := far_smv fs c q
    have n := sizes_nn cs
    show mvs fs rows cs (mv fs rows c (den rows q)) = den rows (smvs fs cs (smv fs c q))
    rw [mv_den (hc c List.mem_cons_self) (by omega)]
    exact mvs_den (fun d hd => hc d (List.mem_cons_of_mem _ hd)) (by omega)

/-! ### rounds -/
def rnds (fs rows : Int) (cs : List Call) : Nat → Int × Int → Int × Int
  | 0, p => p
  | n + 1, p => mvs fs rows cs (rnds fs rows cs n p)
def srnds (fs : Int) (cs : List Call) : Nat → Int × Int → Int × Int
  | 0, q => q
  | n + 1, q => smvs fs cs (srnds fs cs n q)
theorem far_srnds (fs : Int) (cs : List Call) (q : Int × Int) : ∀ n : Nat, far (srnds fs cs n q).1 ≤ far q.1 + (n : Int) * sizes cs
  | 0 => by show far q.1 ≤ far q.1 + ((0 : Nat) : Int) * sizes cs; simp
  | n + 1 => by
    have a := far_smvs fs cs (srnds fs cs n q)
    have b := far_srnds fs cs q n
    show far (smvs fs cs (srnds fs cs n q)).1 ≤ far q.1 + ((n + 1 : Nat) : Int) * sizes cs
    rw [show ((n + 1 : Nat) : Int) * sizes cs = (n : Int) * sizes cs + sizes cs by rw [Int.natCast_add, Int.add_mul]; simp]
    omega
theorem rnds_den {fs rows : Int} {cs : List Call} {q : Int × Int} (hc : ∀ c ∈ cs, c.ok fs) : ∀ n : Nat, far q.1 + (n : Int) * sizes cs + 2 ≤ rows → rnds fs rows cs n (den rows q) = den rows (srnds fs cs n q)
  | 0, _ => rfl
  | n + 1, hr => by
    rw [show ((n + 1 : Nat) : Int) * sizes cs = (n : Int) * sizes cs + sizes cs by rw [Int.natCast_add, Int.add_mul]; simp] at hr
    have a := far_srnds fs cs q n
    have p := sizes_nn cs
    show mvs fs rows cs (rnds fs rows cs n (den rows q)) = _
    rw [rnds_den hc n (by omega)]
    exact mvs_den hc (by omega)
theorem rnds_pl {fs rows : Int} {cs : List Call} {p : Int × Int} (hc : ∀ c ∈ cs, c.ok fs) (hp : isPl fs rows p) : ∀ n, isPl fs rows (rnds fs rows cs n p)
  | 0 => hp
  | n + 1 => mvs_pl hc (rnds_pl hc hp n)

/-! ### spots and claims -/
structure Spot where
  back : Bool
  row : Int
  file : Int
inductive Word where
  | at_ | beside | leads
  deriving DecidableEq
structure Claim where
  word : Word
  k : Int
  one : Spot
  /-- for at and beside -/
  two : Spot
def Spot.ok (fs : Int) (s : Spot) : Prop := 0 ≤ s.row ∧ s.row < 10 ∧ 0 ≤ s.file ∧ s.file < fs
def Spot.sym (s : Spot) : Int × Int := (if s.back then -1 - s.row else s.row, s.file)
def Spot.place (rows : Int) (s : Spot) : Int × Int := (if s.back then rows - 1 - s.row else s.row, s.file)
def Spot.lacks (rows : Int) (s : Spot) : Prop := s.row ≥ rows
theorem Spot.far_sym {fs : Int} {s : Spot} (h : s.ok fs) : far s.sym.1 = s.row := by
  obtain ⟨h1, _⟩ := h
  unfold Spot.sym
  have a := far_cases (-1 - s.row)
  have b := far_cases s.row
  cases s.back <;> simp <;> omega
theorem Spot.den_sym {fs rows : Int} {s : Spot} (h : s.ok fs) : den rows s.sym = s.place rows := by
  obtain ⟨h1, _⟩ := h
  unfold Spot.sym Spot.place den
  cases s.back
  · simp [h1]
  · simp only [if_true]
    rw [if_neg (by omega)]
    congr 1; omega
theorem Spot.pl {fs rows : Int} {s : Spot} (h : s.ok fs) (hl : ¬ s.lacks rows) : isPl fs rows (s.place rows) := by
  obtain ⟨h1, h2, h3, h4⟩ := h
  unfold Spot.lacks at hl
  unfold Spot.place
  cases s.back
  · exact ⟨h1, by show s.row < rows; omega, h3, h4⟩
  · exact ⟨by show 0 ≤ rows - 1 - s.row; omega, by show rows - 1 - s.row < rows; omega, h3, h4⟩

/-- the script gone through for k rounds -/
def dirOf (cs : List Call) (k : Int) : List Call := if k > 0 then cs else turnedAll cs
def after (fs rows : Int) (cs : List Call) (k : Int) (p : Int × Int) : Int × Int := if cs.length = 0 then p else rnds fs rows (dirOf cs k) k.natAbs p
def safter (fs : Int) (cs : List Call) (k : Int) (q : Int × Int) : Int × Int := if cs.length = 0 then q else srnds fs (dirOf cs k) k.natAbs q
theorem dirOf_ok {fs : Int} {cs : List Call} (h : ∀ c ∈ cs, c.ok fs) (k : Int) : ∀ c ∈ dirOf cs k, c.ok fs := by
  unfold dirOf
  split
  · exact h
  · exact turnedAll_ok h
theorem dirOf_sizes (cs : List Call) (k : Int) : sizes (dirOf cs k) = sizes cs := by
  unfold dirOf
  split
  · rfl
  · exact sizes_turned cs
theorem after_pl {fs rows : Int} {cs : List Call} {p : Int × Int} (hc : ∀ c ∈ cs, c.ok fs) (k : Int) (hp : isPl fs rows p) : isPl fs rows (after fs rows cs k p) := by
  unfold after
  split
  · exact hp
  · exact rnds_pl (dirOf_ok hc k) hp _
theorem far_safter (fs : Int) (cs : List Call) (k : Int) (q : Int × Int) : far (safter fs cs k q).1 ≤ far q.1 + (k.natAbs : Int) * sizes cs := by
  unfold safter
  split
  · have := Int.mul_nonneg (Int.natCast_nonneg k.natAbs) (sizes_nn cs)
    omega
  · have := far_srnds fs (dirOf cs k) q k.natAbs
    rw [dirOf_sizes] at this
    exact this
theorem after_den {fs rows : Int} {cs : List Call} {k : Int} {q : Int × Int} (hc : ∀ c ∈ cs, c.ok fs) (hr : far q.1 + (k.natAbs : Int) * sizes cs + 2 ≤ rows) : after fs rows cs k (den rows q) = den rows (safter fs cs k q) := by
  unfold after safter
  split
  · rfl
  · exact rnds_den (dirOf_ok hc k) _ (by rw [dirOf_sizes]; exact hr)

/-- whether a claim holds on a line -/
def isSo (fs rows : Int) (cs : List Call) (c : Claim) : Bool :=
  match c.word with
  | .leads => if c.one.row ≥ rows then false else decide ((after fs rows cs c.k (c.one.place rows)).1 = 0)
  | .at_ => if c.one.row ≥ rows ∨ c.two.row ≥ rows then false else decide (after fs rows cs c.k (c.one.place rows) = c.two.place rows)
  | .beside => if c.one.row ≥ rows ∨ c.two.row ≥ rows then false else decide ((after fs rows cs c.k (c.one.place rows)).1 = (after fs rows cs c.k (c.two.place rows)).1)
def Claim.ok (fs : Int) (c : Claim) : Prop := c.one.ok fs ∧ (c.word ≠ .leads → c.two.ok fs)
def Claim.deep (c : Claim) : Int := match c.word with
  | .leads => c.one.row
  | _ => if c.two.row > c.one.row then c.two.row else c.one.row
def settled (cs : List Call) (c : Claim) : Int := 2 * ((c.k.natAbs : Int) * sizes cs + c.deep) + 7

theorem den_row {rows : Int} {q q' : Int × Int} {B : Int} (h : far q.1 ≤ B) (h' : far q'.1 ≤ B) (hr : 2 * B + 2 ≤ rows) : (den rows q).1 = (den rows q').1 ↔ q.1 = q'.1 := by
  have a := far_cases q.1
  have b := far_cases q'.1
  unfold den
  simp only
  by_cases h1 : 0 ≤ q.1 <;> by_cases h2 : 0 ≤ q'.1
  · rw [if_pos h1, if_pos h2]
  · rw [if_pos h1, if_neg h2]; omega
  · rw [if_neg h1, if_pos h2]; omega
  · rw [if_neg h1, if_neg h2]; omega
theorem den_zero {rows : Int} {q : Int × Int} {B : Int} (h : far q.1 ≤ B) (hr : B + 2 ≤ rows) : (den rows q).1 = 0 ↔ q.1 = 0 := by
  have a := far_cases q.1
  unfold den
  simp only
  by_cases h1 : 0 ≤ q.1
  · rw [if_pos h1]
  · rw [if_neg h1]; omega

/-- from settled on a claim holds on all lines or on none -/
theorem isSo_settled {fs : Int} {cs : List Call} {c : Claim} (hc : ∀ d ∈ cs, d.ok fs) (ok : c.ok fs) {rows : Int} (hr : settled cs c ≤ rows) : isSo fs rows cs c = isSo fs (settled cs c) cs c := by
  obtain ⟨o1, o2⟩ := ok
  have hp := Int.mul_nonneg (Int.natCast_nonneg c.k.natAbs) (sizes_nn cs)
  have key : ∀ r : Int, settled cs c ≤ r → isSo fs r cs c = (match c.word with
      | .leads => decide ((safter fs cs c.k c.one.sym).1 = 0)
      | .at_ => decide ((safter fs cs c.k c.one.sym).1 = c.two.sym.1 ∧ (safter fs cs c.k c.one.sym).2 = c.two.sym.2)
      | .beside => decide ((safter fs cs c.k c.one.sym).1 = (safter fs cs c.k c.two.sym).1)) := by
    intro r hr
    unfold settled Claim.deep at hr
    unfold isSo
    have f1 := Spot.far_sym o1
    have p1 := o1.1
    have g1 := far_safter fs cs c.k c.one.sym
    cases hw : c.word with
    | leads =>
      rw [hw] at hr
      simp only at hr ⊢
      rw [if_neg (by omega), ← Spot.den_sym o1, after_den hc (by omega)]
      have z := den_zero (rows := r) (B := c.one.row + (c.k.natAbs : Int) * sizes cs) (q := safter fs cs c.k c.one.sym) (by omega) (by omega)
      exact decide_eq_decide.mpr z
    | at_ =>
      have o2' := o2 (by rw [hw]; decide)
      have f2 := Spot.far_sym o2'
      have p2 := o2'.1
      rw [hw] at hr
      simp only at hr ⊢
      have hm : c.one.row ≤ (if c.two.row > c.one.row then c.two.row else c.one.row) ∧ c.two.row ≤ (if c.two.row > c.one.row then c.two.row else c.one.row) := by
        split <;> omega
      rw [if_neg (by omega), ← Spot.den_sym o1, ← Spot.den_sym o2', after_den hc (by omega)]
      have z := den_row (rows := r) (B := (if c.two.row > c.one.row then c.two.row else c.one.row) + (c.k.natAbs : Int) * sizes cs) (q := safter fs cs c.k c.one.sym) (q' := c.two.sym) (by omega) (by omega) (by omega)
      apply decide_eq_decide.mpr
      rw [Prod.ext_iff, z]
      rfl
    | beside =>
      have o2' := o2 (by rw [hw]; decide)
      have f2 := Spot.far_sym o2'
      have p2 := o2'.1
      have g2 := far_safter fs cs c.k c.two.sym
      rw [hw] at hr
      simp only at hr ⊢
      have hm : c.one.row ≤ (if c.two.row > c.one.row then c.two.row else c.one.row) ∧ c.two.row ≤ (if c.two.row > c.one.row then c.two.row else c.one.row) := by
        split <;> omega
      rw [if_neg (by omega), ← Spot.den_sym o1, ← Spot.den_sym o2', after_den hc (by omega), after_den hc (by omega)]
      have z := den_row (rows := r) (B := (if c.two.row > c.one.row then c.two.row else c.one.row) + (c.k.natAbs : Int) * sizes cs) (q := safter fs cs c.k c.one.sym) (q' := safter fs cs c.k c.two.sym) (by omega) (by omega) (by omega)
      exact decide_eq_decide.mpr z
  rw [key rows hr, key _ (Int.le_refl _)]

end PP

/-! a small logic over the hand layer: expressions of a def come to data, whatever the heap; the slots hold data -/
namespace PB
open PySem PySem.Spec PyProof.Rows L2

/-! ### what may change: a bag, and some lists more -/
structure Md where
  bag : Option Addr
  more : List Addr
def Md.mut (m : Md) (a : Addr) : Prop := m.bag = some a ∨ a ∈ m.more
def isL : HO → Prop
  | .lst _ => True
  | _ => False
def BagAt (H : Hp) (more : List Addr) (p : Addr) : Prop := ∃ (x g i : Int) (c : Addr) (ns : List Int),
  H p = some (.lst [.int x, .int g, .int i, .ref c]) ∧ c ≠ p ∧ c ∉ more ∧ p ∉ more ∧ H c = some (.lst (ns.map V.int)) ∧ 0 ≤ x ∧ 0 ≤ g ∧ g < 2147483647 ∧ 0 ≤ i ∧ ∀ n ∈ ns, 0 ≤ n
/-- an evaluation: all is kept but the bag's own list -/
structure Le (m : Md) (H H' : Hp) : Prop where
  keep : ∀ a o, H a = some o → (m.bag = some a → ¬ isL o) → H' a = some o
  bags : ∀ p, m.bag = some p → ∀ l, (∀ a ∈ m.more, a ∈ l) → BagAt H l p → BagAt H' l p
theorem Le.bag {m : Md} {H H' : Hp} (l : Le m H H') (p : Addr) (h : m.bag = some p) (hb : BagAt H m.more p) : BagAt H' m.more p := l.bags p h _ (fun _ z => z) hb
theorem Le.refl (m : Md) (H : Hp) : Le m H H := ⟨fun _ _ h _ => h, fun _ _ _ _ h => h⟩
theorem Le.trans {m : Md} {H H1 H2 : Hp} (a : Le m H H1) (b : Le m H1 H2) : Le m H H2 :=
  ⟨fun c o h n => b.keep c o (a.keep c o h n) n, fun p e l s h => b.bags p e l s (a.bags p e l s h)⟩
theorem BagAt.same {H H' : Hp} {l : List Addr} {p : Addr} (s : Same H H') (h : BagAt H l p) : BagAt H' l p := by
  obtain ⟨x, g, i, c, ns, h1, h2, h3, h4, h5, h6⟩ := h
  exact ⟨x, g, i, c, ns, s _ _ h1, h2, h3, h4, s _ _ h5, h6⟩
theorem BagAt.ins {H : Hp} {l : List Addr} {q p : Addr} {C dx : Addr} {fs fs' : List (Str × V)} (h : BagAt H l q) (hp : H p = some (.ins C dx fs)) : BagAt (upd H p (.ins C dx fs')) l q := by
  obtain ⟨x, g, i, c, ns, h1, h2, h3, h4, h5, h6⟩ := h
  exact ⟨x, g, i, c, ns, by rw [upd_ne (ne_of h1 hp (fun z => nomatch z))]; exact h1, h2, h3, h4, by rw [upd_ne (ne_of h5 hp (fun z => nomatch z))]; exact h5, h6⟩
theorem Le.of_same {m : Md} {H H' : Hp} (s : Same H H') : Le m H H' :=
  ⟨fun a o h _ => s a o h, fun _ _ _ _ h => h.same s⟩
theorem same_new {H : Hp} {p : Addr} {o : HO} (h : H p = none) : Same H (upd H p o) := fun a u e => by
  rw [upd_ne (ne_of_none e h)]
  exact e
theorem Le.new {m : Md} {H : Hp} {p : Addr} {o : HO} (h : H p = none) : Le m H (upd H p o) := .of_same (same_new h)
theorem Le.free {H H' : Hp} {m : Md} (l : Le m H H') {p : Addr} (hm' : ∀ p, m.bag = some p → BagAt H m.more p) (h : H' p = none) : H p = none := by
  cases e : H p with
  | none => rfl
  | some o =>
    by_cases hb : m.bag = some p
    · obtain ⟨_, _, _, _, _, h1, _⟩ := l.bag p hb (hm' p hb)
      rw [h] at h1
      cases h1
    · rw [l.keep p o e (fun z => absurd z hb)] at h
      cases h

/-! ### data -/
inductive D where
  | non | bl (b : Bool) | int (i : Int) | str (s : Str) | tup (ds : List D) | lst (ds : List D) | scr (fs : Int) (cs : List D) | bag | own (a : Addr)
def scrFs (fs : Int) (st : Addr) : List (Str × V) := putF "steps" (.ref st) (putF "width" (.int fs) [])
mutual
def Rp (K : PySem.W.Frag) (m : Md) (C : Addr) (H : Hp) : D → V → Prop
  | .non, v => v = .non
  | .bl b, v => v = .bl b
  | .int i, v => v = .int i
  | .str s, v => v = .str s
  | .tup ds, v => ∃ a xs, v = .ref a ∧ SqT K H a xs ∧ RpAll K m C H ds xs
  | .lst ds, v => ∃ a xs, v = .ref a ∧ H a = some (.lst xs) ∧ ¬ m.mut a ∧ RpAll K m C H ds xs
  | .scr fs cs, v => ∃ p dx st xs, v = .ref p ∧ H p = some (.ins C dx (scrFs fs st)) ∧ SqT K H st xs ∧ RpAll K m C H cs xs
  | .bag, v => ∃ p, v = .ref p ∧ m.bag = some p
  | .own a, v => v = .ref a
def RpAll (K : PySem.W.Frag) (m : Md) (C : Addr) (H : Hp) : List D → List V → Prop
  | [], xs => xs = []
  | d :: ds, xs => ∃ v vs, xs = v :: vs ∧ Rp K m C H d v ∧ RpAll K m C H ds vs
end
theorem sqT_le {K : PySem.W.Frag} {m : Md} {H H' : Hp} {a : Addr} {xs : List V} (l : Le m H H') (h : SqT K H a xs) : SqT K H' a xs := by
  rcases h with (h | ⟨o, h⟩) | h
  · exact .inl (.inl (l.keep _ _ h fun _ z => z))
  · exact .inl (.inr ⟨o, l.keep _ _ h fun _ z => z⟩)
  · exact .inr h
section
variable {K : PySem.W.Frag} {m : Md} {C : Addr} {H H' : Hp}
mutual
theorem Rp.le (l : Le m H H') : ∀ {d : D} {v : V}, Rp K m C H d v → Rp K m C H' d v
  | .non, _, h => h
  | .bl _, _, h => h
  | .int _, _, h => h
  | .str _, _, h => h
  | .tup ds, _, h => by
    obtain ⟨a, xs, e, h1, h2⟩ := h
    exact ⟨a, xs, e, sqT_le l h1, RpAll.le l h2⟩
  | .lst ds, _, h => by
    obtain ⟨a, xs, e, h1, h3, h2⟩ := h
    exact ⟨a, xs, e, l.keep _ _ h1 fun z => absurd (.inl z) h3, h3, RpAll.le l h2⟩
  | .scr fs cs, _, h => by
    obtain ⟨p, dx, st, xs, e, h1, h2, h3⟩ := h
    exact ⟨p, dx, st, xs, e, l.keep _ _ h1 fun _ z => z, sqT_le l h2, RpAll.le l h3⟩
  | .bag, _, h => h
  | .own _, _, h => h
theorem RpAll.le (l : Le m H H') : ∀ {ds : List D} {xs : List V}, RpAll K m C H ds xs → RpAll K m C H' ds xs
  | [], _, h => h
  | d :: ds, _, h => by
    obtain ⟨v, vs, e, h1, h2⟩ := h
    exact ⟨v, vs, e, Rp.le l h1, RpAll.le l h2⟩
end
theorem RpAll.length : ∀ {ds : List D} {xs : List V}, RpAll K m C H ds xs → xs.length = ds.length
  | [], _, h => by
    cases (show _ = [] from h)
    rfl
  | d :: ds, _, h => by
    obtain ⟨v, vs, e, h1, h2⟩ := h
    rw [e, List.length_cons, List.length_cons, RpAll.length h2]
theorem RpAll.get : ∀ {ds : List D} {xs : List V} {i : Nat} {d : D}, RpAll K m C H ds xs → ds[i]? = some d → ∃ v, xs[i]? = some v ∧ Rp K m C H d v
  | [], _, i, d, _, e => by simp at e
  | d0 :: ds, xs, 0, d, h, e => by
    obtain ⟨v, vs, rfl, h1, h2⟩ := h
    simp only [List.getElem?_cons_zero, Option.some.injEq] at e
    subst e
    exact ⟨v, rfl, h1⟩
  | d0 :: ds, xs, i + 1, d, h, e => by
    obtain ⟨v, vs, rfl, h1, h2⟩ := h
    exact RpAll.get (i := i) h2 (by simpa using e)
theorem RpAll.get' : ∀ {ds : List D} {xs : List V} {i : Nat} {v : V}, RpAll K m C H ds xs → xs[i]? = some v → ∃ d, ds[i]? = some d ∧ Rp K m C H d v := fun {ds xs i v} h e => by
  have l := RpAll.length h
  have hi : i < ds.length := by
    have := (List.getElem?_eq_some_iff.mp e).1
    omega
  obtain ⟨v', e', r⟩ := RpAll.get (i := i) h (List.getElem?_eq_getElem hi)
  rw [e] at e'
  cases e'
  exact ⟨_, List.getElem?_eq_getElem hi, r⟩
theorem RpAll.append : ∀ {ds es : List D} {xs ys : List V}, RpAll K m C H ds xs → RpAll K m C H es ys → RpAll K m C H (ds ++ es) (xs ++ ys)
  | [], _, _, _, h, h' => by
    cases (show _ = [] from h)
    exact h'
  | d :: ds, _, _, _, h, h' => by
    obtain ⟨v, vs, rfl, h1, h2⟩ := h
    exact ⟨v, _, rfl, h1, RpAll.append h2 h'⟩
theorem RpAll.take : ∀ {ds : List D} {xs : List V} (n : Nat), RpAll K m C H ds xs → RpAll K m C H (ds.take n) (xs.take n)
  | _, _, 0, _ => by
    rw [List.take_zero, List.take_zero]
    exact rfl
  | [], _, n + 1, h => by
    cases (show _ = [] from h)
    exact rfl
  | d :: ds, _, n + 1, h => by
    obtain ⟨v, vs, rfl, h1, h2⟩ := h
    exact ⟨v, _, rfl, h1, RpAll.take n h2⟩
theorem RpAll.drop : ∀ {ds : List D} {xs : List V} (n : Nat), RpAll K m C H ds xs → RpAll K m C H (ds.drop n) (xs.drop n)
  | _, _, 0, h => h
  | [], _, n + 1, h => by
    cases (show _ = [] from h)
    exact rfl
  | d :: ds, _, n + 1, h => by
    obtain ⟨v, vs, rfl, h1, h2⟩ := h
    exact RpAll.drop n h2
theorem RpAll.one {d : D} {v : V} (h : Rp K m C H d v) : RpAll K m C H [d] [v] := ⟨v, [], rfl, h, rfl⟩
theorem RpAll.of_get : ∀ {ds : List D} {xs : List V}, xs.length = ds.length → (∀ (i : Nat) (v : V) (d : D), xs[i]? = some v → ds[i]? = some d → Rp K m C H d v) → RpAll K m C H ds xs
  | [], xs, hl, _ => List.length_eq_zero_iff.mp hl
  | d :: ds, [], hl, _ => by simp at hl
  | d :: ds, v :: vs, hl, h => ⟨v, vs, rfl, h 0 v d rfl rfl, RpAll.of_get (by simpa using hl) fun i v' d' e1 e2 => h (i + 1) v' d' (by simpa using e1) (by simpa using e2)⟩
theorem RpAll.ints : ∀ {ns : List Int}, RpAll K m C H (ns.map D.int) (ns.map V.int)
  | [] => rfl
  | n :: ns => ⟨_, _, rfl, rfl, RpAll.ints⟩
theorem RpAll.ints_eq : ∀ {ns : List Int} {xs : List V}, RpAll K m C H (ns.map D.int) xs → xs = ns.map V.int
  | [], _, h => h
  | n :: ns, _, h => by
    obtain ⟨v, vs, rfl, h1, h2⟩ := h
    cases (show v = .int n from h1)
    rw [RpAll.ints_eq h2]
    rfl
theorem RpAll.bls_eq : ∀ {bs : List Bool} {xs : List V}, RpAll K m C H (bs.map D.bl) xs → xs = bs.map V.bl
  | [], _, h => h
  | n :: ns, _, h => by
    obtain ⟨v, vs, rfl, h1, h2⟩ := h
    cases (show v = .bl n from h1)
    rw [RpAll.bls_eq h2]
    rfl
end

/-! ### readings of syntax -/
section
variable (X : Cx)
def wE (e : Expr) : TE := fun σ H Q => ∀ (pins : List (Addr × Obj)) (s : Shared), Inv X pins σ H s → wpAny (model X.prog X.w) X.A (eval e X.env) (EP X pins σ Q) X.xe s
def wT (e : Expr) : TT := fun σ H Q => ∀ (pins : List (Addr × Obj)) (s : Shared), Inv X pins σ H s → wpAny (model X.prog X.w) X.A (isTrue e X.env (eval e X.env)) (TP X pins σ Q) X.xe s
def wW (e : Expr) : TT := fun σ H Q => ∀ (whole : Sem Value) (pins : List (Addr × Obj)) (s : Shared), Inv X pins σ H s → wpAny (model X.prog X.w) X.A (isTrue e X.env whole) (TP X pins σ Q) X.xe s
def wC (op : CmpOp) (a b : Expr) : TE := fun σ H Q => ∀ (pins : List (Addr × Obj)) (s : Shared), Inv X pins σ H s →
  wpAny (model X.prog X.w) X.A (eval a X.env) (fun v s1 => wpAny (model X.prog X.w) X.A (eval b X.env) (fun u s2 => wpAny (model X.prog X.w) X.A (compareOp op v u) (EP X pins σ Q) X.xe s2) X.xe s1) X.xe s
def wA (es : List Expr) : TA := fun σ H Q => ∀ (pos : Pos) (pins : List (Addr × Obj)) (s : Shared), Inv X pins σ H s → wpAny (model X.prog X.w) X.A (spliced (backTo pos (starEach es X.env))) (AP X pins σ Q) X.xe s
def wS (st : Stmt) : TS := fun Dn σ H => ∀ (pins : List (Addr × Obj)) (s : Shared), Inv X pins σ H s → wpAny (model X.prog X.w) X.A (exec st X.env) (SP X pins Dn) X.xe s
def wSs (st : List Stmt) : TS := fun Dn σ H => ∀ (pins : List (Addr × Obj)) (s : Shared), Inv X pins σ H s → wpAny (model X.prog X.w) X.A (execs st X.env) (SP X pins Dn) X.xe s
end
section
variable {X : Cx} {e : Expr} {es : List Expr} {st : Stmt} {sts : List Stmt}
theorem peW : PE X e (wE X e) := ⟨fun pins s σ H Q I h => h pins s I⟩
theorem ptW : PT X e (wT X e) := ⟨fun pins s σ H Q I h => h pins s I⟩
theorem pwW : PW X e (wW X e) := ⟨fun wh pins s σ H Q I h => h wh pins s I⟩
theorem pcW {op : CmpOp} {a b : Expr} : PC X op a b (wC X op a b) := ⟨fun pins s σ H Q I h => h pins s I⟩
theorem paW : PA X es (wA X es) := ⟨fun pos pins s σ H Q I h => h pos pins s I⟩
theorem psW : PS X st (wS X st) := ⟨fun pins s σ H Q I h => h pins s I⟩
theorem pssW : PSs X sts (wSs X sts) := ⟨fun pins s σ H Q I h => h pins s I⟩
theorem ofPE {t : TE} (h : PE X e t) {σ : L2.St} {H : Hp} {Q : VK} (q : t σ H Q) : wE X e σ H Q := fun pins s I => h.run pins s σ H Q I q
theorem ofPT {t : TT} (h : PT X e t) {σ : L2.St} {H : Hp} {Q : Bool → Hp → Prop} (q : t σ H Q) : wT X e σ H Q := fun pins s I => h.run pins s σ H Q I q
theorem ofPW {t : TT} (h : PW X e t) {σ : L2.St} {H : Hp} {Q : Bool → Hp → Prop} (q : t σ H Q) : wW X e σ H Q := fun wh pins s I => h.run wh pins s σ H Q I q
theorem ofPA {t : TA} (h : PA X es t) {σ : L2.St} {H : Hp} {Q : List V → Hp → Prop} (q : t σ H Q) : wA X es σ H Q := fun pos pins s I => h.run pos pins s σ H Q I q
theorem ofPS {t : TS} (h : PS X st t) {σ : L2.St} {H : Hp} {Dn : Ends} (q : t Dn σ H) : wS X st Dn σ H := fun pins s I => h.run pins s σ H Dn I q
theorem ofPSs {t : TS} (h : PSs X sts t) {σ : L2.St} {H : Hp} {Dn : Ends} (q : t Dn σ H) : wSs X sts Dn σ H := fun pins s I => h.run pins s σ H Dn I q
end

/-! ### the slots hold data -/
abbrev Dl := List (Option D)
structure Sl (K : PySem.W.Frag) (m : Md) (C : Addr) (H : Hp) (σ : L2.St) (δ : Dl) : Prop where
  len : σ.length = δ.length
  at_ : ∀ (i : Nat) (d : D), δ[i]? = some (some d) → ∃ v, σ[i]? = some (some v) ∧ Rp K m C H d v
  bag : ∀ p, m.bag = some p → BagAt H m.more p
  more : ∀ a ∈ m.more, H a ≠ none
section
variable {K : PySem.W.Frag} {m : Md} {C : Addr} {H H' : Hp} {σ : L2.St} {δ : Dl}
theorem Sl.le (l : Le m H H') (E : Sl K m C H σ δ) : Sl K m C H' σ δ :=
  ⟨E.len, fun i d h => let ⟨v, h1, h2⟩ := E.at_ i d h; ⟨v, h1, h2.le l⟩, fun p h => l.bag p h (E.bag p h), fun a h z => by
    cases e : H a with
    | none => exact E.more a h e
    | some o =>
      rw [l.keep a o e fun hb => by
        obtain ⟨_, _, _, _, _, _, _, _, h4, _⟩ := E.bag a hb
        exact absurd h h4] at z
      cases z⟩
theorem Sl.alloc (E : Sl K m C H σ δ) : ∀ a, m.mut a → H a ≠ none := fun a h => by
  rcases h with h | h
  · obtain ⟨_, _, _, _, _, h1, _⟩ := E.bag a h
    rw [h1]
    intro z
    cases z
  · exact E.more a h
theorem Sl.back (E : Sl K m C H σ δ) (l : Le m H H') {p : Addr} (h : H' p = none) : H p = none := l.free E.bag h
theorem Sl.new (E : Sl K m C H σ δ) {p : Addr} (h : H p = none) : ¬ m.mut p := fun z => E.alloc p z h
theorem Sl.set (E : Sl K m C H σ δ) {i : Nat} {v : V} {d : D} (r : Rp K m C H d v) : Sl K m C H (σ.set i (some v)) (δ.set i (some d)) := by
  refine ⟨by rw [List.length_set, List.length_set]; exact E.len, fun j e h => ?_, E.bag, E.more⟩
  by_cases hj : i = j
  · subst hj
    have hi : i < δ.length := by
      have := (List.getElem?_eq_some_iff.mp h).1
      rwa [List.length_set] at this
    rw [List.getElem?_set_self hi] at h
    cases h
    exact ⟨v, List.getElem?_set_self (by rw [E.len]; exact hi), r⟩
  · rw [List.getElem?_set_ne hj] at h
    rw [List.getElem?_set_ne hj]
    exact E.at_ j e h
theorem Sl.unset (E : Sl K m C H σ δ) {i : Nat} {o : Option V} : Sl K m C H (σ.set i o) (δ.set i none) := by
  refine ⟨by rw [List.length_set, List.length_set]; exact E.len, fun j e h => ?_, E.bag, E.more⟩
  by_cases hj : i = j
  · subst hj
    have hi : i < δ.length := by
      have := (List.getElem?_eq_some_iff.mp h).1
      rwa [List.length_set] at this
    rw [List.getElem?_set_self hi] at h
    cases h
  · rw [List.getElem?_set_ne hj] at h
    rw [List.getElem?_set_ne hj]
    exact E.at_ j e h
end

/-! ### what an expression comes to -/
section
variable (X : Cx) (m : Md) (C : Addr) (δ : Dl)
def EvP (e : Expr) (P : D → Prop) : Prop := ∀ σ H, Sl X.K m C H σ δ → ∀ Q : VK, (∀ d v H2, P d → Le m H H2 → Rp X.K m C H2 d v → Q v H2) → wE X e σ H Q
abbrev Ev (e : Expr) (d : D) : Prop := EvP X m C δ e (fun z => z = d)
/-- a test -/
def EvT (e : Expr) (b : Bool) : Prop := ∀ σ H, Sl X.K m C H σ δ → ∀ Q : Bool → Hp → Prop, (∀ H2, Le m H H2 → Q b H2) → wT X e σ H Q
def EvC (op : CmpOp) (a b : Expr) (d : D) : Prop := ∀ σ H, Sl X.K m C H σ δ → ∀ Q : VK, (∀ v H2, Le m H H2 → Rp X.K m C H2 d v → Q v H2) → wC X op a b σ H Q
def EvW (e : Expr) (b : Bool) : Prop := ∀ σ H, Sl X.K m C H σ δ → ∀ Q : Bool → Hp → Prop, (∀ H2, Le m H H2 → Q b H2) → wW X e σ H Q
def EvA (es : List Expr) (P : List D → Prop) : Prop := ∀ σ H, Sl X.K m C H σ δ → ∀ Q : List V → Hp → Prop, (∀ ds vs H2, P ds → Le m H H2 → RpAll X.K m C H2 ds vs → Q vs H2) → wA X es σ H Q
end
section
variable {X : Cx} {m : Md} {C : Addr} {δ : Dl} {a b c e : Expr} {es : List Expr} {pos p1 p2 p3 : Pos} {x y z d : D} {es' : List D}
theorem Ev.mk (h : ∀ σ H, Sl X.K m C H σ δ → ∀ Q : VK, (∀ v H2, Le m H H2 → Rp X.K m C H2 d v → Q v H2) → wE X e σ H Q) : Ev X m C δ e d :=
  fun σ H E Q q => h σ H E Q fun v H2 l r => q d v H2 rfl l r
theorem Ev.go (h : Ev X m C δ e d) {σ : L2.St} {H : Hp} (E : Sl X.K m C H σ δ) {Q : VK} (q : ∀ v H2, Le m H H2 → Rp X.K m C H2 d v → Q v H2) : wE X e σ H Q :=
  h σ H E Q fun d' v H2 e l r => q v H2 l (e ▸ r)
theorem Ev.is (h : Ev X m C δ e x) (q : x = y) : Ev X m C δ e y := q ▸ h
theorem EvP.imp {P P' : D → Prop} (h : EvP X m C δ e P) (q : ∀ d, P d → P' d) : EvP X m C δ e P' := fun σ H E Q k => h σ H E Q fun d v H2 p => k d v H2 (q d p)
theorem EvT.is {u v : Bool} (h : EvT X m C δ e u) (q : u = v) : EvT X m C δ e v := q ▸ h

theorem ev_name (i : Nat) {n : Str} (hδ : δ[i]? = some (some d) := by rfl) (hN : X.N[i]? = some n := by rfl) (hv : Vis X.env.scope n := by first | exact Or.inl rfl | exact Or.inr (Or.inl rfl) | exact Or.inr (Or.inr rfl))
    (hd : (n == ("__debug__" : Str)) = false := by decide) (hcd : (n == ("__classdict__" : Str)) = false := by decide) : Ev X m C δ (.Name n pos) d := .mk fun σ H E Q q => by
  obtain ⟨v, h1, h2⟩ := E.at_ i d hδ
  exact ofPE (pe_var hN hv hd hcd) ⟨v, h1, q v H (.refl m H) h2⟩
theorem ev_int {i : Int} {j : Nat} : Ev X m C δ (.Constant (.int i) j pos) (.int i) := .mk fun σ H E Q q => ofPE pe_int (q _ H (.refl m H) rfl)
theorem ev_bl {i : Bool} {j : Nat} : Ev X m C δ (.Constant (.bool i) j pos) (.bl i) := .mk fun σ H E Q q => ofPE pe_bl (q _ H (.refl m H) rfl)
theorem ev_non {j : Nat} : Ev X m C δ (.Constant .none j pos) .non := .mk fun σ H E Q q => ofPE pe_non (q _ H (.refl m H) rfl)
theorem ev_str {i : Str} {j : Nat} : Ev X m C δ (.Constant (.str i) j pos) (.str i) := .mk fun σ H E Q q => ofPE pe_str (q _ H (.refl m H) rfl)
theorem ev_globI {n : Str} {i : Int} {t : Tok} (hm : X.mg n = some (.int i t)) (hg : Gl X n := by rfl) (hd : (n == ("__debug__" : Str)) = false := by decide) : Ev X m C δ (.Name n pos) (.int i) := .mk fun σ H E Q q =>
  ofPE (pe_glob (v := .int i) hg hm ⟨_, rfl⟩ hd) (q _ H (.refl m H) rfl)
theorem ev_globR {n : Str} {p : Addr} (hm : X.mg n = some (.ref p)) (hr : ∀ H, Rp X.K m C H d (.ref p)) (hg : Gl X n := by rfl) (hd : (n == ("__debug__" : Str)) = false := by decide) : Ev X m C δ (.Name n pos) d := .mk fun σ H E Q q =>
  ofPE (pe_glob (v := .ref p) hg hm rfl hd) (q _ H (.refl m H) (hr H))

/-- two operands, by values -/
theorem ev_op {op : Operator} {r : R2} (ho : OpR X (binaryOp op) r) (ha : Ev X m C δ a x) (hb : Ev X m C δ b y)
    (hr : ∀ u v σ H, Sl X.K m C H σ δ → Rp X.K m C H x u → Rp X.K m C H y v → ∀ Q : VK, (∀ w H2, Le m H H2 → Rp X.K m C H2 z w → Q w H2) → r u v H Q) : Ev X m C δ (.BinOp a op b pos) z := .mk fun σ H E Q q =>
  ofPE (pe_op ho peW peW) (ha.go E fun u H1 l1 r1 => hb.go (E.le l1) fun v H2 l2 r2 => hr u v σ H2 (E.le (l1.trans l2)) (r1.le l2) r2 Q fun w H3 l3 r3 => q w H3 ((l1.trans l2).trans l3) r3)
theorem ec_op {op : CmpOp} {r : R2} (ho : OpR X (compareOp op) r) (ha : Ev X m C δ a x) (hb : Ev X m C δ b y)
    (hr : ∀ u v σ H, Sl X.K m C H σ δ → Rp X.K m C H x u → Rp X.K m C H y v → ∀ Q : VK, (∀ w H2, Le m H H2 → Rp X.K m C H2 z w → Q w H2) → r u v H Q) : EvC X m C δ op a b z := fun σ H E Q q pins s I =>
  bin (R := fun u v H2 => r u v H2 Q) peW peW I (ha.go E fun u H1 l1 r1 => hb.go (E.le l1) fun v H2 l2 r2 => hr u v σ H2 (E.le (l1.trans l2)) (r1.le l2) r2 Q fun w H3 l3 r3 => q w H3 ((l1.trans l2).trans l3) r3)
    fun v u s2 x y H2 I2 rx ry h => ho pins s2 σ H2 x y v u Q I2 rx ry h
theorem ev_cmp {op : CmpOp} (h : EvC X m C δ op a b d) (h1 : behindInMarks op b = false := by first | exact nobehind _ (by decide) (by decide) | rfl) : Ev X m C δ (.Compare a [op] [b] pos) d := .mk fun σ H E Q q => ofPE (pe_cmp pcW h1) (h σ H E Q q)
theorem et_cmp {op : CmpOp} {t t' : Bool} (h : EvC X m C δ op a b (.bl t)) (e : t = t' := by rfl) (h1 : behindInMarks op b = false := by first | exact nobehind _ (by decide) (by decide) | rfl) : EvT X m C δ (.Compare a [op] [b] pos) t' := fun σ H E Q q =>
  ofPT (pt_cmp pcW h1) (h σ H E _ fun v H1 l1 r1 => ⟨t', by rw [← e]; exact r1, q H1 l1⟩)
/-- any expression that comes to a bool, as a test -/
theorem et_val {t : Bool} (h : Ev X m C δ e (.bl t)) (he : ∀ whole, isTrue e X.env whole = (do let v ← whole; standAt e.pos; holding [v] (truthy v)) := by intro _; rfl) : EvT X m C δ e t := fun σ H E Q q =>
  ofPT (pt_val peW he) (h.go E fun v H1 l1 r1 => ⟨t, r1, q H1 l1⟩)
theorem et_not {t : Bool} (h : EvT X m C δ e t) : EvT X m C δ (.UnaryOp .Not e pos) (!t) := fun σ H E Q q => ofPT (pt_not ptW) (h σ H E _ fun H1 l1 => q H1 l1)
theorem et_ww {t : Bool} (h : EvW X m C δ e t) : EvT X m C δ e t := fun σ H E Q q => ofPT (PW.pt pwW) (h σ H E Q q)
theorem ew_and1 {t : Bool} (h : EvT X m C δ a t) : EvW X m C δ (.BoolOp .And [a] pos) t := fun σ H E Q q => ofPW (pw_and1 ptW) (h σ H E Q q)
theorem ew_or1 {t : Bool} (h : EvT X m C δ a t) : EvW X m C δ (.BoolOp .Or [a] pos) t := fun σ H E Q q => ofPW (pw_or1 ptW) (h σ H E Q q)
theorem ew_andF {rest : List Expr} (h : EvT X m C δ a false) : EvW X m C δ (.BoolOp .And (a :: b :: rest) pos) false := fun σ H E Q q => ofPW (pw_and ptW pwW) (h σ H E _ fun H1 l1 => iteF (q H1 l1))
theorem ew_andT {rest : List Expr} {t : Bool} (h : EvT X m C δ a true) (h2 : EvW X m C δ (.BoolOp .And (b :: rest) pos) t) : EvW X m C δ (.BoolOp .And (a :: b :: rest) pos) t := fun σ H E Q q =>
  ofPW (pw_and ptW pwW) (h σ H E _ fun H1 l1 => iteT (h2 σ H1 (E.le l1) Q fun H2 l2 => q H2 (l1.trans l2)))
theorem ew_and {rest : List Expr} {t u : Bool} (h : EvT X m C δ a t) (h2 : t = true → EvW X m C δ (.BoolOp .And (b :: rest) pos) u) : EvW X m C δ (.BoolOp .And (a :: b :: rest) pos) (t && u) := by
  cases t with
  | true => exact ew_andT h (h2 rfl)
  | false => exact ew_andF h
theorem ew_orT {rest : List Expr} (h : EvT X m C δ a true) : EvW X m C δ (.BoolOp .Or (a :: b :: rest) pos) true := fun σ H E Q q => ofPW (pw_or ptW pwW) (h σ H E _ fun H1 l1 => iteT (q H1 l1))
theorem ew_orF {rest : List Expr} {t : Bool} (h : EvT X m C δ a false) (h2 : EvW X m C δ (.BoolOp .Or (b :: rest) pos) t) : EvW X m C δ (.BoolOp .Or (a :: b :: rest) pos) t := fun σ H E Q q =>
  ofPW (pw_or ptW pwW) (h σ H E _ fun H1 l1 => iteF (h2 σ H1 (E.le l1) Q fun H2 l2 => q H2 (l1.trans l2)))
theorem ew_or {rest : List Expr} {t u : Bool} (h : EvT X m C δ a t) (h2 : t = false → EvW X m C δ (.BoolOp .Or (b :: rest) pos) u) : EvW X m C δ (.BoolOp .Or (a :: b :: rest) pos) (t || u) := by
  cases t with
  | true => exact ew_orT h
  | false => exact ew_orF h (h2 rfl)
/-- .. as values -/
theorem ev_one {op} (h : Ev X m C δ a d) : Ev X m C δ (.BoolOp op [a] pos) d := .mk fun σ H E Q q => ofPE (pe_one peW) (h.go E q)
theorem ev_and {rest : List Expr} {t u : Bool} (h : Ev X m C δ a (.bl t)) (h2 : t = true → Ev X m C δ (.BoolOp .And (b :: rest) pos) (.bl u)) : Ev X m C δ (.BoolOp .And (a :: b :: rest) pos) (.bl (t && u)) := .mk fun σ H E Q q =>
  ofPE (pe_and peW peW) (h.go E fun v H1 l1 r1 => ⟨t, r1, by
    cases t with
    | true => exact iteT ((h2 rfl).go (E.le l1) fun w H2 l2 r2 => q w H2 (l1.trans l2) r2)
    | false => exact iteF (q _ H1 l1 rfl)⟩)
theorem ev_or {rest : List Expr} {t u : Bool} (h : Ev X m C δ a (.bl t)) (h2 : t = false → Ev X m C δ (.BoolOp .Or (b :: rest) pos) (.bl u)) : Ev X m C δ (.BoolOp .Or (a :: b :: rest) pos) (.bl (t || u)) := .mk fun σ H E Q q =>
  ofPE (pe_or peW peW) (h.go E fun v H1 l1 r1 => ⟨t, r1, by
    cases t with
    | false => exact iteF ((h2 rfl).go (E.le l1) fun w H2 l2 r2 => q w H2 (l1.trans l2) r2)
    | true => exact iteT (q _ H1 l1 rfl)⟩)
theorem ev_not {t : Bool} (h : Ev X m C δ a (.bl t)) : Ev X m C δ (.UnaryOp .Not a pos) (.bl (!t)) := .mk fun σ H E Q q => ofPE (pe_not peW) (h.go E fun v H1 l1 r1 => ⟨t, r1, q _ H1 l1 rfl⟩)
theorem ev_ifT (hc : EvT X m C δ c true) (h : Ev X m C δ a d) : Ev X m C δ (.IfExp c a b pos) d := .mk fun σ H E Q q =>
  ofPE (pe_ifExp ptW peW peW) (hc σ H E _ fun H1 l1 => iteT (h.go (E.le l1) fun v H2 l2 r2 => q v H2 (l1.trans l2) r2))
theorem ev_ifF (hc : EvT X m C δ c false) (h : Ev X m C δ b d) : Ev X m C δ (.IfExp c a b pos) d := .mk fun σ H E Q q =>
  ofPE (pe_ifExp ptW peW peW) (hc σ H E _ fun H1 l1 => iteF (h.go (E.le l1) fun v H2 l2 r2 => q v H2 (l1.trans l2) r2))
theorem ev_if {t : Bool} (hc : EvT X m C δ c t) (h1 : t = true → Ev X m C δ a d) (h2 : t = false → Ev X m C δ b d) : Ev X m C δ (.IfExp c a b pos) d := by
  cases t with
  | true => exact ev_ifT hc (h1 rfl)
  | false => exact ev_ifF hc (h2 rfl)

/-! ### intsF -/
theorem ev_add {i j : Int} (ha : Ev X m C δ a (.int i)) (hb : Ev X m C δ b (.int j)) : Ev X m C δ (.BinOp a .Add b pos) (.int (i + j)) := ev_op op_add ha hb fun u v σ H E hu hv Q q => ⟨i, j, hu, hv, q _ H (.refl m H) rfl⟩
theorem ev_sub {i j : Int} (ha : Ev X m C δ a (.int i)) (hb : Ev X m C δ b (.int j)) : Ev X m C δ (.BinOp a .Sub b pos) (.int (i - j)) := ev_op op_sub ha hb fun u v σ H E hu hv Q q => ⟨i, j, hu, hv, q _ H (.refl m H) rfl⟩
theorem ev_mul {i j : Int} (ha : Ev X m C δ a (.int i)) (hb : Ev X m C δ b (.int j)) (hc : CMul i j) : Ev X m C δ (.BinOp a .Mult b pos) (.int (i * j)) := ev_op op_mul ha hb fun u v σ H E hu hv Q q => ⟨i, j, hu, hv, hc, q _ H (.refl m H) rfl⟩
theorem ev_mod {i j : Int} (ha : Ev X m C δ a (.int i)) (hb : Ev X m C δ b (.int j)) (hc : 0 < j) : Ev X m C δ (.BinOp a .Mod b pos) (.int (i % j)) := ev_op op_mod ha hb fun u v σ H E hu hv Q q => ⟨i, j, hu, hv, hc, q _ H (.refl m H) rfl⟩
theorem ev_fdiv {i j : Int} (ha : Ev X m C δ a (.int i)) (hb : Ev X m C δ b (.int j)) (hc : CDiv i j) : Ev X m C δ (.BinOp a .FloorDiv b pos) (.int (i / j)) := ev_op op_fdiv ha hb fun u v σ H E hu hv Q q => ⟨i, j, hu, hv, hc, q _ H (.refl m H) rfl⟩
theorem ev_pow {i j : Int} (ha : Ev X m C δ a (.int i)) (hb : Ev X m C δ b (.int j)) (hc : CPow i j) : Ev X m C δ (.BinOp a .Pow b pos) (.int (i ^ j.toNat)) := ev_op op_pow ha hb fun u v σ H E hu hv Q q => ⟨i, j, hu, hv, hc, q _ H (.refl m H) rfl⟩
theorem ev_neg {i : Int} (ha : Ev X m C δ a (.int i)) : Ev X m C δ (.UnaryOp .USub a pos) (.int (-i)) := .mk fun σ H E Q q => ofPE (pe_un un_neg peW) (ha.go E fun v H1 l1 r1 => ⟨i, r1, q _ H1 l1 rfl⟩)
theorem ec_lt {i j : Int} (ha : Ev X m C δ a (.int i)) (hb : Ev X m C δ b (.int j)) : EvC X m C δ .Lt a b (.bl (decide (i < j))) := ec_op op_lt ha hb fun u v σ H E hu hv Q q => ⟨i, j, hu, hv, q _ H (.refl m H) rfl⟩
theorem ec_le {i j : Int} (ha : Ev X m C δ a (.int i)) (hb : Ev X m C δ b (.int j)) : EvC X m C δ .LtE a b (.bl (decide (i ≤ j))) := ec_op op_le ha hb fun u v σ H E hu hv Q q => ⟨i, j, hu, hv, q _ H (.refl m H) rfl⟩
theorem ec_gt {i j : Int} (ha : Ev X m C δ a (.int i)) (hb : Ev X m C δ b (.int j)) : EvC X m C δ .Gt a b (.bl (decide (j < i))) := ec_op op_gt ha hb fun u v σ H E hu hv Q q => ⟨i, j, hu, hv, q _ H (.refl m H) rfl⟩
theorem ec_ge {i j : Int} (ha : Ev X m C δ a (.int i)) (hb : Ev X m C δ b (.int j)) : EvC X m C δ .GtE a b (.bl (decide (j ≤ i))) := ec_op op_ge ha hb fun u v σ H E hu hv Q q => ⟨i, j, hu, hv, q _ H (.refl m H) rfl⟩
/-- a scalar as a value -/
def D.sc : D → Option V
  | .int i => some (.int i)
  | .bl b => some (.bl b)
  | .str s => some (.str s)
  | _ => none
theorem sc_rp {K : PySem.W.Frag} {H : Hp} {u v : V} (h : d.sc = some u) (r : Rp K m C H d v) : v = u := by
  cases d <;> simp only [D.sc, Option.some.injEq, reduceCtorEq] at h <;> (subst h; exact r)
theorem ec_eq {u v : V} (ha : Ev X m C δ a x) (hb : Ev X m C δ b y) (hx : x.sc = some u := by rfl) (hy : y.sc = some v := by rfl) (hs : scal u v = true := by rfl) : EvC X m C δ .Eq a b (.bl (decide (u = v))) :=
  ec_op op_eq ha hb fun u' v' σ H E hu hv Q q => by
    rw [sc_rp hx hu, sc_rp hy hv]
    exact ⟨hs, q _ H (.refl m H) rfl⟩
theorem ec_ne {u v : V} (ha : Ev X m C δ a x) (hb : Ev X m C δ b y) (hx : x.sc = some u := by rfl) (hy : y.sc = some v := by rfl) (hs : scal u v = true := by rfl) : EvC X m C δ .NotEq a b (.bl (!decide (u = v))) :=
  ec_op op_ne ha hb fun u' v' σ H E hu hv Q q => by
    rw [sc_rp hx hu, sc_rp hy hv]
    exact ⟨hs, q _ H (.refl m H) rfl⟩
/-- 0 <= x < n -/
theorem ev_chain {op op' : CmpOp} {i j k : Int} {f g : Int → Int → Bool} (ho : OpR X (compareOp op) (rI0 fun i j => .bl (f i j))) (ho' : OpR X (compareOp op') (rI0 fun i j => .bl (g i j)))
    (ha : Ev X m C δ a (.int i)) (hb : Ev X m C δ b (.int j)) (hc : Ev X m C δ c (.int k)) (hm : lastMarks [op, op'] [b, c] = false := by with_unfolding_all rfl) :
    Ev X m C δ (.Compare a [op, op'] [b, c] pos) (.bl (f i j && g j k)) := .mk fun σ H E Q q =>
  ofPE (pe_chain ho ho' peW peW peW hm) (ha.go E fun u H1 l1 r1 => hb.go (E.le l1) fun v H2 l2 r2 => ⟨i, j, r1, r2, f i j, rfl, by
    cases hf : f i j with
    | true => exact iteT (hc.go (E.le (l1.trans l2)) fun w H3 l3 r3 => ⟨j, k, r2, r3, q _ H3 ((l1.trans l2).trans l3) (by rw [hf]; rfl)⟩)
    | false => exact iteF (q _ H2 (l1.trans l2) (by rw [hf]; rfl))⟩)

/-! ### argument lists, tuples, lists -/
theorem EvA.go {ds : List D} (h : EvA X m C δ es (fun z => z = ds)) {σ : L2.St} {H : Hp} (E : Sl X.K m C H σ δ) {Q : List V → Hp → Prop} (q : ∀ vs H2, Le m H H2 → RpAll X.K m C H2 ds vs → Q vs H2) : wA X es σ H Q :=
  h σ H E Q fun ds' vs H2 e l r => q vs H2 l (e ▸ r)
theorem ea_nil : EvA X m C δ [] (fun z => z = []) := fun σ H E Q q => ofPA pa_nil (q [] [] H rfl (.refl m H) rfl)
theorem ea_cons {ds : List D} (h : Ev X m C δ e d) (hr : EvA X m C δ es (fun z => z = ds)) (hs : starEach (e :: es) X.env = (false, eval e X.env) :: starEach es X.env := by rfl) : EvA X m C δ (e :: es) (fun z => z = d :: ds) := fun σ H E Q q =>
  ofPA (pa_cons peW paW hs) (h.go E fun v H1 l1 r1 => hr.go (E.le l1) fun vs H2 l2 r2 => q (d :: ds) (v :: vs) H2 rfl (l1.trans l2) ⟨v, vs, rfl, r1.le l2, r2⟩)
/-- with sets of data -/
theorem ea_consP {P : D → Prop} {R : List D → Prop} (h : EvP X m C δ e P) (hr : EvA X m C δ es R) (hs : starEach (e :: es) X.env = (false, eval e X.env) :: starEach es X.env := by rfl) : EvA X m C δ (e :: es) (fun z => ∃ d ds, z = d :: ds ∧ P d ∧ R ds) := fun σ H E Q q =>
  ofPA (pa_cons peW paW hs) (h σ H E _ fun d v H1 p1 l1 r1 => hr σ H1 (E.le l1) _ fun ds vs H2 p2 l2 r2 => q (d :: ds) (v :: vs) H2 ⟨d, ds, rfl, p1, p2⟩ (l1.trans l2) ⟨v, vs, rfl, r1.le l2, r2⟩)
theorem ev_tupP {R : List D → Prop} {k : Nat} (h : EvA X m C δ es R) (hz : ∀ ds, R ds → ds.length ≤ 1000) : EvP X m C δ (.Tuple es k pos) (fun z => ∃ ds, z = .tup ds ∧ R ds) := fun σ H E Q q =>
  ofPE (pe_tup paW) (h σ H E _ fun ds vs H1 p l1 r1 => ⟨by rw [r1.length]; exact Nat.le_of_lt (small1000 (hz ds p)), fun p' np => q (.tup ds) _ _ ⟨ds, rfl, p⟩ (l1.trans (.new np)) ⟨p', vs, rfl, SqT.of upd_same, r1.le (.new np)⟩⟩)
theorem ev_tup {ds : List D} {k : Nat} (h : EvA X m C δ es (fun z => z = ds)) (hz : ds.length ≤ 1000 := by first | decide | simp) : Ev X m C δ (.Tuple es k pos) (.tup ds) :=
  EvP.imp (ev_tupP h fun ds' e => e ▸ hz) fun z ⟨ds', e1, e2⟩ => by rw [e1, e2]
theorem ev_lstP {R : List D → Prop} (h : EvA X m C δ es R) (hz : ∀ ds, R ds → ds.length ≤ 1000) : EvP X m C δ (.List es pos) (fun z => ∃ ds, z = .lst ds ∧ R ds) := fun σ H E Q q =>
  ofPE (pe_lst paW) (h σ H E _ fun ds vs H1 p l1 r1 => ⟨by rw [r1.length]; exact Nat.le_of_lt (small1000 (hz ds p)), fun p' np => q (.lst ds) _ _ ⟨ds, rfl, p⟩ (l1.trans (.new np)) ⟨p', vs, rfl, upd_same, (E.le l1).new np, r1.le (.new np)⟩⟩)
theorem ev_lst {ds : List D} (h : EvA X m C δ es (fun z => z = ds)) (hz : ds.length ≤ 1000 := by first | decide | simp) : Ev X m C δ (.List es pos) (.lst ds) :=
  EvP.imp (ev_lstP h fun ds' e => e ▸ hz) fun z ⟨ds', e1, e2⟩ => by rw [e1, e2]
theorem atI_rp {K : PySem.W.Frag} {H : Hp} {ds : List D} {xs : List V} {i : Int} (r : RpAll K m C H ds xs) (h : atI ds i = some d) : ∃ v, atI xs i = some v ∧ Rp K m C H d v := by
  unfold atI at h ⊢
  rw [r.length]
  cases e : ixN ds.length i with
  | none =>
    rw [e] at h
    cases h
  | some j =>
    rw [e] at h
    exact r.get h
theorem ev_ixT {ds : List D} {i : Int} (ha : Ev X m C δ a (.tup ds)) (hb : Ev X m C δ b (.int i)) (h : atI ds i = some d := by rfl) (hs : PlainIx b := by exact fun _ _ => rfl) : Ev X m C δ (.Subscript a b pos) d := .mk fun σ H E Q q =>
  ofPE (pe_ix ix_tup peW peW hs) (ha.go E fun u H1 l1 ⟨p, xs, e1, h1, r1⟩ => hb.go (E.le l1) fun v H2 l2 r2 => by
    obtain ⟨w, h3, r3⟩ := atI_rp (r1.le l2) h
    exact ⟨p, xs, i, w, e1, r2, sqT_le l2 h1, h3, q w H2 (l1.trans l2) r3⟩)
theorem ev_ixL {ds : List D} {i : Int} (ha : Ev X m C δ a (.lst ds)) (hb : Ev X m C δ b (.int i)) (h : atI ds i = some d := by rfl) (hs : PlainIx b := by exact fun _ _ => rfl) : Ev X m C δ (.Subscript a b pos) d := .mk fun σ H E Q q =>
  ofPE (pe_ix ix_list peW peW hs) (ha.go E fun u H1 l1 ⟨p, xs, e1, h1, h0, r1⟩ => hb.go (E.le l1) fun v H2 l2 r2 => by
    obtain ⟨w, h3, r3⟩ := atI_rp (r1.le l2) h
    exact ⟨p, xs, i, w, e1, r2, SqL.of (l2.keep _ _ h1 fun z => absurd (.inl z) h0), h3, q w H2 (l1.trans l2) r3⟩)
/-- slices -/
def EvO (X : Cx) (m : Md) (C : Addr) (δ : Dl) (e : Option Expr) (o : Option Int) : Prop := ∃ t, PO X e t ∧ ∀ σ H, Sl X.K m C H σ δ → ∀ Q : Option Int → Hp → Prop, (∀ H2, Le m H H2 → Q o H2) → t σ H Q
theorem eo_none : EvO X m C δ none none := ⟨_, po_none, fun σ H E Q q => q H (.refl m H)⟩
theorem eo_some {i : Int} (h : Ev X m C δ e (.int i)) : EvO X m C δ (some e) (some i) := ⟨_, po_some peW, fun σ H E Q q => h.go E fun v H1 l1 r1 => ⟨i, r1, q H1 l1⟩⟩
def cutD (ds : List D) (lo hi : Option Int) : List D := (ds.drop (HT.sIx ds.length 0 lo)).take (HT.sIx ds.length ds.length hi - HT.sIx ds.length 0 lo)
theorem cut_rp {K : PySem.W.Frag} {H : Hp} {ds : List D} {xs : List V} {lo hi : Option Int} (r : RpAll K m C H ds xs) : RpAll K m C H (cutD ds lo hi) (cutV xs lo hi) := by
  unfold cutD cutV
  rw [r.length]
  exact (r.drop _).take _
theorem ev_slT {ds : List D} {lo hi : Option Expr} {l u : Option Int} (ha : Ev X m C δ a (.tup ds)) (hl : EvO X m C δ lo l) (hh : EvO X m C δ hi u) (hd : cutD ds l u = es' := by rfl) : Ev X m C δ (.Subscript a (.Slice lo hi none p2) pos) (.tup es') := .mk fun σ H E Q q => by
  obtain ⟨tl, pl, el⟩ := hl
  obtain ⟨th, ph, eh⟩ := hh
  subst hd
  refine ofPE (pe_slice sl_tupA peW pl ph) (ha.go E fun v H1 l1 ⟨p, xs, e1, h1, r1⟩ => el σ H1 (E.le l1) _ fun H2 l2 => eh σ H2 (E.le (l1.trans l2)) _ fun H3 l3 => ?_)
  have l23 := l2.trans l3
  refine ⟨p, xs, e1, sqT_le l23 h1, fun hw => ?_, fun hw p' np => q _ _ ((l1.trans l23).trans (.new np)) ⟨p', _, rfl, SqT.of upd_same, cut_rp ((r1.le l23).le (.new np))⟩⟩
  refine q _ _ (l1.trans l23) ⟨p, xs, rfl, sqT_le l23 h1, ?_⟩
  have c : RpAll X.K m C H3 (cutD ds l u) (cutV xs l u) := cut_rp (r1.le l23)
  have e : cutV xs l u = xs := by
    unfold cutV
    rw [hw.1, hw.2, List.drop_zero, Nat.sub_zero, List.take_length]
  rwa [e] at c
theorem ev_slL {ds : List D} {lo hi : Option Expr} {l u : Option Int} (ha : Ev X m C δ a (.lst ds)) (hl : EvO X m C δ lo l) (hh : EvO X m C δ hi u) (hd : cutD ds l u = es' := by rfl) : Ev X m C δ (.Subscript a (.Slice lo hi none p2) pos) (.lst es') := .mk fun σ H E Q q => by
  obtain ⟨tl, pl, el⟩ := hl
  obtain ⟨th, ph, eh⟩ := hh
  subst hd
  refine ofPE (pe_slice sl_list peW pl ph) (ha.go E fun v H1 l1 ⟨p, xs, e1, h1, h0, r1⟩ => el σ H1 (E.le l1) _ fun H2 l2 => eh σ H2 (E.le (l1.trans l2)) _ fun H3 l3 => ?_)
  have l23 := l2.trans l3
  exact ⟨p, xs, e1, SqL.of (l23.keep _ _ h1 fun z => absurd (.inl z) h0), fun p' np => q _ _ ((l1.trans l23).trans (.new np)) ⟨p', _, rfl, upd_same, (E.le (l1.trans l23)).new np, cut_rp ((r1.le l23).le (.new np))⟩⟩
/-- t + u -/
theorem ev_cat {ds es' : List D} (ha : Ev X m C δ a (.tup ds)) (hb : Ev X m C δ b (.tup es')) (hz : ds.length + es'.length ≤ 1000 := by first | decide | simp) : Ev X m C δ (.BinOp a .Add b pos) (.tup (ds ++ es')) :=
  ev_op op_catA ha hb fun u v σ H E ⟨p, xs, e1, h1, r1⟩ ⟨p', ys, e2, h2, r2⟩ Q q => by
    have r12 : RpAll X.K m C H (ds ++ es') (xs ++ ys) := r1.append r2
    refine ⟨p, p', xs, ys, e1, e2, h1, h2, by rw [r1.length, r2.length]; exact Nat.le_of_lt (small1000 hz), fun z => ?_, fun _ z => ?_, fun _ _ n np => q _ _ (.new np) ⟨n, _, rfl, SqT.of upd_same, r12.le (.new np)⟩⟩
    · subst z
      exact q _ _ (.refl m H) ⟨p', ys, rfl, h2, by simpa using r12⟩
    · subst z
      exact q _ _ (.refl m H) ⟨p, xs, rfl, h1, by simpa using r12⟩
/-- xs + ys, lists -/
theorem ev_catL {ds es' : List D} (ha : Ev X m C δ a (.lst ds)) (hb : Ev X m C δ b (.lst es')) (hz : ds.length + es'.length ≤ 1000000) : Ev X m C δ (.BinOp a .Add b pos) (.lst (ds ++ es')) :=
  ev_op op_cat ha hb fun u v σ H E ⟨p, xs, e1, h1, _, r1⟩ ⟨p', ys, e2, h2, _, r2⟩ Q q =>
    ⟨p, p', xs, ys, e1, e2, h1, h2, by rw [r1.length, r2.length, sizeLine_eq]; omega, fun n np => q _ _ (.new np) ⟨n, _, rfl, upd_same, E.new np, (r1.append r2).le (.new np)⟩⟩
end
end PB

/-! built-ins, calls of defs, statements, comprehensions in the small logic -/
namespace PB
open PySem PySem.Spec PyProof.Rows L2

/-! ### types -/
def D.ty : D → Option String
  | .non => some "NoneType"
  | .bl _ => some "bool"
  | .int _ => some "int"
  | .str _ => some "str"
  | .tup _ => some "tuple"
  | .lst _ => some "list"
  | _ => none
theorem tyx {K : PySem.W.Frag} {m : Md} {C : Addr} {H : Hp} {d : D} {v : V} {T : String} (r : Rp K m C H d v) (h : d.ty = some T) : TyX K H v (.type T) := by
  cases d <;> simp only [D.ty, Option.some.injEq, reduceCtorEq] at h <;> subst h
  · cases (show v = .non from r); exact .base .non
  · rename_i b; cases (show v = .bl b from r); exact .base (.bl b)
  · rename_i i; cases (show v = .int i from r); exact .base (.int i)
  · rename_i s; cases (show v = .str s from r); exact .base (.str s)
  · obtain ⟨a, xs, rfl, h, _⟩ := r
    rcases h with (h | ⟨o, h⟩) | ⟨o, _, _, h, c, _⟩
    · exact .base (.tup h)
    · exact .fTuple h
    · exact .kTuple h c
  · obtain ⟨a, xs, rfl, h, _⟩ := r
    exact .base (.lst h)

section
variable {X : Cx} {m : Md} {C : Addr} {δ : Dl} {a b c e : Expr} {es : List Expr} {pos p1 p2 p3 : Pos} {x y z d : D} {es' : List D}

/-- a built-in function called with written arguments -/
theorem ev_callB {r : List V → Hp → VK → Prop} {id : String} {n : Str} {ds : List D} (hc : CallR X (.builtin id) r) (hm : X.mg n = none) (hv : bootBuiltins n = some (.builtin id)) (ha : EvA X m C δ (e :: es) (fun z => z = ds))
    (hr : ∀ vs σ H, Sl X.K m C H σ δ → RpAll X.K m C H ds vs → ∀ Q : VK, (∀ w H2, Le m H H2 → Rp X.K m C H2 z w → Q w H2) → r vs H Q) (hg : Gl X n := by rfl) (hn : n ≠ "__name__" := by decide) (hdb : (n == ("__debug__" : Str)) = false := by decide)
    (he : starEach (e :: es) X.env = (false, eval e X.env) :: starEach es X.env := by rfl) (hpl : (backTo pos (starEach es X.env)).any (·.1) = false := by rfl) : Ev X m C δ (.Call (.Name n p1) (e :: es) [] pos) z := .mk fun σ H E Q q =>
  ofPE (pe_callB hc hg hm hv paW hn hdb he hpl) (ha.go E fun vs H1 l1 r1 => hr vs σ H1 (E.le l1) r1 Q fun w H2 l2 r2 => q w H2 (l1.trans l2) r2)
theorem ev_callTy {r : List V → Hp → VK → Prop} {id : String} {n : Str} {ds : List D} (hc : CallR X (.type id) r) (hm : X.mg n = none) (hv : bootBuiltins n = some (.type id)) (ha : EvA X m C δ (e :: es) (fun z => z = ds))
    (hr : ∀ vs σ H, Sl X.K m C H σ δ → RpAll X.K m C H ds vs → ∀ Q : VK, (∀ w H2, Le m H H2 → Rp X.K m C H2 z w → Q w H2) → r vs H Q) (hg : Gl X n := by rfl) (hn : n ≠ "__name__" := by decide) (hdb : (n == ("__debug__" : Str)) = false := by decide)
    (he : starEach (e :: es) X.env = (false, eval e X.env) :: starEach es X.env := by rfl) (hpl : (backTo pos (starEach es X.env)).any (·.1) = false := by rfl) : Ev X m C δ (.Call (.Name n p1) (e :: es) [] pos) z := .mk fun σ H E Q q =>
  ofPE (pe_callTy hc hg hm hv paW hn hdb he hpl) (ha.go E fun vs H1 l1 r1 => hr vs σ H1 (E.le l1) r1 Q fun w H2 l2 r2 => q w H2 (l1.trans l2) r2)

/-- isinstance(x, T) -/
theorem ev_isi {T T0 : String} {n : Str} {t : Bool} (hi : X.mg "isinstance" = none) (hT : X.mg n = none) (hv : bootBuiltins n = some (.type T)) (h : Ev X m C δ e d) (ht : d.ty = some T0) (hk : kitB T0 T = some t)
    (hg : Gl X "isinstance" := by rfl) (hg2 : Gl X n := by rfl) (hn : n ≠ "__name__" := by decide) (hdb : (n == ("__debug__" : Str)) = false := by decide) (he : starEach [e, .Name n p2] X.env = (false, eval e X.env) :: starEach [.Name n p2] X.env := by rfl)
    (he2 : starEach [.Name n p2] X.env = (false, eval (.Name n p2) X.env) :: starEach [] X.env := by rfl) (hpl : (backTo pos (starEach [.Name n p2] X.env)).any (·.1) = false := by rfl) :
    Ev X m C δ (.Call (.Name "isinstance" p1) [e, .Name n p2] [] pos) (.bl t) := .mk fun σ H E Q q =>
  ofPE (pe_callB call_isi hg hi (by decide +kernel) (pa_cons peW (pa_cons (pe_bltn (v := .ty T) hg2 hT hv rfl hn hdb) pa_nil he2) he) (by decide) (by decide) he hpl) (h.go E fun v H1 l1 r1 =>
    ⟨v, .ty T, .type T0, .type T, t, rfl, .ty T, tyx r1 ht, kit_ty hk, q _ H1 l1 rfl⟩)
theorem ev_lenT {ds : List D} (hm : X.mg "len" = none) (h : Ev X m C δ e (.tup ds)) (hg : Gl X "len" := by rfl) (he : starEach [e] X.env = (false, eval e X.env) :: starEach [] X.env := by rfl) :
    Ev X m C δ (.Call (.Name "len" p1) [e] [] pos) (.int ds.length) :=
  ev_callB call_len_seq hm PySem.boot_len (ea_cons h ea_nil he) (fun vs σ H E ⟨v, _, e1, ⟨p, xs, e2, h1, r1⟩, e3⟩ Q q => by
    cases e3
    subst e1 e2
    exact ⟨p, xs, rfl, .inr h1, by rw [r1.length]; exact q _ H (.refl m H) rfl⟩) hg (by decide) (by decide) he
theorem ev_lenL {ds : List D} (hm : X.mg "len" = none) (h : Ev X m C δ e (.lst ds)) (hg : Gl X "len" := by rfl) (he : starEach [e] X.env = (false, eval e X.env) :: starEach [] X.env := by rfl) :
    Ev X m C δ (.Call (.Name "len" p1) [e] [] pos) (.int ds.length) :=
  ev_callB call_len_seq hm PySem.boot_len (ea_cons h ea_nil he) (fun vs σ H E ⟨v, _, e1, ⟨p, xs, e2, h1, _, r1⟩, e3⟩ Q q => by
    cases e3
    subst e1 e2
    exact ⟨p, xs, rfl, .inl (SqL.of h1), by rw [r1.length]; exact q _ H (.refl m H) rfl⟩) hg (by decide) (by decide) he
theorem one_rp {K : PySem.W.Frag} {H : Hp} {vs : List V} (h : RpAll K m C H [d] vs) : ∃ v, vs = [v] ∧ Rp K m C H d v := by
  obtain ⟨v, ws, e, r, e2⟩ := h
  cases e2
  exact ⟨v, e, r⟩
theorem two_rp {K : PySem.W.Frag} {H : Hp} {vs : List V} (h : RpAll K m C H [x, y] vs) : ∃ v w, vs = [v, w] ∧ Rp K m C H x v ∧ Rp K m C H y w := by
  obtain ⟨v, ws, e, r, w, us, e1, r1, e2⟩ := h
  cases e2
  exact ⟨v, w, e.trans (by rw [e1]), r, r1⟩
theorem ev_abs {i : Int} (hm : X.mg "abs" = none) (h : Ev X m C δ e (.int i)) (hg : Gl X "abs" := by rfl) (he : starEach [e] X.env = (false, eval e X.env) :: starEach [] X.env := by rfl) :
    Ev X m C δ (.Call (.Name "abs" p1) [e] [] pos) (.int (i.natAbs : Int)) :=
  ev_callB call_abs hm (by decide +kernel) (ea_cons h ea_nil he) (fun vs σ H E r0 Q q => by
    obtain ⟨v, rfl, r⟩ := one_rp r0
    cases (show v = .int i from r)
    refine ⟨i, rfl, ?_⟩
    have e : (if i < 0 then -i else i) = (i.natAbs : Int) := by split <;> omega
    rw [e]
    exact q _ H (.refl m H) rfl) hg (by decide) (by decide) he
theorem ev_intB {t : Bool} (hm : X.mg "int" = none) (h : Ev X m C δ e (.bl t)) (hg : Gl X "int" := by rfl) (he : starEach [e] X.env = (false, eval e X.env) :: starEach [] X.env := by rfl) :
    Ev X m C δ (.Call (.Name "int" p1) [e] [] pos) (.int (if t then 1 else 0)) :=
  ev_callTy call_int1 hm (by decide +kernel) (ea_cons h ea_nil he) (fun vs σ H E r0 Q q => by
    obtain ⟨v, rfl, r⟩ := one_rp r0
    cases (show v = .bl t from r)
    exact .inr ⟨t, rfl, q _ H (.refl m H) rfl⟩) hg (by decide) (by decide) he
theorem ev_intI {i : Int} (hm : X.mg "int" = none) (h : Ev X m C δ e (.int i)) (hg : Gl X "int" := by rfl) (he : starEach [e] X.env = (false, eval e X.env) :: starEach [] X.env := by rfl) :
    Ev X m C δ (.Call (.Name "int" p1) [e] [] pos) (.int i) :=
  ev_callTy call_int1 hm (by decide +kernel) (ea_cons h ea_nil he) (fun vs σ H E r0 Q q => by
    obtain ⟨v, rfl, r⟩ := one_rp r0
    cases (show v = .int i from r)
    exact .inl ⟨i, rfl, q _ H (.refl m H) rfl⟩) hg (by decide) (by decide) he
theorem ev_max2 {i j : Int} (hc : X.calm = true) (hm : X.mg "max" = none) (h : EvA X m C δ [a, b] (fun z => z = [.int i, .int j])) (hg : Gl X "max" := by rfl) (he : starEach [a, b] X.env = (false, eval a X.env) :: starEach [b] X.env := by rfl) (hpl : (backTo pos (starEach [b] X.env)).any (·.1) = false := by rfl) :
    Ev X m C δ (.Call (.Name "max" p1) [a, b] [] pos) (.int (if j > i then j else i)) :=
  ev_callB (call_max2 hc) hm (by decide +kernel) h (fun vs σ H E r0 Q q => by
    obtain ⟨v, w, rfl, r1, r2⟩ := two_rp r0
    cases (show v = .int i from r1)
    cases (show w = .int j from r2)
    exact ⟨i, j, rfl, q _ H (.refl m H) rfl⟩) hg (by decide) (by decide) he hpl
theorem ev_min2 {i j : Int} (hc : X.calm = true) (hm : X.mg "min" = none) (h : EvA X m C δ [a, b] (fun z => z = [.int i, .int j])) (hg : Gl X "min" := by rfl) (he : starEach [a, b] X.env = (false, eval a X.env) :: starEach [b] X.env := by rfl) (hpl : (backTo pos (starEach [b] X.env)).any (·.1) = false := by rfl) :
    Ev X m C δ (.Call (.Name "min" p1) [a, b] [] pos) (.int (if j < i then j else i)) :=
  ev_callB (call_min2 hc) hm (by decide +kernel) h (fun vs σ H E r0 Q q => by
    obtain ⟨v, w, rfl, r1, r2⟩ := two_rp r0
    cases (show v = .int i from r1)
    cases (show w = .int j from r2)
    exact ⟨i, j, rfl, q _ H (.refl m H) rfl⟩) hg (by decide) (by decide) he hpl
theorem ints_of {K : PySem.W.Frag} {H : Hp} {ns : List Int} {v : V} (h : Rp K m C H (.lst (ns.map D.int)) v) : ∃ p, v = .ref p ∧ SqL K H p (ns.map V.int) := by
  obtain ⟨p, xs, e, h1, _, r⟩ := h
  rw [r.ints_eq] at h1
  exact ⟨p, e, SqL.of h1⟩
theorem ev_sum {ns : List Int} (hc : X.calm = true) (hm : X.mg "sum" = none) (h : Ev X m C δ e (.lst (ns.map D.int))) (hg : Gl X "sum" := by rfl) (he : starEach [e] X.env = (false, eval e X.env) :: starEach [] X.env := by rfl) :
    Ev X m C δ (.Call (.Name "sum" p1) [e] [] pos) (.int ns.sum) :=
  ev_callB (cr_sum hc) hm (by decide +kernel) (ea_cons h ea_nil he) (fun vs σ H E r0 Q q => by
    obtain ⟨v, rfl, r⟩ := one_rp r0
    obtain ⟨p, rfl, h1⟩ := ints_of r
    exact ⟨p, ns, rfl, h1, q _ H (.refl m H) rfl⟩) hg (by decide) (by decide) he
/-- max of a list: the one that is greatest -/
theorem ev_maxL {ns : List Int} {k : Int} (hc : X.calm = true) (hm : X.mg "max" = none) (h : Ev X m C δ e (.lst (ns.map D.int))) (hk : k ∈ ns) (hk2 : ∀ y ∈ ns, y ≤ k) (hg : Gl X "max" := by rfl) (he : starEach [e] X.env = (false, eval e X.env) :: starEach [] X.env := by rfl) :
    Ev X m C δ (.Call (.Name "max" p1) [e] [] pos) (.int k) :=
  ev_callB (cr_max hc) hm (by decide +kernel) (ea_cons h ea_nil he) (fun vs σ H E r0 Q q => by
    obtain ⟨v, rfl, r⟩ := one_rp r0
    obtain ⟨p, rfl, h1⟩ := ints_of r
    refine ⟨p, ns, rfl, h1, List.length_pos_of_mem hk, fun k' i1 i2 => ?_⟩
    have e : k' = k := Int.le_antisymm (hk2 k' i1) (i2 k hk)
    rw [e]
    exact q _ H (.refl m H) rfl) hg (by decide) (by decide) he
theorem ev_all {bs : List Bool} (hc : X.calm = true) (hm : X.mg "all" = none) (h : Ev X m C δ e (.lst (bs.map D.bl))) (hg : Gl X "all" := by rfl) (he : starEach [e] X.env = (false, eval e X.env) :: starEach [] X.env := by rfl) :
    Ev X m C δ (.Call (.Name "all" p1) [e] [] pos) (.bl (bs.all id)) :=
  ev_callB (cr_all hc) hm (by decide +kernel) (ea_cons h ea_nil he) (fun vs σ H E r0 Q q => by
    obtain ⟨v, rfl, r⟩ := one_rp r0
    obtain ⟨p, xs, rfl, h1, _, rr⟩ := r
    rw [rr.bls_eq] at h1
    exact ⟨p, bs, rfl, SqL.of h1, q _ H (.refl m H) rfl⟩) hg (by decide) (by decide) he
/-- list(xs), tuple(xs) of a list -/
theorem ev_listL {ds : List D} (hm : X.mg "list" = none) (h : Ev X m C δ e (.lst ds)) (hg : Gl X "list" := by rfl) (he : starEach [e] X.env = (false, eval e X.env) :: starEach [] X.env := by rfl) :
    Ev X m C δ (.Call (.Name "list" p1) [e] [] pos) (.lst ds) :=
  ev_callTy call_list_of hm (by decide +kernel) (ea_cons h ea_nil he) (fun vs σ H E r0 Q q => by
    obtain ⟨v, rfl, r⟩ := one_rp r0
    obtain ⟨p, xs, rfl, h1, _, rr⟩ := r
    exact ⟨p, xs, rfl, .inl (SqL.of h1), fun l hl => q _ _ (.new hl) ⟨l, xs, rfl, upd_same, E.new hl, rr.le (.new hl)⟩⟩) hg (by decide) (by decide) he
theorem ev_tupleL {ds : List D} (hm : X.mg "tuple" = none) (h : Ev X m C δ e (.lst ds)) (hg : Gl X "tuple" := by rfl) (he : starEach [e] X.env = (false, eval e X.env) :: starEach [] X.env := by rfl) :
    Ev X m C δ (.Call (.Name "tuple" p1) [e] [] pos) (.tup ds) :=
  ev_callTy call_tuple_of hm (by decide +kernel) (ea_cons h ea_nil he) (fun vs σ H E r0 Q q => by
    obtain ⟨v, rfl, r⟩ := one_rp r0
    obtain ⟨p, xs, rfl, h1, _, rr⟩ := r
    exact ⟨p, xs, rfl, .inl ⟨SqL.of h1, fun l hl => q _ _ (.new hl) ⟨l, xs, rfl, SqT.of upd_same, rr.le (.new hl)⟩⟩⟩) hg (by decide) (by decide) he

/-! ### in -/
def D.flat : D → Option V
  | .non => some .non
  | .bl b => some (.bl b)
  | .int i => some (.int i)
  | .str s => some (.str s)
  | _ => none
theorem flat_rp {K : PySem.W.Frag} {H : Hp} {u v : V} (h : d.flat = some u) (r : Rp K m C H d v) : v = u ∧ flatV v = true := by
  cases d <;> simp only [D.flat, Option.some.injEq, reduceCtorEq] at h <;> (subst h; refine ⟨r, ?_⟩; rw [show _ = _ from r]; rfl)
def flats : List D → Option (List V)
  | [] => some []
  | d :: ds => d.flat.bind fun v => (flats ds).map fun vs => v :: vs
theorem flats_rp {K : PySem.W.Frag} {H : Hp} : ∀ {ds : List D} {us vs : List V}, flats ds = some us → RpAll K m C H ds vs → vs = us ∧ vs.all flatV = true
  | [], us, vs, h, r => by
    cases (show [] = us from Option.some.inj h)
    cases (show vs = [] from r)
    exact ⟨rfl, rfl⟩
  | d :: ds, us, vs, h, r => by
    obtain ⟨v, ws, rfl, r1, r2⟩ := r
    unfold flats at h
    cases e : d.flat with
    | none => rw [e] at h; cases h
    | some u =>
      rw [e] at h
      cases e2 : flats ds with
      | none => rw [e2] at h; cases h
      | some us' =>
        rw [e2] at h
        cases (show u :: us' = us from Option.some.inj h)
        obtain ⟨q1, q2⟩ := flat_rp e r1
        obtain ⟨q3, q4⟩ := flats_rp e2 r2
        subst q1 q3
        exact ⟨rfl, by rw [List.all_cons, q2, q4]; rfl⟩
theorem flats_ints : ∀ ns : List Int, flats (ns.map D.int) = some (ns.map V.int)
  | [] => rfl
  | n :: ns => by
    show (flats (ns.map D.int)).map (fun vs => V.int n :: vs) = _
    rw [flats_ints ns]
    rfl
theorem flats_bls : ∀ ns : List Bool, flats (ns.map D.bl) = some (ns.map V.bl)
  | [] => rfl
  | n :: ns => by
    show (flats (ns.map D.bl)).map (fun vs => V.bl n :: vs) = _
    rw [flats_bls ns]
    rfl
theorem ec_inT {ds : List D} {u : V} {us : List V} (ha : Ev X m C δ a x) (hb : Ev X m C δ b (.tup ds)) (hx : x.flat = some u := by rfl) (hf : flats ds = some us := by rfl) : EvC X m C δ .In a b (.bl (inV u us)) :=
  ec_op op_in_seq ha hb fun v w σ H E r1 ⟨p, xs, e, h1, r2⟩ Q q => by
    obtain ⟨q1, q2⟩ := flat_rp hx r1
    obtain ⟨q3, q4⟩ := flats_rp hf r2
    exact ⟨p, xs, e, .inr h1, q2, q4, q _ H (.refl m H) (by rw [q1, q3]; rfl)⟩
theorem ec_niT {ds : List D} {u : V} {us : List V} (ha : Ev X m C δ a x) (hb : Ev X m C δ b (.tup ds)) (hx : x.flat = some u := by rfl) (hf : flats ds = some us := by rfl) : EvC X m C δ .NotIn a b (.bl (!inV u us)) :=
  ec_op op_notIn_seq ha hb fun v w σ H E r1 ⟨p, xs, e, h1, r2⟩ Q q => by
    obtain ⟨q1, q2⟩ := flat_rp hx r1
    obtain ⟨q3, q4⟩ := flats_rp hf r2
    exact ⟨p, xs, e, .inr h1, q2, q4, q _ H (.refl m H) (by rw [q1, q3]; rfl)⟩
theorem ec_inL {ds : List D} {u : V} {us : List V} (ha : Ev X m C δ a x) (hb : Ev X m C δ b (.lst ds)) (hf : flats ds = some us) (hx : x.flat = some u := by rfl) : EvC X m C δ .In a b (.bl (inV u us)) :=
  ec_op op_in_seq ha hb fun v w σ H E r1 ⟨p, xs, e, h1, _, r2⟩ Q q => by
    obtain ⟨q1, q2⟩ := flat_rp hx r1
    obtain ⟨q3, q4⟩ := flats_rp hf r2
    exact ⟨p, xs, e, .inl (SqL.of h1), q2, q4, q _ H (.refl m H) (by rw [q1, q3]; rfl)⟩
theorem ec_niL {ds : List D} {u : V} {us : List V} (ha : Ev X m C δ a x) (hb : Ev X m C δ b (.lst ds)) (hf : flats ds = some us) (hx : x.flat = some u := by rfl) : EvC X m C δ .NotIn a b (.bl (!inV u us)) :=
  ec_op op_notIn_seq ha hb fun v w σ H E r1 ⟨p, xs, e, h1, _, r2⟩ Q q => by
    obtain ⟨q1, q2⟩ := flat_rp hx r1
    obtain ⟨q3, q4⟩ := flats_rp hf r2
    exact ⟨p, xs, e, .inl (SqL.of h1), q2, q4, q _ H (.refl m H) (by rw [q1, q3]; rfl)⟩
/-- a dict of the module, with texts as keys -/
theorem ec_inKD {n z : Str} {p : Addr} {en : Array DictEntry} {k : Nat} {r : Option Value} (kd : KDict X.K X.w p en k) (hm : X.mg n = some (.ref p)) (hr : PySem.W.nsIn X.K p z = some r) (ha : Ev X m C δ a (.str z)) (hg : Gl X n := by rfl) (hd : (n == ("__debug__" : Str)) = false := by decide) :
    EvC X m C δ .In a (.Name n p1) (.bl r.isSome) := fun σ H E Q q pins s I =>
  bin (R := fun u v H2 => u = .str z ∧ v = .ref p ∧ Le m H H2) peW (pe_glob (v := .ref p) hg hm rfl hd) I (ha.go E fun u H1 l1 r1 => ⟨r1, rfl, l1⟩)
    fun v u s2 x y H2 I2 rx ry ⟨e1, e2, l⟩ => op_in_kd kd pins s2 σ H2 x y v u Q I2 rx ry ⟨z, r, e1, e2, hr, q _ H2 l rfl⟩
theorem ec_niKD {n z : Str} {p : Addr} {en : Array DictEntry} {k : Nat} {r : Option Value} (kd : KDict X.K X.w p en k) (hm : X.mg n = some (.ref p)) (hr : PySem.W.nsIn X.K p z = some r) (ha : Ev X m C δ a (.str z)) (hg : Gl X n := by rfl) (hd : (n == ("__debug__" : Str)) = false := by decide) :
    EvC X m C δ .NotIn a (.Name n p1) (.bl (!r.isSome)) := fun σ H E Q q pins s I =>
  bin (R := fun u v H2 => u = .str z ∧ v = .ref p ∧ Le m H H2) peW (pe_glob (v := .ref p) hg hm rfl hd) I (ha.go E fun u H1 l1 r1 => ⟨r1, rfl, l1⟩)
    fun v u s2 x y H2 I2 rx ry ⟨e1, e2, l⟩ => op_notIn_kd kd pins s2 σ H2 x y v u Q I2 rx ry ⟨z, r, e1, e2, hr, q _ H2 l rfl⟩
theorem ev_ixKD {n z : Str} {p : Addr} {i : Int} (kd : KDct X.K X.w p z (.int i)) (hm : X.mg n = some (.ref p)) (hb : Ev X m C δ b (.str z)) (hs : PlainIx b := by exact fun _ _ => rfl) (hg : Gl X n := by rfl) (hd : (n == ("__debug__" : Str)) = false := by decide) :
    Ev X m C δ (.Subscript (.Name n p1) b pos) (.int i) := .mk fun σ H E Q q =>
  ofPE (pe_ix ix_kdict (pe_glob (v := .ref p) hg hm rfl hd) peW hs) (hb.go E fun v H1 l1 r1 => ⟨p, z, .int i, rfl, r1, kd, q _ H1 l1 rfl⟩)
end
end PB

/-! statements, defs, comprehensions in the small logic -/
namespace PB
open PySem PySem.Spec PyProof.Rows L2

section
variable (X : Cx) (m : Md) (C : Addr)
/-- a statement, a block: runs through, leaves the slots so -/
def NxS (δ : Dl) (st : Stmt) (δ' : Dl) : Prop := ∀ σ H, Sl X.K m C H σ δ → ∀ Dn : Ends, (∀ σ' H', Le m H H' → Sl X.K m C H' σ' δ' → Dn.nx σ' H') → wS X st Dn σ H
def Nxs (δ : Dl) (sts : List Stmt) (δ' : Dl) : Prop := ∀ σ H, Sl X.K m C H σ δ → ∀ Dn : Ends, (∀ σ' H', Le m H H' → Sl X.K m C H' σ' δ' → Dn.nx σ' H') → wSs X sts Dn σ H
/-- a block: returns -/
def Rt (δ : Dl) (sts : List Stmt) (R : D → Prop) : Prop := ∀ σ H, Sl X.K m C H σ δ → ∀ Dn : Ends, (∀ d v H', R d → Le m H H' → Rp X.K m C H' d v → Dn.rt v H') → wSs X sts Dn σ H
end
section
variable {X : Cx} {m : Md} {C : Addr} {δ δ' δ2 : Dl} {a b c e : Expr} {es : List Expr} {pos p1 p2 p3 : Pos} {x y z d : D} {st : Stmt} {sts body els : List Stmt} {R : D → Prop}
theorem nxs_nil : Nxs X m C δ [] δ := fun σ H E Dn q => ofPSs pss_nil (q σ H (.refl m H) E)
theorem nxs_cons (h : NxS X m C δ st δ') (h2 : Nxs X m C δ' sts δ2) : Nxs X m C δ (st :: sts) δ2 := fun σ H E Dn q =>
  ofPSs (pss_cons psW pssW) (h σ H E _ fun σ' H' l E' => h2 σ' H' E' Dn fun σ2 H2 l2 E2 => q σ2 H2 (l.trans l2) E2)
theorem nxs_one (h : NxS X m C δ st δ') : Nxs X m C δ [st] δ' := nxs_cons h nxs_nil
theorem rt_cons (h : NxS X m C δ st δ') (h2 : Rt X m C δ' sts R) : Rt X m C δ (st :: sts) R := fun σ H E Dn q =>
  ofPSs (pss_cons psW pssW) (h σ H E _ fun σ' H' l E' => h2 σ' H' E' Dn fun d v H2 hd l2 r => q d v H2 hd (l.trans l2) r)
theorem rt_ret (h : EvP X m C δ e R) : Rt X m C δ (.Return (some e) pos :: sts) R := fun σ H E Dn q =>
  ofPSs (pss_cons (u := tNever) (ps_ret peW) pss_never) (h σ H E _ fun d v H2 hd l r => q d v H2 hd l r)
theorem rt_ifT (hc : EvT X m C δ c true) (h : Rt X m C δ body R) : Rt X m C δ (.If c body els pos :: sts) R := fun σ H E Dn q =>
  ofPSs (pss_cons (u := tNever) (ps_if ptW pssW pssW) pss_never) (hc σ H E _ fun H1 l1 => iteT (h σ H1 (E.le l1) _ fun d v H2 hd l2 r => q d v H2 hd (l1.trans l2) r))
theorem rt_ifE (hc : EvT X m C δ c false) (h : Rt X m C δ els R) : Rt X m C δ (.If c body els pos :: sts) R := fun σ H E Dn q =>
  ofPSs (pss_cons (u := tNever) (ps_if ptW pssW pssW) pss_never) (hc σ H E _ fun H1 l1 => iteF (h σ H1 (E.le l1) _ fun d v H2 hd l2 r => q d v H2 hd (l1.trans l2) r))
theorem nx_ifF (hc : EvT X m C δ c false) : NxS X m C δ (.If c body [] pos) δ := fun σ H E Dn q =>
  ofPS (ps_if ptW pssW pss_nil) (hc σ H E _ fun H1 l1 => iteF (q σ H1 l1 (E.le l1)))
theorem nx_ifT (hc : EvT X m C δ c true) (h : Nxs X m C δ body δ') : NxS X m C δ (.If c body els pos) δ' := fun σ H E Dn q =>
  ofPS (ps_if ptW pssW pssW) (hc σ H E _ fun H1 l1 => iteT (h σ H1 (E.le l1) _ fun σ2 H2 l2 E2 => q σ2 H2 (l1.trans l2) E2))
theorem rt_ifF (hc : EvT X m C δ c false) (h : Rt X m C δ sts R) : Rt X m C δ (.If c body [] pos :: sts) R := rt_cons (nx_ifF hc) h
theorem rt_if {t : Bool} (hc : EvT X m C δ c t) (h1 : t = true → Rt X m C δ body R) (h2 : t = false → Rt X m C δ sts R) : Rt X m C δ (.If c body [] pos :: sts) R := by
  cases t with
  | true => exact rt_ifT hc (h1 rfl)
  | false => exact rt_ifF hc (h2 rfl)
theorem nx_set (i : Nat) {n : Str} (h : Ev X m C δ e d) (hN : X.N.Nodup) (hi : X.N[i]? = some n := by rfl) (hx : Loc X.env.scope n := by first | exact Or.inl rfl | exact Or.inr rfl) (hs : swapsWith e (some (.Name n p1)) pos.line X.env = pure false := by rfl)
    (hf : X.fn n = true ∨ X.env.scope.names.lookup n = some .local := by first | exact .inl rfl | exact .inr rfl) : NxS X m C δ (.Assign [.Name n p1] e pos) (δ.set i (some d)) := fun σ H E Dn q =>
  ofPS (ps_set hN hi hx peW hs hf) (h.go E fun v H1 l1 r1 => q _ H1 l1 ((E.le l1).set r1))
theorem nx_expr (h : Ev X m C δ e d) (hs : swapsWith e none pos.line X.env = pure false := by rfl) : NxS X m C δ (.Expr e pos) δ := fun σ H E Dn q =>
  ofPS (ps_expr peW hs) (h.go E fun v H1 l1 r1 => q _ H1 l1 (E.le l1))
/-- targets of a tuple -/
theorem nx_un2 (i j : Nat) {n1 n2 : Str} {k : Nat} (h : Ev X m C δ e (.tup [x, y])) (hc : X.calm = true) (hN : X.N.Nodup) (hi : X.N[i]? = some n1 := by rfl) (hj : X.N[j]? = some n2 := by rfl)
    (hx : Loc X.env.scope n1 := by first | exact Or.inl rfl | exact Or.inr rfl) (hy : Loc X.env.scope n2 := by first | exact Or.inl rfl | exact Or.inr rfl)
    (hfx : X.fn n1 = true ∨ X.env.scope.names.lookup n1 = some .local := by first | exact .inl rfl | exact .inr rfl) (hfy : X.fn n2 = true ∨ X.env.scope.names.lookup n2 = some .local := by first | exact .inl rfl | exact .inr rfl)
    (hs : swapsWithSole [.Tuple [.Name n1 p1, .Name n2 p2] k p3] e pos.line X.env = pure false := by rfl) (hw : swappedStores [.Tuple [.Name n1 p1, .Name n2 p2] k p3] e X.env = pure none := by rfl)
    (h1 : (assignEach [.Tuple [.Name n1 p1, .Name n2 p2] k p3] X.env).map (·.2) = [assign (.Tuple [.Name n1 p1, .Name n2 p2] k p3) X.env] := by rfl)
    (hl : (assignEach [.Name n1 p1, .Name n2 p2] X.env).length = 2 := by rfl) (hst : (assignEach [.Name n1 p1, .Name n2 p2] X.env).findIdx? (·.1) = none := by rfl)
    (he1 : (assignEach [.Name n1 p1, .Name n2 p2] X.env).map (·.2) = assign (.Name n1 p1) X.env :: (assignEach [.Name n2 p2] X.env).map (·.2) := by rfl)
    (he2 : (assignEach [.Name n2 p2] X.env).map (·.2) = assign (.Name n2 p2) X.env :: (assignEach [] X.env).map (·.2) := by rfl) :
    NxS X m C δ (.Assign [.Tuple [.Name n1 p1, .Name n2 p2] k p3] e pos) ((δ.set i (some x)).set j (some y)) := fun σ H E Dn q =>
  ofPS (ps_asg peW (pg_tup hc (pgs_cons (pg_name hN hi hx hfx) (pgs_cons (pg_name hN hj hy hfy) pgs_nil he2) he1) hl hst) hs hw h1) (h.go E fun v H1 l1 ⟨p, xs, e1, h1, r1⟩ => by
    obtain ⟨u, w, e2, r2, r3⟩ := two_rp r1
    subst e2
    exact ⟨p, _, e1, h1, rfl, u, [w], rfl, w, [], rfl, rfl, q _ H1 l1 (((E.le l1).set r2).set r3)⟩)
theorem three_rp {K : PySem.W.Frag} {H : Hp} {vs : List V} (h : RpAll K m C H [x, y, z] vs) : ∃ u v w, vs = [u, v, w] ∧ Rp K m C H x u ∧ Rp K m C H y v ∧ Rp K m C H z w := by
  obtain ⟨u, us, e, r, h2⟩ := h
  obtain ⟨v, w, e2, r2, r3⟩ := two_rp h2
  exact ⟨u, v, w, by rw [e, e2], r, r2, r3⟩
theorem nx_un3 (i j l : Nat) {n1 n2 n3 : Str} {k : Nat} {p4 : Pos} (h : Ev X m C δ e (.tup [x, y, z])) (hc : X.calm = true) (hN : X.N.Nodup) (hi : X.N[i]? = some n1 := by rfl) (hj : X.N[j]? = some n2 := by rfl) (hl' : X.N[l]? = some n3 := by rfl)
    (hx : Loc X.env.scope n1 := by first | exact Or.inl rfl | exact Or.inr rfl) (hy : Loc X.env.scope n2 := by first | exact Or.inl rfl | exact Or.inr rfl) (hz : Loc X.env.scope n3 := by first | exact Or.inl rfl | exact Or.inr rfl)
    (hfx : X.fn n1 = true ∨ X.env.scope.names.lookup n1 = some .local := by first | exact .inl rfl | exact .inr rfl) (hfy : X.fn n2 = true ∨ X.env.scope.names.lookup n2 = some .local := by first | exact .inl rfl | exact .inr rfl)
    (hfz : X.fn n3 = true ∨ X.env.scope.names.lookup n3 = some .local := by first | exact .inl rfl | exact .inr rfl)
    (hs : swapsWithSole [.Tuple [.Name n1 p1, .Name n2 p2, .Name n3 p4] k p3] e pos.line X.env = pure false := by rfl) (hw : swappedStores [.Tuple [.Name n1 p1, .Name n2 p2, .Name n3 p4] k p3] e X.env = pure none := by rfl)
    (h1 : (assignEach [.Tuple [.Name n1 p1, .Name n2 p2, .Name n3 p4] k p3] X.env).map (·.2) = [assign (.Tuple [.Name n1 p1, .Name n2 p2, .Name n3 p4] k p3) X.env] := by rfl)
    (hl : (assignEach [.Name n1 p1, .Name n2 p2, .Name n3 p4] X.env).length = 3 := by rfl) (hst : (assignEach [.Name n1 p1, .Name n2 p2, .Name n3 p4] X.env).findIdx? (·.1) = none := by rfl)
    (he1 : (assignEach [.Name n1 p1, .Name n2 p2, .Name n3 p4] X.env).map (·.2) = assign (.Name n1 p1) X.env :: (assignEach [.Name n2 p2, .Name n3 p4] X.env).map (·.2) := by rfl)
    (he2 : (assignEach [.Name n2 p2, .Name n3 p4] X.env).map (·.2) = assign (.Name n2 p2) X.env :: (assignEach [.Name n3 p4] X.env).map (·.2) := by rfl)
    (he3 : (assignEach [.Name n3 p4] X.env).map (·.2) = assign (.Name n3 p4) X.env :: (assignEach [] X.env).map (·.2) := by rfl) :
    NxS X m C δ (.Assign [.Tuple [.Name n1 p1, .Name n2 p2, .Name n3 p4] k p3] e pos) (((δ.set i (some x)).set j (some y)).set l (some z)) := fun σ H E Dn q =>
  ofPS (ps_asg peW (pg_tup hc (pgs_cons (pg_name hN hi hx hfx) (pgs_cons (pg_name hN hj hy hfy) (pgs_cons (pg_name hN hl' hz hfz) pgs_nil he3) he2) he1) hl hst) hs hw h1) (h.go E fun v H1 l1 ⟨p, xs, e1, h1, r1⟩ => by
    obtain ⟨u, w, t, e2, r2, r3, r4⟩ := three_rp r1
    subst e2
    exact ⟨p, _, e1, h1, rfl, u, [w, t], rfl, w, [t], rfl, t, [], rfl, rfl, q _ H1 l1 ((((E.le l1).set r2).set r3).set r4)⟩)
/-- a, b = e1, e2 with plain locals -/
theorem nx_par (i j : Nat) {n1 n2 : Str} {k k2 : Nat} {pt2 : Pos} (h : EvA X m C δ [a, b] (fun z => z = [x, y])) (hc : X.calm = true) (hN : X.N.Nodup) (hij : i ≠ j := by decide) (hi : X.N[i]? = some n1 := by rfl) (hj : X.N[j]? = some n2 := by rfl)
    (hx : X.env.scope.names.lookup n1 = some .local := by rfl) (hy : X.env.scope.names.lookup n2 = some .local := by rfl)
    (hw : swappedStores [.Tuple [.Name n1 p1, .Name n2 p2] k p3] (.Tuple [a, b] k2 pt2) X.env = pure (some [n1, n2]) := by rfl)
    (hs : swapsWithSole [.Tuple [.Name n1 p1, .Name n2 p2] k p3] (.Tuple [a, b] k2 pt2) pos.line X.env = pure false := by rfl) :
    NxS X m C δ (.Assign [.Tuple [.Name n1 p1, .Name n2 p2] k p3] (.Tuple [a, b] k2 pt2) pos) ((δ.set i (some x)).set j (some y)) := fun σ H E Dn q =>
  ofPS (ps_par hc hN hi hj hij hx hy paW hw hs) (h.go E fun vs H1 l1 r1 => by
    obtain ⟨u, w, e2, r2, r3⟩ := two_rp r1
    exact ⟨u, w, e2, q _ H1 l1 (((E.le l1).set r2).set r3)⟩)
end

/-! ### defs -/
def spX (K : PySem.W.Frag) (C : Addr) (n : Nat) (P : List D → (D → Prop) → Prop) : Sp := fun vs H Q _ => ∃ (m : Md) (ds : List D) (R : D → Prop), ds.length = n ∧ (∀ p, m.bag = some p → BagAt H m.more p) ∧ (∀ a ∈ m.more, H a ≠ none) ∧
  RpAll K m C H ds vs ∧ P ds R ∧ ∀ d v H', R d → Le m H H' → Rp K m C H' d v → Q v H'
/-- one answer -/
def det (F : List D → D → Prop) : List D → (D → Prop) → Prop := fun ds R => ∃ d, F ds d ∧ R = fun z => z = d
def dl0 (N : List Str) (ds : List D) : Dl := ds.map some ++ List.replicate (N.length - ds.length) none
theorem start_sl {K : PySem.W.Frag} {m : Md} {C : Addr} {H : Hp} {N : List Str} {ds : List D} {vs : List V} (hb : ∀ p, m.bag = some p → BagAt H m.more p) (hm : ∀ a ∈ m.more, H a ≠ none) (r : RpAll K m C H ds vs) : Sl K m C H (L2.start N vs) (dl0 N ds) := by
  have hl := r.length
  refine ⟨by unfold L2.start dl0; simp [hl], fun i d h => ?_, hb, hm⟩
  unfold dl0 at h
  by_cases hi : i < ds.length
  · rw [List.getElem?_append_left (by simpa using hi), List.getElem?_map] at h
    cases e : ds[i]? with
    | none => rw [e] at h; cases h
    | some d' =>
      rw [e] at h
      cases h
      obtain ⟨v, h1, h2⟩ := r.get e
      refine ⟨v, ?_, h2⟩
      unfold L2.start
      rw [List.getElem?_append_left (by simpa [hl] using hi), List.getElem?_map, h1]
      rfl
  · rw [List.getElem?_append_right (by simpa using hi), List.getElem?_replicate] at h
    split at h <;> cases h
section
variable {P : Program} {w : World} {K : PySem.W.Frag} {mg : Str → Option Value} {base : Heap}
abbrev bodyCx (P : Program) (w : World) (K : PySem.W.Frag) (mg : Str → Option Value) (base : Heap) (N : List Str) (qual : Str) (st : Stmt) (f : Addr) (cdv : Value) (A : Around) (outer : List Env) (s : Shared) (H : Hp) (E : XK) : Cx :=
  (cxOf CX0 P w K mg base N qual (defScope st) f cdv A outer s H E).nox
theorem fnX {x qual : Str} {st : Stmt} {f : Addr} {fd : FuncData} {N ps : List Str} {k n : Nat} {C : Addr} {Pr : List D → (D → Prop) → Prop} (F : Fun K x qual st f fd) (S : FnScope N ps (defScope st)) (hn : n = ps.length)
    (hb : ∀ (cdv : Value) (A : Around) (outer : List Env) (s : Shared) (H : Hp) (E : XK), Room k (A.deeper (envOfC qual (defScope st) s.heap.objs.size f cdv)) → ∀ (m : Md) (ds : List D) (R : D → Prop), ds.length = n → Pr ds R →
      Rt (bodyCx P w K mg base N qual st f cdv A outer s H E) m C (dl0 N ds) (defBody st) R) : FnOk P w K mg base CX0 (k + 1) f fd ps (spX K C n Pr) := by
  refine F.ok S (fun vs H Q E h => ?_) (fun cdv A outer s H vs Q E hr h => ?_)
  · obtain ⟨m, ds, R, hl, _, _, r, _⟩ := h
    rw [r.length, hl, hn]
  · obtain ⟨m, ds, R, hl, h1, h2, r, hp, q⟩ := h
    exact ⟨_, pssW, hb cdv A outer s H E hr m ds R hl hp _ _ (start_sl h1 h2 r) _ fun d v H' hd l rr => q d v H' hd l rr⟩
/-- a def that runs through: hands back None -/
theorem fnXN {x qual : Str} {st : Stmt} {f : Addr} {fd : FuncData} {N ps : List Str} {k n : Nat} {C : Addr} {Pr : List D → (D → Prop) → Prop} (F : Fun K x qual st f fd) (S : FnScope N ps (defScope st)) (hn : n = ps.length)
    (hb : ∀ (cdv : Value) (A : Around) (outer : List Env) (s : Shared) (H : Hp) (E : XK), Room k (A.deeper (envOfC qual (defScope st) s.heap.objs.size f cdv)) → ∀ (m : Md) (ds : List D) (R : D → Prop), ds.length = n → Pr ds R →
      R .non ∧ ∃ δ', Nxs (bodyCx P w K mg base N qual st f cdv A outer s H E) m C (dl0 N ds) (defBody st) δ') : FnOk P w K mg base CX0 (k + 1) f fd ps (spX K C n Pr) := by
  refine F.ok S (fun vs H Q E h => ?_) (fun cdv A outer s H vs Q E hr h => ?_)
  · obtain ⟨m, ds, R, hl, _, _, r, _⟩ := h
    rw [r.length, hl, hn]
  · obtain ⟨m, ds, R, hl, h1, h2, r, hp, q⟩ := h
    obtain ⟨hR, δ', hb⟩ := hb cdv A outer s H E hr m ds R hl hp
    exact ⟨_, pssW, hb _ _ (start_sl h1 h2 r) _ fun σ' H' l _ => q .non .non H' hR l rfl⟩
end

/-! ### calls -/
section
variable {X : Cx} {m : Md} {C : Addr} {δ δ' : Dl} {a b c e : Expr} {es : List Expr} {pos p1 p2 p3 apos : Pos} {x y z d : D} {R : D → Prop} {k n : Nat} {f : Addr} {fd : FuncData} {ps : List Str} {Pr : List D → (D → Prop) → Prop} {ds : List D}
theorem ev_callP {nm : Str} (G : FnOk X.prog X.w X.K X.mg X.base CX0 k f fd ps (spX X.K C n Pr)) (hr : Room k X.A) (hm : X.mg nm = some (.ref f)) (hk : PySem.W.keepIn X.K (.ref f) = true) (hb : Binds X.K fd ps []) (ha : EvA X m C δ (e :: es) (fun z => z = ds)) (hn : ds.length = n) (hp : Pr ds R)
    (hg : Gl X nm := by rfl) (hdb : (nm == ("__debug__" : Str)) = false := by decide) (he : starEach (e :: es) X.env = (false, eval e X.env) :: starEach es X.env := by rfl) (hpl : (backTo pos (starEach es X.env)).any (·.1) = false := by rfl) :
    EvP X m C δ (.Call (.Name nm p1) (e :: es) [] pos) R := fun σ H E Q q =>
  ofPE (pe_call G hr hg hm hk hb .nil pass0 paW hdb he hpl) (ha.go E fun vs H1 l1 r1 => ⟨m, ds, R, hn, (E.le l1).bag, (E.le l1).more, by rw [List.append_nil]; exact r1, hp, fun d v H' hd l r => q d v H' hd (l1.trans l) r⟩)
theorem ev_call {nm : Str} {F : List D → D → Prop} (G : FnOk X.prog X.w X.K X.mg X.base CX0 k f fd ps (spX X.K C n (det F))) (hr : Room k X.A) (hm : X.mg nm = some (.ref f)) (hk : PySem.W.keepIn X.K (.ref f) = true) (hb : Binds X.K fd ps []) (ha : EvA X m C δ (e :: es) (fun z => z = ds)) (hp : F ds d) (hn : ds.length = n := by rfl)
    (hg : Gl X nm := by rfl) (hdb : (nm == ("__debug__" : Str)) = false := by decide) (he : starEach (e :: es) X.env = (false, eval e X.env) :: starEach es X.env := by rfl) (hpl : (backTo pos (starEach es X.env)).any (·.1) = false := by rfl) :
    Ev X m C δ (.Call (.Name nm p1) (e :: es) [] pos) d := ev_callP G hr hm hk hb ha hn ⟨d, hp, rfl⟩ hg hdb he hpl
/-- the arguments drawn: whatever they are, a set of answers -/
theorem ev_callR {nm : Str} {L : List D → Prop} (G : FnOk X.prog X.w X.K X.mg X.base CX0 k f fd ps (spX X.K C n Pr)) (hr : Room k X.A) (hm : X.mg nm = some (.ref f)) (hk : PySem.W.keepIn X.K (.ref f) = true) (hb : Binds X.K fd ps []) (ha : EvA X m C δ (e :: es) L) (hp : ∀ ds, L ds → ds.length = n ∧ ∃ R', Pr ds R' ∧ ∀ d, R' d → R d)
    (hg : Gl X nm := by rfl) (hdb : (nm == ("__debug__" : Str)) = false := by decide) (he : starEach (e :: es) X.env = (false, eval e X.env) :: starEach es X.env := by rfl) (hpl : (backTo pos (starEach es X.env)).any (·.1) = false := by rfl) :
    EvP X m C δ (.Call (.Name nm p1) (e :: es) [] pos) R := fun σ H E Q q =>
  ofPE (pe_call G hr hg hm hk hb .nil pass0 paW hdb he hpl) (ha σ H E _ fun ds vs H1 hL l1 r1 => by
    obtain ⟨hn, R', hp', hR⟩ := hp ds hL
    exact ⟨m, ds, R', hn, (E.le l1).bag, (E.le l1).more, by rw [List.append_nil]; exact r1, hp', fun d v H' hd l r => q d v H' (hR d hd) (l1.trans l) r⟩)
/-- o.m(), o.f of the own class -/
theorem lk_no {m0 : Str} (h1 : ¬ m0 = "steps") (h2 : ¬ m0 = "width") (fs : Int) (st : Addr) : (scrFs fs st).lookup m0 = none := by
  unfold scrFs
  rw [lookup_putF, if_neg h1, lookup_putF, if_neg h2]
  rfl
theorem lk_w (fs : Int) (st : Addr) : (scrFs fs st).lookup ("width" : Str) = some (.int fs) := by
  unfold scrFs
  rw [lookup_putF, if_neg (by decide +kernel), lookup_putF, if_pos rfl]
theorem lk_s (fs : Int) (st : Addr) : (scrFs fs st).lookup ("steps" : Str) = some (.ref st) := by
  unfold scrFs
  rw [lookup_putF, if_pos rfl]
theorem ev_meth0 {m0 : Str} {fs : Int} {cs : List D} {pl : Sem Bool} {F : List D → D → Prop} (G : FnOk X.prog X.w X.K X.mg X.base CX0 k f fd ps (spX X.K C 1 (det F))) (hr : Room k X.A) (cl : Cls X.K C) (hm : Meth X.K C m0 f) (hb : Binds X.K fd ps []) (h : Ev X m C δ e (.scr fs cs)) (hp : F [.scr fs cs] d)
    (hno : ∀ fs st, (scrFs fs st).lookup m0 = none)
    (ht : eval (.Call (.Attribute e m0 apos) [] [] pos) X.env = (do
      let ov ← eval e X.env
      standAt apos.atName
      let (f, first) ← holding [ov] (getMethod ov m0 pl)
      callWith pos f first (backTo pos (starEach [] X.env)) (backToKw pos (keywordEach [] X.env))) := by rfl) : Ev X m C δ (.Call (.Attribute e m0 apos) [] [] pos) d := .mk fun σ H E Q q =>
  ofPE (pe_meth0 (pl := pl) peW cl hm G hr hb .nil pass0 ht) (h.go E fun v H1 l1 ⟨p, dx, st, xs, e1, h1, h2, r1⟩ => ⟨p, dx, scrFs fs st, e1, h1, hno fs st, m, [.scr fs cs], _, rfl, (E.le l1).bag, (E.le l1).more, ⟨v, [], by rw [List.append_nil], ⟨p, dx, st, xs, e1, h1, h2, r1⟩, rfl⟩, ⟨d, hp, rfl⟩,
    fun d' v' H' hd l r => q v' H' (l1.trans l) (by rw [← hd]; exact r)⟩)
theorem ev_prop {m0 : Str} {fs : Int} {cs : List D} {pr : Addr} {F : List D → D → Prop} (G : FnOk X.prog X.w X.K X.mg X.base CX0 k f fd ps (spX X.K C 1 (det F))) (hr : Room (k + 1) X.A) (cl : Cls X.K C) (hm : PropOf X.K C m0 pr f) (hb : Binds X.K fd ps []) (h : Ev X m C δ e (.scr fs cs)) (hp : F [.scr fs cs] d)
    (hab : attributeBase e m0 X.env (eval e X.env) = eval e X.env := by rfl) : Ev X m C δ (.Attribute e m0 pos) d := .mk fun σ H E Q q =>
  ofPE (pe_prop peW cl hm G hr hb .nil (E := E0) (fun _ _ _ _ _ _ _ h => h.elim) hab) (h.go E fun v H1 l1 ⟨p, dx, st, xs, e1, h1, h2, r1⟩ => ⟨p, dx, scrFs fs st, e1, h1, m, [.scr fs cs], _, rfl, (E.le l1).bag, (E.le l1).more, ⟨.ref p, [], rfl, ⟨p, dx, st, xs, rfl, h1, h2, r1⟩, rfl⟩, ⟨d, hp, rfl⟩,
    fun d' v' H' hd l r => q v' H' (l1.trans l) (by rw [← hd]; exact r)⟩)
/-- self.width, self.steps -/
theorem ev_width {fs : Int} {cs : List D} (cl : Cls X.K C) (hn : NoAttr X.K C "width") (h : Ev X m C δ e (.scr fs cs)) (hab : attributeBase e "width" X.env (eval e X.env) = eval e X.env := by rfl) : Ev X m C δ (.Attribute e "width" pos) (.int fs) := .mk fun σ H E Q q =>
  ofPE (pe_fld peW hab) (h.go E fun v H1 l1 ⟨p, dx, st, xs, e1, h1, h2, r1⟩ => ⟨p, C, dx, _, _, e1, h1, cl, hn, lk_w fs st, q _ H1 l1 rfl⟩)
theorem ev_steps {fs : Int} {cs : List D} (cl : Cls X.K C) (hn : NoAttr X.K C "steps") (h : Ev X m C δ e (.scr fs cs)) (hab : attributeBase e "steps" X.env (eval e X.env) = eval e X.env := by rfl) : Ev X m C δ (.Attribute e "steps" pos) (.tup cs) := .mk fun σ H E Q q =>
  ofPE (pe_fld peW hab) (h.go E fun v H1 l1 ⟨p, dx, st, xs, e1, h1, h2, r1⟩ => ⟨p, C, dx, _, _, e1, h1, cl, hn, lk_s fs st, q _ H1 l1 ⟨st, xs, rfl, h2, r1⟩⟩)
end
end PB

/-! a list that is being filled; comprehensions; ranges -/
namespace PB
open PySem PySem.Spec PyProof.Rows L2

/-! ### one list more that may change -/
def Md.add (m : Md) (p : Addr) : Md := { m with more := p :: m.more }
theorem mut_add {m : Md} {p a : Addr} : (m.add p).mut a ↔ m.mut a ∨ a = p := by
  unfold Md.mut Md.add
  simp only [List.mem_cons]
  constructor
  · rintro (h | h | h)
    · exact .inl (.inl h)
    · exact .inr h
    · exact .inl (.inr h)
  · rintro ((h | h) | h)
    · exact .inl h
    · exact .inr (.inr h)
    · exact .inr (.inl h)
section
variable {K : PySem.W.Frag} {m : Md} {C : Addr} {H H' : Hp} {p : Addr}
theorem BagAt.grow {l : List Addr} {q : Addr} (h : BagAt H l q) (hp : H p = none) : BagAt H (p :: l) q := by
  obtain ⟨x, g, i, c, ns, h1, h2, h3, h4, h5, h6⟩ := h
  refine ⟨x, g, i, c, ns, h1, h2, ?_, ?_, h5, h6⟩
  · simp only [List.mem_cons, not_or]
    exact ⟨ne_of_none h5 hp, h3⟩
  · simp only [List.mem_cons, not_or]
    exact ⟨ne_of_none h1 hp, h4⟩
theorem BagAt.shrink {l : List Addr} {q : Addr} (h : BagAt H (p :: l) q) : BagAt H l q := by
  obtain ⟨x, g, i, c, ns, h1, h2, h3, h4, h5, h6⟩ := h
  exact ⟨x, g, i, c, ns, h1, h2, fun z => h3 (List.mem_cons_of_mem _ z), fun z => h4 (List.mem_cons_of_mem _ z), h5, h6⟩
theorem BagAt.wr {l : List Addr} {q : Addr} {o : HO} (h : BagAt H l q) (hp : p ∈ l) : BagAt (upd H p o) l q := by
  obtain ⟨x, g, i, c, ns, h1, h2, h3, h4, h5, h6⟩ := h
  have n1 : q ≠ p := fun z => by
    subst z
    exact h4 hp
  have n2 : c ≠ p := fun z => by
    subst z
    exact h3 hp
  exact ⟨x, g, i, c, ns, by rw [upd_ne n1]; exact h1, h2, h3, h4, by rw [upd_ne n2]; exact h5, h6⟩
mutual
theorem Rp.grow (hp : H p = none) : ∀ {d : D} {v : V}, Rp K m C H d v → Rp K (m.add p) C H d v
  | .non, _, h => h
  | .bl _, _, h => h
  | .int _, _, h => h
  | .str _, _, h => h
  | .tup ds, _, h => by
    obtain ⟨a, xs, e, h1, h2⟩ := h
    exact ⟨a, xs, e, h1, RpAll.grow hp h2⟩
  | .lst ds, _, h => by
    obtain ⟨a, xs, e, h1, h3, h2⟩ := h
    exact ⟨a, xs, e, h1, fun z => (mut_add.mp z).elim h3 (ne_of_none h1 hp), RpAll.grow hp h2⟩
  | .scr fs cs, _, h => by
    obtain ⟨q, dx, st, xs, e, h1, h2, h3⟩ := h
    exact ⟨q, dx, st, xs, e, h1, h2, RpAll.grow hp h3⟩
  | .bag, _, h => h
  | .own _, _, h => h
theorem RpAll.grow (hp : H p = none) : ∀ {ds : List D} {xs : List V}, RpAll K m C H ds xs → RpAll K (m.add p) C H ds xs
  | [], _, h => h
  | d :: ds, _, h => by
    obtain ⟨v, vs, e, h1, h2⟩ := h
    exact ⟨v, vs, e, Rp.grow hp h1, RpAll.grow hp h2⟩
end
mutual
theorem Rp.shrink : ∀ {d : D} {v : V}, Rp K (m.add p) C H d v → Rp K m C H d v
  | .non, _, h => h
  | .bl _, _, h => h
  | .int _, _, h => h
  | .str _, _, h => h
  | .tup ds, _, h => by
    obtain ⟨a, xs, e, h1, h2⟩ := h
    exact ⟨a, xs, e, h1, RpAll.shrink h2⟩
  | .lst ds, _, h => by
    obtain ⟨a, xs, e, h1, h3, h2⟩ := h
    exact ⟨a, xs, e, h1, fun z => h3 (mut_add.mpr (.inl z)), RpAll.shrink h2⟩
  | .scr fs cs, _, h => by
    obtain ⟨q, dx, st, xs, e, h1, h2, h3⟩ := h
    exact ⟨q, dx, st, xs, e, h1, h2, RpAll.shrink h3⟩
  | .bag, _, h => h
  | .own _, _, h => h
theorem RpAll.shrink : ∀ {ds : List D} {xs : List V}, RpAll K (m.add p) C H ds xs → RpAll K m C H ds xs
  | [], _, h => h
  | d :: ds, _, h => by
    obtain ⟨v, vs, e, h1, h2⟩ := h
    exact ⟨v, vs, e, Rp.shrink h1, RpAll.shrink h2⟩
end
theorem Sl.grow {σ : L2.St} {δ : Dl} {o : HO} (E : Sl K m C H σ δ) (hp : H p = none) : Sl K (m.add p) C (upd H p o) σ δ := by
  refine ⟨E.len, fun i d h => ?_, fun q hq => ?_, fun a ha => ?_⟩
  · obtain ⟨v, h1, h2⟩ := E.at_ i d h
    exact ⟨v, h1, (h2.grow hp).le (Le.new hp)⟩
  · exact ((E.bag q hq).grow hp).same (same_new hp)
  · intro z
    by_cases e : a = p
    · rw [e, upd_same] at z
      cases z
    · rw [upd_ne e] at z
      rcases List.mem_cons.mp ha with e' | ha'
      · exact e e'
      · exact E.more a ha' z
/-- evaluations and writes at p -/
structure Lw (m : Md) (p : Addr) (H H' : Hp) : Prop where
  keep : ∀ a o, H a = some o → (m.bag = some a ∨ a = p → ¬ isL o) → H' a = some o
  bags : ∀ q, m.bag = some q → ∀ l, (∀ a ∈ m.more, a ∈ l) → BagAt H l q → BagAt H' l q
theorem Lw.bag (l : Lw m p H H') (q : Addr) (h : m.bag = some q) (hb : BagAt H m.more q) : BagAt H' m.more q := l.bags q h _ (fun _ z => z) hb
theorem Lw.of_le (l : Le m H H') : Lw m p H H' := ⟨fun a o h n => l.keep a o h fun z => n (.inl z), l.bags⟩
theorem Lw.refl : Lw m p H H := .of_le (.refl m H)
theorem Lw.trans {H2 : Hp} (a : Lw m p H H') (b : Lw m p H' H2) : Lw m p H H2 := ⟨fun c o h n => b.keep c o (a.keep c o h n) n, fun q e l s h => b.bags q e l s (a.bags q e l s h)⟩
theorem Lw.wr {xs ys : List V} (hp : p ∈ m.more) (h : H p = some (.lst xs)) : Lw m p H (upd H p (.lst ys)) :=
  ⟨fun a u e n => by
    by_cases ea : a = p
    · subst ea
      rw [h] at e
      cases e
      exact absurd True.intro (n (.inr rfl))
    · rw [upd_ne ea]
      exact e, fun q _ l s hb => hb.wr (s p hp)⟩
/-- back: the new list is a list like others -/
theorem Lw.leave {o : HO} (l : Lw (m.add p) p (upd H p o) H') (hp : H p = none) : Le m H H' :=
  ⟨fun a u h n => l.keep a u (by rw [upd_ne (ne_of_none h hp)]; exact h) fun z => z.elim n fun e => absurd e (ne_of_none h hp), fun q hq ll s h => (l.bags q hq (p :: ll) (fun a ha => (List.mem_cons.mp ha).elim (fun e => e ▸ List.mem_cons_self) fun z => List.mem_cons_of_mem _ (s a z)) ((h.grow hp).same (same_new hp))).shrink⟩
theorem sqT_lw {a : Addr} {xs : List V} (l : Lw m p H H') (h : SqT K H a xs) : SqT K H' a xs := by
  rcases h with (h | ⟨o, h⟩) | h
  · exact .inl (.inl (l.keep _ _ h fun _ z => z))
  · exact .inl (.inr ⟨o, l.keep _ _ h fun _ z => z⟩)
  · exact .inr h
mutual
theorem Rp.lw (hp : p ∈ m.more) (l : Lw m p H H') : ∀ {d : D} {v : V}, Rp K m C H d v → Rp K m C H' d v
  | .non, _, h => h
  | .bl _, _, h => h
  | .int _, _, h => h
  | .str _, _, h => h
  | .tup ds, _, h => by
    obtain ⟨a, xs, e, h1, h2⟩ := h
    exact ⟨a, xs, e, sqT_lw l h1, RpAll.lw hp l h2⟩
  | .lst ds, _, h => by
    obtain ⟨a, xs, e, h1, h3, h2⟩ := h
    exact ⟨a, xs, e, l.keep _ _ h1 fun z => absurd (z.elim .inl fun e => .inr (by rw [e]; exact hp)) h3, h3, RpAll.lw hp l h2⟩
  | .scr fs cs, _, h => by
    obtain ⟨q, dx, st, xs, e, h1, h2, h3⟩ := h
    exact ⟨q, dx, st, xs, e, l.keep _ _ h1 fun _ z => z, sqT_lw l h2, RpAll.lw hp l h3⟩
  | .bag, _, h => h
  | .own _, _, h => h
theorem RpAll.lw (hp : p ∈ m.more) (l : Lw m p H H') : ∀ {ds : List D} {xs : List V}, RpAll K m C H ds xs → RpAll K m C H' ds xs
  | [], _, h => h
  | d :: ds, _, h => by
    obtain ⟨v, vs, e, h1, h2⟩ := h
    exact ⟨v, vs, e, Rp.lw hp l h1, RpAll.lw hp l h2⟩
end
/-- a list there stays one (or it is written) -/
theorem Lw.there (l : Lw m p H H') (hp : H' p ≠ none) (hb : ∀ q, m.bag = some q → BagAt H m.more q) {a : Addr} (ha : H a ≠ none) : H' a ≠ none := by
  intro z
  cases e : H a with
  | none => exact ha e
  | some o =>
    by_cases h1 : a = p
    · subst h1
      exact hp z
    · by_cases h2 : m.bag = some a
      · obtain ⟨_, _, _, _, _, q, _⟩ := l.bag a h2 (hb a h2)
        rw [z] at q
        cases q
      · rw [l.keep a o e fun w => absurd w (by simp [h1, h2])] at z
        cases z
theorem Sl.lw {σ : L2.St} {δ : Dl} (hp : p ∈ m.more) (l : Lw m p H H') (hp2 : H' p ≠ none) (E : Sl K m C H σ δ) : Sl K m C H' σ δ :=
  ⟨E.len, fun i d h => let ⟨v, h1, h2⟩ := E.at_ i d h; ⟨v, h1, h2.lw hp l⟩, fun q h => l.bag q h (E.bag q h), fun a h => l.there hp2 E.bag (E.more a h)⟩
theorem Sl.own {σ : L2.St} {δ : Dl} (E : Sl K m C H σ δ) {xs : List V} (hp : p ∈ m.more) (h : H p = some (.lst xs)) (l : Le m H H') : H' p = some (.lst xs) :=
  l.keep _ _ h fun z => by
    obtain ⟨_, _, _, _, _, _, _, _, h4, _⟩ := E.bag p z
    exact absurd hp h4
end

/-! ### what is walked -/
/-- lists of the data are as they were -/
def Pers (m : Md) (H H' : Hp) : Prop := ∀ a o, H a = some o → (m.mut a → ¬ isL o) → H' a = some o
section
variable {K : PySem.W.Frag} {m : Md} {C : Addr} {H H' H1 : Hp} {p : Addr}
theorem Pers.refl : Pers m H H := fun _ _ h _ => h
theorem Pers.of_le (l : Le m H H') : Pers m H H' := fun a o h n => l.keep a o h fun z => n (.inl z)
theorem Pers.of_lw (hp : p ∈ m.more) (l : Lw m p H H') : Pers m H H' := fun a o h n => l.keep a o h fun z => n (z.elim .inl fun e => .inr (by rw [e]; exact hp))
theorem Pers.trans (a : Pers m H H') (b : Pers m H' H1) : Pers m H H1 := fun c o h n => b c o (a c o h n) n
theorem Pers.sqT (l : Pers m H H') {a : Addr} {xs : List V} (h : SqT K H a xs) : SqT K H' a xs := by
  rcases h with (h | ⟨o, h⟩) | h
  · exact .inl (.inl (l _ _ h fun _ z => z))
  · exact .inl (.inr ⟨o, l _ _ h fun _ z => z⟩)
  · exact .inr h
mutual
theorem Rp.pers (l : Pers m H H') : ∀ {d : D} {v : V}, Rp K m C H d v → Rp K m C H' d v
  | .non, _, h => h
  | .bl _, _, h => h
  | .int _, _, h => h
  | .str _, _, h => h
  | .tup ds, _, h => by
    obtain ⟨a, xs, e, h1, h2⟩ := h
    exact ⟨a, xs, e, l.sqT h1, RpAll.pers l h2⟩
  | .lst ds, _, h => by
    obtain ⟨a, xs, e, h1, h3, h2⟩ := h
    exact ⟨a, xs, e, l _ _ h1 fun z => absurd z h3, h3, RpAll.pers l h2⟩
  | .scr fs cs, _, h => by
    obtain ⟨q, dx, st, xs, e, h1, h2, h3⟩ := h
    exact ⟨q, dx, st, xs, e, l _ _ h1 fun _ z => z, l.sqT h2, RpAll.pers l h3⟩
  | .bag, _, h => h
  | .own _, _, h => h
theorem RpAll.pers (l : Pers m H H') : ∀ {ds : List D} {xs : List V}, RpAll K m C H ds xs → RpAll K m C H' ds xs
  | [], _, h => h
  | d :: ds, _, h => by
    obtain ⟨v, vs, e, h1, h2⟩ := h
    exact ⟨v, vs, e, Rp.pers l h1, RpAll.pers l h2⟩
end
structure Walks (K : PySem.W.Frag) (m : Md) (C : Addr) (J : It) (ds : List D) (H1 : Hp) : Prop where
  go : ∀ i H, Pers m H1 H → i < ds.length → J.go i H
  yld : ∀ i H x H', Pers m H1 H → i < ds.length → J.yld i H x H' → H' = H ∧ ∃ d, ds[i]? = some d ∧ Rp K m C H1 d x
  stop : ∀ H, Pers m H1 H → J.stop ds.length H
theorem walks_tup {a : Addr} {xs : List V} {ds : List D} (h : SqT K H1 a xs) (r : RpAll K m C H1 ds xs) : Walks K m C (Itt K a) ds H1 := by
  have e := r.length
  refine ⟨fun i H l hi => ⟨xs, xs[i]'(by omega), l.sqT h, by simp [e, hi]⟩, fun i H x H' l hi ⟨e1, y⟩ => ⟨e1, ?_⟩, fun H l => ⟨xs, l.sqT h, by rw [e]; exact Nat.le_refl _⟩⟩
  exact r.get' (y xs (l.sqT h))
theorem walks_lst {a : Addr} {xs : List V} {ds : List D} (h : H1 a = some (.lst xs)) (hn : ¬ m.mut a) (r : RpAll K m C H1 ds xs) : Walks K m C (Itl K a) ds H1 := by
  have e := r.length
  have k : ∀ H, Pers m H1 H → SqL K H a xs := fun H l => SqL.of (l _ _ h fun z => absurd z hn)
  refine ⟨fun i H l hi => ⟨xs, xs[i]'(by omega), k H l, by simp [e, hi]⟩, fun i H x H' l hi ⟨e1, y⟩ => ⟨e1, ?_⟩, fun H l => ⟨xs, k H l, by rw [e]; exact Nat.le_refl _⟩⟩
  exact r.get' (y xs (k H l))
/-- lo, lo + 1, .. -/
def rngD (lo : Int) (n : Nat) : List D := (List.range n).map fun (i : Nat) => D.int (lo + (i : Int))
theorem rngD_len (lo : Int) (n : Nat) : (rngD lo n).length = n := by unfold rngD; simp
theorem rngD_get {lo : Int} {n i : Nat} (h : i < n) : (rngD lo n)[i]? = some (.int (lo + (i : Int))) := by
  unfold rngD
  rw [List.getElem?_map, List.getElem?_range h]
  rfl
theorem walks_rng {lo : Int} {n : Nat} : Walks K m C (Itr lo n) (rngD lo n) H1 := by
  have e := rngD_len lo n
  refine ⟨fun i H l hi => by rw [e] at hi; exact hi, fun i H x H' l hi ⟨e1, y⟩ => ⟨e1, _, rngD_get (by rw [e] at hi; exact hi), y⟩, fun H l => by rw [e]; exact Nat.le_refl _⟩
end
section
variable {X : Cx} {m : Md} {C : Addr} {δ : Dl} {e a b tg iter : Expr} {pos px p1 : Pos} {ds : List D}
def EvI (X : Cx) (m : Md) (C : Addr) (δ : Dl) (tg iter : Expr) (ds : List D) : Prop := ∃ wi, PI X tg iter wi ∧ ∀ σ H, Sl X.K m C H σ δ → ∀ (Rr : It → Hp → Prop), (∀ J H1, Le m H H1 → Walks X.K m C J ds H1 → Rr J H1) → wi σ H Rr
theorem ei_tup (h : Ev X m C δ e (.tup ds)) : EvI X m C δ tg e ds := ⟨_, pi_tup peW, fun σ H E Rr q => h.go E fun v H1 l1 ⟨a, xs, e1, h1, r1⟩ => ⟨a, e1, ⟨xs, h1⟩, q _ H1 l1 (walks_tup h1 r1)⟩⟩
theorem ei_lst (h : Ev X m C δ e (.lst ds)) : EvI X m C δ tg e ds := ⟨_, pi_list peW, fun σ H E Rr q => h.go E fun v H1 l1 ⟨a, xs, e1, h1, hn, r1⟩ => ⟨a, e1, ⟨xs, SqL.of h1⟩, q _ H1 l1 (walks_lst h1 hn r1)⟩⟩
theorem ei_range1 {n : Int} (hm : X.mg "range" = none) (h : Ev X m C δ a (.int n)) (hn : 0 ≤ n ∧ n < 1000000) (hg : Gl X "range" := by rfl) (he : starEach [a] X.env = (false, eval a X.env) :: starEach [] X.env := by rfl) (hs : starEach [a] X.env = [(false, eval a X.env)] := by rfl) :
    EvI X m C δ tg (.Call (.Name "range" p1) [a] [] pos) (rngD 0 n.toNat) := ⟨_, pi_range1 hg hm paW hs, fun σ H E Rr q => (ea_cons h ea_nil he).go E fun vs H1 l1 r1 => by
    obtain ⟨v, e1, r⟩ := one_rp r1
    rw [show v = V.int n from r] at e1
    exact ⟨n, e1, by omega, by omega, q _ H1 l1 walks_rng⟩⟩
theorem ei_range2 {lo hi : Int} (hm : X.mg "range" = none) (h : Ev X m C δ a (.int lo)) (h2 : Ev X m C δ b (.int hi)) (hn : -1000 ≤ lo ∧ lo < 1000000 ∧ -1000 ≤ hi ∧ hi < 1000000) (hg : Gl X "range" := by rfl) (he : starEach [a, b] X.env = (false, eval a X.env) :: starEach [b] X.env := by rfl)
    (he2 : starEach [b] X.env = (false, eval b X.env) :: starEach [] X.env := by rfl) (hs : starEach [a, b] X.env = [(false, eval a X.env), (false, eval b X.env)] := by rfl) (hs2 : starEach [b] X.env = [(false, eval b X.env)] := by rfl) :
    EvI X m C δ tg (.Call (.Name "range" p1) [a, b] [] pos) (rngD lo (hi - lo).toNat) := ⟨_, pi_range2 hg hm paW hs hs2, fun σ H E Rr q => (ea_cons h (ea_cons h2 ea_nil he2) he).go E fun vs H1 l1 r1 => by
    obtain ⟨v, w, e1, r, r'⟩ := two_rp r1
    rw [show v = V.int lo from r, show w = V.int hi from r'] at e1
    exact ⟨lo, hi, e1, by omega, q _ H1 l1 walks_rng⟩⟩
end

/-! ### comprehensions -/
section
variable {X : Cx} {m : Md} {C : Addr} {δ : Dl} {elt iter : Expr} {scope : Scope} {pos px : Pos} {n : Str} {j : Nat} {ds : List D}
/-- the block's own context -/
abbrev blkX (X : Cx) (scope : Scope) (s : Shared) (H : Hp) (Cc : Addr) (cl : List (Str × Addr)) (fp : List Addr) : Cx := X.blk s H scope (compEnvC scope cl Cc X.env) fp
def bE (X : Cx) (scope : Scope) (e : Expr) : TE := fun σ H Q => ∀ (s : Shared) (H0 : Hp) (Cc : Addr) (cl : List (Str × Addr)) (fp : List Addr), wE (blkX X scope s H0 Cc cl fp) e σ H Q
def bT (X : Cx) (scope : Scope) (e : Expr) : TT := fun σ H Q => ∀ (s : Shared) (H0 : Hp) (Cc : Addr) (cl : List (Str × Addr)) (fp : List Addr), wT (blkX X scope s H0 Cc cl fp) e σ H Q
/-- in the block, with one list more that may change -/
def BEv (X : Cx) (m : Md) (C : Addr) (scope : Scope) (δ : Dl) (e : Expr) (P : D → Prop) : Prop := ∀ (p : Addr) (s : Shared) (H0 : Hp) (Cc : Addr) (cl : List (Str × Addr)) (fp : List Addr), EvP (blkX X scope s H0 Cc cl fp) (m.add p) C δ e P
def BEvT (X : Cx) (m : Md) (C : Addr) (scope : Scope) (δ : Dl) (e : Expr) (b : Bool) : Prop := ∀ (p : Addr) (s : Shared) (H0 : Hp) (Cc : Addr) (cl : List (Str × Addr)) (fp : List Addr), EvT (blkX X scope s H0 Cc cl fp) (m.add p) C δ e b
theorem wipe1 {σ : L2.St} : wipe σ [j] = σ.set j none := rfl
/-- what stands in the list so far -/
def Got (K : PySem.W.Frag) (m : Md) (C : Addr) (H1 : Hp) (Da : Addr) (P : List D → Prop) (H : Hp) : Prop := H1 Da = none ∧ Lw (m.add Da) Da (upd H1 Da (.lst [])) H ∧ ∃ ds acc, H Da = some (.lst acc) ∧ RpAll K (m.add Da) C H ds acc ∧ P ds
theorem Got.start {K : PySem.W.Frag} {H1 : Hp} {Da : Addr} {P : List D → Prop} (h : H1 Da = none) (p : P []) : Got K m C H1 Da P (upd H1 Da (.lst [])) := ⟨h, .refl, [], [], upd_same, rfl, p⟩
theorem Got.sl {K : PySem.W.Frag} {H1 H : Hp} {Da : Addr} {P : List D → Prop} {σ : L2.St} (g : Got K m C H1 Da P H) (E : Sl K m C H1 σ δ) : Sl K (m.add Da) C H σ δ := by
  obtain ⟨g1, g2, ds, acc, g3, g4, g5⟩ := g
  exact (E.grow g1).lw List.mem_cons_self g2 (by rw [g3]; intro z; cases z)
theorem Got.end_ {K : PySem.W.Frag} {H1 H : Hp} {Da : Addr} {P : List D → Prop} {σ : L2.St} (g : Got K m C H1 Da P H) (E : Sl K m C H1 σ δ) : ∃ ds, P ds ∧ Le m H1 H ∧ Rp K m C H (.lst ds) (.ref Da) := by
  obtain ⟨g1, g2, ds, acc, g3, g4, g5⟩ := g
  exact ⟨ds, g5, g2.leave g1, Da, acc, rfl, g3, E.new g1, g4.shrink⟩
theorem Got.imp {K : PySem.W.Frag} {H1 H : Hp} {Da : Addr} {P P' : List D → Prop} (g : Got K m C H1 Da P H) (h : ∀ ds, P ds → P' ds) : Got K m C H1 Da P' H := by
  obtain ⟨g1, g2, ds, acc, g3, g4, g5⟩ := g
  exact ⟨g1, g2, ds, acc, g3, g4, h ds g5⟩
/-- an evaluation within -/
theorem Got.le {K : PySem.W.Frag} {H1 H H' : Hp} {Da : Addr} {P : List D → Prop} {σ : L2.St} (g : Got K m C H1 Da P H) (E : Sl K m C H1 σ δ) (l : Le (m.add Da) H H') : Got K m C H1 Da P H' := by
  have E' := g.sl E
  obtain ⟨g1, g2, ds, acc, g3, g4, g5⟩ := g
  exact ⟨g1, g2.trans (.of_le l), ds, acc, E'.own List.mem_cons_self g3 l, g4.le l, g5⟩
/-- one more item -/
theorem Got.push {K : PySem.W.Frag} {H1 H : Hp} {Da : Addr} {P P' : List D → Prop} {d : D} {v : V} (g : Got K m C H1 Da P H) (r : Rp K (m.add Da) C H d v) (hz : ∀ ds, P ds → ds.length < 1000000) (hp : ∀ ds, P ds → P' (ds ++ [d])) :
    ∃ acc, H Da = some (.lst acc) ∧ acc.length < sizeLine ∧ Got K m C H1 Da P' (upd H Da (.lst (acc ++ [v]))) := by
  obtain ⟨g1, g2, ds, acc, g3, g4, g5⟩ := g
  have hm : Da ∈ (m.add Da).more := List.mem_cons_self
  have lw : Lw (m.add Da) Da H (upd H Da (.lst (acc ++ [v]))) := .wr hm g3
  exact ⟨acc, g3, by rw [g4.length, sizeLine_eq]; have := hz ds g5; omega, g1, g2.trans lw, ds ++ [d], acc ++ [v], upd_same, (g4.append (.one r)).lw hm lw, hp ds g5⟩
theorem got_turn {H1 H : Hp} {Da : Addr} {P P' : List D → Prop} {R : D → Prop} {σ2 : L2.St} {δ2 : Dl} (hz : ∀ ds, P ds → ds.length < 1000000) (E : Sl X.K m C H1 σ2 δ2) (he : BEv X m C scope δ2 elt R) (hp : ∀ ds d, P ds → R d → P' (ds ++ [d])) (g : Got X.K m C H1 Da P H) :
    bE X scope elt σ2 H fun y H4 => ∃ acc, H4 Da = some (.lst acc) ∧ acc.length < sizeLine ∧ Got X.K m C H1 Da P' (upd H4 Da (.lst (acc ++ [y]))) := by
  intro s H0 Cc cl fp
  refine he Da s H0 Cc cl fp σ2 H (g.sl E) _ fun d v H2 hd l r => ?_
  exact (g.le E l).push r hz fun ds p => hp ds d p hd
theorem Sl.slot {K : PySem.W.Frag} {H : Hp} {σ : L2.St} {x : V} {d : D} (E : Sl K m C H σ δ) (r : Rp K m C H d x) : Sl K m C H ((wipe σ [j]).set j (some x)) (δ.set j (some d)) := by
  have h := (E.unset (i := j) (o := none)).set (i := j) r
  rwa [List.set_set (l := δ)] at h
theorem wipe_slot {σ : L2.St} {x : V} : wipe ((wipe σ [j]).set j (some x)) [j] = wipe σ [j] := by
  show ((σ.set j none).set j (some x)).set j none = σ.set j none
  rw [List.set_set, List.set_set]
theorem Got.pers {K : PySem.W.Frag} {H1 H : Hp} {Da : Addr} {P : List D → Prop} (g : Got K m C H1 Da P H) : Pers m H1 H := fun a o h n => by
  obtain ⟨g1, g2, _⟩ := g
  exact g2.keep a o (by rw [upd_ne (ne_of_none h g1)]; exact h) fun z => z.elim (fun z => n (.inl z)) fun e => absurd e (ne_of_none h g1)
theorem lc_walk {K : PySem.W.Frag} {J : It} {H1 : Hp} {g : TG} {tt : TT} {te : TE} {vs : List Nat} {σ : L2.St} {Da : Addr} {Qd : Hp → Prop} (Pv : Nat → Hp → Prop) (w : Walks K m C J ds H1) (hp : ∀ i H, Pv i H → Pers m H1 H) (h0 : Pv 0 (upd H1 Da (.lst [])))
    (hs : ∀ i d x H, ds[i]? = some d → Rp K m C H1 d x → Pv i H → g x (wipe σ vs) H fun σ2 H2 => wipe σ2 vs = wipe σ vs ∧ tt σ2 H2 fun b H3 =>
      if b = true then te σ2 H3 fun y H4 => ∃ acc, H4 Da = some (.lst acc) ∧ acc.length < sizeLine ∧ Pv (i + 1) (upd H4 Da (.lst (acc ++ [y]))) else Pv (i + 1) H3) (hd : ∀ H, Pv ds.length H → Qd H) :
    ∃ W : Nat → Nat → Hp → Prop, (∃ m, W 0 m (upd H1 Da (.lst []))) ∧ ∀ i m H, W i m H →
      (J.stop i H ∧ Qd H) ∨ (J.go i H ∧ ∃ Nx : Hp → Prop, (∀ H', Nx H' → ∃ m', m' < m ∧ W (i + 1) m' H') ∧ ∀ x H', J.yld i H x H' → g x (wipe σ vs) H' fun σ2 H2 => wipe σ2 vs = wipe σ vs ∧ tt σ2 H2 fun b H3 =>
        if b = true then te σ2 H3 fun y H4 => ∃ acc, H4 Da = some (.lst acc) ∧ acc.length < sizeLine ∧ Nx (upd H4 Da (.lst (acc ++ [y]))) else Nx H3) := by
  refine ⟨fun i k H => k = ds.length - i ∧ i ≤ ds.length ∧ Pv i H, ⟨ds.length, by simp, Nat.zero_le _, h0⟩, ?_⟩
  rintro i k H ⟨rfl, hi, p⟩
  have l := hp i H p
  by_cases hlt : i < ds.length
  · refine .inr ⟨w.go i H l hlt, Pv (i + 1), fun H' p' => ⟨ds.length - (i + 1), by omega, rfl, hlt, p'⟩, fun x H' y => ?_⟩
    obtain ⟨e1, d, hd, r⟩ := w.yld i H x H' l hlt y
    rw [e1]
    exact hs i d x H hd r p
  · have e : i = ds.length := by omega
    subst e
    exact .inl ⟨w.stop H l, hd H p⟩
def BEvI (X : Cx) (scope : Scope) (n : Str) (j : Nat) (px : Pos) : Prop := ∀ (s : Shared) (H : Hp) (Cc : Addr) (cl : List (Str × Addr)) (fp : List Addr), PG (blkX X scope s H Cc cl fp) (.Name n px) (gName j)
theorem lcP_core {R : Nat → D → Prop} {wi : TI} (hiT : ∀ σ H, Sl X.K m C H σ δ → ∀ (Rr : It → Hp → Prop), (∀ J H1, Le m H H1 → Walks X.K m C J ds H1 → Rr J H1) → wi σ H Rr) (hlen : ds.length < 100000)
    (he : ∀ i d, ds[i]? = some d → BEv X m C scope (δ.set j (some d)) elt (R i)) {σ : L2.St} {H : Hp} (E : Sl X.K m C H σ δ) {Q : VK} (q : ∀ es v H', (es.length = ds.length ∧ ∀ i d, es[i]? = some d → R i d) → Le m H H' → Rp X.K m C H' (.lst es) v → Q v H') :
    tLc wi (gName j) tYes (bE X scope elt) [j] σ H Q := by
  refine hiT σ H E _ fun J H1 l1 w D hD => ?_
  have E1 := E.le l1
  refine lc_walk (fun i H' => Got X.K m C H1 D (fun es => es.length = i ∧ ∀ k d, es[k]? = some d → R k d) H') w (fun i H' g => g.pers) (.start hD ⟨rfl, fun k d z => by simp at z⟩) (fun i d x H' hd rd g => ?_) fun H' g => ?_
  · refine ⟨wipe_slot, ?_⟩
    refine iteT (B := Got X.K m C H1 D (fun es => es.length = i + 1 ∧ ∀ k d, es[k]? = some d → R k d) H') ?_
    refine got_turn (R := R i) (fun es p => by have := (List.getElem?_eq_some_iff.mp hd).1; omega) (E1.slot (j := j) rd) (he i d hd) (fun es e p hr => ⟨by rw [List.length_append, p.1]; rfl, fun k d' hk => ?_⟩) g
    by_cases hki : k < es.length
    · rw [List.getElem?_append_left hki] at hk
      exact p.2 k d' hk
    · have hk2 := (List.getElem?_eq_some_iff.mp hk).1
      rw [List.length_append, List.length_singleton] at hk2
      have e1 : k = es.length := by omega
      subst e1
      rw [List.getElem?_append_right (Nat.le_refl _), Nat.sub_self] at hk
      cases hk
      rw [p.1]
      exact hr
  · obtain ⟨es, p, l, r⟩ := g.end_ E1
    exact q es _ H' p (l1.trans l) r
/-- [e for x in t], whatever is drawn on the way -/
theorem ev_lcP {R : Nat → D → Prop} (hi : EvI X m C δ (.Name n px) iter ds) (hlen : ds.length < 100000) (hc : X.calm = true) (hN : X.N.Nodup) (ok : BlkOk X.N X.env.scope scope [(n, j)]) (hg : BEvI X scope n j px)
    (he : ∀ i d, ds[i]? = some d → BEv X m C scope (δ.set j (some d)) elt (R i)) (hs : ∀ x, foldedSetIterable iter X.env x = pure x := by intro _; rfl) :
    EvP X m C δ (.ListComp elt [⟨.Name n px, iter, [], 0⟩] scope pos) (fun z => ∃ es, z = .lst es ∧ es.length = ds.length ∧ ∀ i d, es[i]? = some d → R i d) := fun σ H E Q q => by
  obtain ⟨wi, pi, hiT⟩ := hi
  refine ofPE (pe_lc (own := [(n, j)]) (te := bE X scope elt) hc hN pi ok hg (fun _ _ _ _ _ => pts_nil) (fun s H Cc cl fp => ⟨fun pins s' σ' H' Q' I h => h s H Cc cl fp pins s' I⟩) hs) ?_
  exact lcP_core hiT hlen he E fun es v H' p l r => q (.lst es) v H' ⟨es, rfl, p⟩ l r
/-- y = [e for x in t] -/
theorem nx_lcP {R : Nat → D → Prop} {y : Str} {py spos : Pos} (i : Nat) (hi : EvI X m C δ (.Name n px) iter ds) (hlen : ds.length < 100000) (hc : X.calm = true) (hN : X.N.Nodup) (ok : BlkOk X.N X.env.scope scope [(n, j)]) (hg : BEvI X scope n j px)
    (he : ∀ i d, ds[i]? = some d → BEv X m C scope (δ.set j (some d)) elt (R i)) {σ : L2.St} {H : Hp} {Dn : Ends} (E : Sl X.K m C H σ δ) (q : ∀ es v H1, (es.length = ds.length ∧ ∀ i d, es[i]? = some d → R i d) → Le m H H1 → Rp X.K m C H1 (.lst es) v → Dn.nx (σ.set i (some v)) H1)
    (hsw : swapsWith (.ListComp elt [⟨.Name n px, iter, [], 0⟩] scope pos) (some (.Name y py)) spos.line X.env = pure true) (hy : X.N[i]? = some y := by rfl) (hyl : X.env.scope.names.lookup y = some .local := by rfl) (hs : ∀ x, foldedSetIterable iter X.env x = pure x := by intro _; rfl) :
    wS X (.Assign [.Name y py] (.ListComp elt [⟨.Name n px, iter, [], 0⟩] scope pos) spos) Dn σ H := by
  obtain ⟨wi, pi, hiT⟩ := hi
  refine ofPS (ps_setLc (i := i) (own := [(n, j)]) (te := bE X scope elt) hc hN hy hyl hsw pi ok hg (fun _ _ _ _ _ => pts_nil) (fun s H Cc cl fp => ⟨fun pins s' σ' H' Q' I h => h s H Cc cl fp pins s' I⟩) hs) ?_
  exact lcP_core hiT hlen he E fun es v H' p l r => q es v H' p l r
/-- [e for x in t] -/
theorem ev_lc (f : D → D) (hi : EvI X m C δ (.Name n px) iter ds) (hlen : ds.length < 100000) (hc : X.calm = true) (hN : X.N.Nodup) (ok : BlkOk X.N X.env.scope scope [(n, j)]) (hg : BEvI X scope n j px)
    (he : ∀ d, d ∈ ds → BEv X m C scope (δ.set j (some d)) elt (fun z => z = f d)) (hs : ∀ x, foldedSetIterable iter X.env x = pure x := by intro _; rfl) :
    Ev X m C δ (.ListComp elt [⟨.Name n px, iter, [], 0⟩] scope pos) (.lst (ds.map f)) :=
  EvP.imp (ev_lcP (R := fun i z => ∃ d, ds[i]? = some d ∧ z = f d) hi hlen hc hN ok hg (fun i d hd p s H0 Cc cl fp => EvP.imp (he d (List.mem_of_getElem? hd) p s H0 Cc cl fp) fun z e => ⟨d, hd, e⟩) hs) fun z ⟨es, e1, e2, e3⟩ => by
    rw [e1]
    congr 1
    refine List.ext_getElem? fun i => ?_
    rw [List.getElem?_map]
    by_cases h : i < ds.length
    · obtain ⟨d, h1, h2⟩ := e3 i _ (List.getElem?_eq_getElem (show i < es.length by omega))
      rw [List.getElem?_eq_getElem (show i < es.length by omega), h1, h2]
      rfl
    · rw [List.getElem?_eq_none (show es.length ≤ i by omega), List.getElem?_eq_none (show ds.length ≤ i by omega)]
      rfl
/-- [c for x in t], truths -/
theorem ev_lcB (p : D → Bool) (hi : EvI X m C δ (.Name n px) iter ds) (hlen : ds.length < 100000) (hc : X.calm = true) (hN : X.N.Nodup) (ok : BlkOk X.N X.env.scope scope [(n, j)]) (hg : BEvI X scope n j px)
    (he : ∀ d, d ∈ ds → BEv X m C scope (δ.set j (some d)) elt (fun z => z = .bl (p d))) (hs : ∀ x, foldedSetIterable iter X.env x = pure x := by intro _; rfl) :
    Ev X m C δ (.ListComp elt [⟨.Name n px, iter, [], 0⟩] scope pos) (.lst ((ds.map p).map D.bl)) :=
  (ev_lc (fun d => .bl (p d)) hi hlen hc hN ok hg he hs).is (by rw [List.map_map]; rfl)
/-- [i for x in t], intsF -/
theorem ev_lcI (p : D → Int) (hi : EvI X m C δ (.Name n px) iter ds) (hlen : ds.length < 100000) (hc : X.calm = true) (hN : X.N.Nodup) (ok : BlkOk X.N X.env.scope scope [(n, j)]) (hg : BEvI X scope n j px)
    (he : ∀ d, d ∈ ds → BEv X m C scope (δ.set j (some d)) elt (fun z => z = .int (p d))) (hs : ∀ x, foldedSetIterable iter X.env x = pure x := by intro _; rfl) :
    Ev X m C δ (.ListComp elt [⟨.Name n px, iter, [], 0⟩] scope pos) (.lst ((ds.map p).map D.int)) :=
  (ev_lc (fun d => .int (p d)) hi hlen hc hN ok hg he hs).is (by rw [List.map_map]; rfl)
theorem lcIf_core {cnd : Expr} (f : D → D) (p : D → Bool) {wi : TI} (hiT : ∀ σ H, Sl X.K m C H σ δ → ∀ (Rr : It → Hp → Prop), (∀ J H1, Le m H H1 → Walks X.K m C J ds H1 → Rr J H1) → wi σ H Rr) (hlen : ds.length < 100000)
    (ht : ∀ d, d ∈ ds → BEvT X m C scope (δ.set j (some d)) cnd (p d)) (he : ∀ d, d ∈ ds → p d = true → BEv X m C scope (δ.set j (some d)) elt (fun z => z = f d)) {σ : L2.St} {H : Hp} (E : Sl X.K m C H σ δ) {Q : VK} (q : ∀ v H', Le m H H' → Rp X.K m C H' (.lst ((ds.filter p).map f)) v → Q v H') :
    tLc wi (gName j) (bT X scope cnd) (bE X scope elt) [j] σ H Q := by
  refine hiT σ H E _ fun J H1 l1 w D hD => ?_
  have E1 := E.le l1
  refine lc_walk (fun i H' => Got X.K m C H1 D (fun es => es = ((ds.take i).filter p).map f) H') w (fun i H' g => g.pers) (.start hD rfl) (fun i d x H' hd rd g => ?_) fun H' g => ?_
  · have hm : d ∈ ds := List.mem_of_getElem? hd
    have hi : i < ds.length := (List.getElem?_eq_some_iff.mp hd).1
    have E2 := E1.slot (j := j) rd
    have tk : ds.take (i + 1) = ds.take i ++ [d] := by rw [List.take_add_one, hd]; rfl
    refine ⟨wipe_slot, fun s H0 Cc cl fp => ht d hm D s H0 Cc cl fp _ H' (g.sl E2) _ fun H3 l3 => ?_⟩
    have g3 := g.le E2 l3
    cases hp : p d with
    | true =>
      refine iteT ?_
      refine got_turn (R := fun z => z = f d) (fun es e => ?_) E2 (he d hm hp) (fun es z e1 e2 => ?_) g3
      · rw [e, List.length_map]
        have h1 := List.length_filter_le p (ds.take i)
        have h2 : (ds.take i).length ≤ i := by rw [List.length_take]; omega
        omega
      · rw [e1, e2, tk, List.filter_append, List.map_append, List.filter_cons, if_pos hp]
        rfl
    | false =>
      refine iteF (g3.imp fun es e => ?_)
      rw [e, tk, List.filter_append, List.map_append, List.filter_cons, if_neg (by rw [hp]; decide)]
      simp
  · obtain ⟨es, e, l, r⟩ := g.end_ E1
    rw [List.take_length] at e
    rw [e] at r
    exact q _ H' (l1.trans l) r
/-- [e for x in t if c] -/
theorem ev_lcIf {cnd : Expr} (f : D → D) (p : D → Bool) (hi : EvI X m C δ (.Name n px) iter ds) (hlen : ds.length < 100000) (hc : X.calm = true) (hN : X.N.Nodup) (ok : BlkOk X.N X.env.scope scope [(n, j)]) (hg : BEvI X scope n j px)
    (ht : ∀ d, d ∈ ds → BEvT X m C scope (δ.set j (some d)) cnd (p d)) (he : ∀ d, d ∈ ds → p d = true → BEv X m C scope (δ.set j (some d)) elt (fun z => z = f d)) (hs : ∀ x, foldedSetIterable iter X.env x = pure x := by intro _; rfl) :
    Ev X m C δ (.ListComp elt [⟨.Name n px, iter, [cnd], 0⟩] scope pos) (.lst ((ds.filter p).map f)) := .mk fun σ H E Q q => by
  obtain ⟨wi, pi, hiT⟩ := hi
  refine ofPE (pe_lc (own := [(n, j)]) (tt := bT X scope cnd) (te := bE X scope elt) hc hN pi ok hg (fun s H Cc cl fp => pts_one ⟨fun pins s' σ' H' Q' I h => h s H Cc cl fp pins s' I⟩) (fun s H Cc cl fp => ⟨fun pins s' σ' H' Q' I h => h s H Cc cl fp pins s' I⟩) hs) ?_
  exact lcIf_core f p hiT hlen ht he E fun v H' l r => q v H' l r
/-- y = [e for x in t if c] -/
theorem nx_lcIf {cnd : Expr} {y : Str} {py spos : Pos} (i : Nat) (f : D → D) (p : D → Bool) (hi : EvI X m C δ (.Name n px) iter ds) (hlen : ds.length < 100000) (hc : X.calm = true) (hN : X.N.Nodup) (ok : BlkOk X.N X.env.scope scope [(n, j)]) (hg : BEvI X scope n j px)
    (ht : ∀ d, d ∈ ds → BEvT X m C scope (δ.set j (some d)) cnd (p d)) (he : ∀ d, d ∈ ds → p d = true → BEv X m C scope (δ.set j (some d)) elt (fun z => z = f d))
    (hsw : swapsWith (.ListComp elt [⟨.Name n px, iter, [cnd], 0⟩] scope pos) (some (.Name y py)) spos.line X.env = pure true) (hy : X.N[i]? = some y := by rfl) (hyl : X.env.scope.names.lookup y = some .local := by rfl) (hs : ∀ x, foldedSetIterable iter X.env x = pure x := by intro _; rfl) :
    NxS X m C δ (.Assign [.Name y py] (.ListComp elt [⟨.Name n px, iter, [cnd], 0⟩] scope pos) spos) (δ.set i (some (.lst ((ds.filter p).map f)))) := fun σ H E Dn q => by
  obtain ⟨wi, pi, hiT⟩ := hi
  refine ofPS (ps_setLc (i := i) (own := [(n, j)]) (tt := bT X scope cnd) (te := bE X scope elt) hc hN hy hyl hsw pi ok hg (fun s H Cc cl fp => pts_one ⟨fun pins s' σ' H' Q' I h => h s H Cc cl fp pins s' I⟩) (fun s H Cc cl fp => ⟨fun pins s' σ' H' Q' I h => h s H Cc cl fp pins s' I⟩) hs) ?_
  exact lcIf_core f p hiT hlen ht he E fun v H' l r => q _ H' l ((E.le l).set r)
end

/-! ### loops over data -/
section
variable {X : Cx} {m : Md} {C : Addr} {δ : Dl} {iter : Expr} {pos px : Pos} {n : Str} {j : Nat} {ds : List D} {body : List Stmt}
/-- for x in t: the slots behind i turns hold f i -/
theorem nx_for (f : Nat → Dl) (hi : EvI X m C δ (.Name n px) iter ds) (h0 : f 0 = δ) (hp : PassesOwn (model X.prog X.w) X.A X.env X.xe) (hc : X.calm = true) (hN : X.N.Nodup) (hb : ∀ i d, ds[i]? = some d → Nxs X m C ((f i).set j (some d)) body (f (i + 1)))
    (hj : X.N[j]? = some n := by rfl) (hx : Loc X.env.scope n := by first | exact Or.inl rfl | exact Or.inr rfl) (hf : X.fn n = true ∨ X.env.scope.names.lookup n = some .local := by first | exact .inl rfl | exact .inr rfl)
    (hs : ∀ x, foldedSetIterable iter X.env x = pure x := by intro _; rfl) : NxS X m C δ (.For (.Name n px) iter body [] pos) (f ds.length) := fun σ H E Dn q => by
  obtain ⟨wi, pi, hiT⟩ := hi
  refine ofPS (ps_for hp hc pi (pg_name hN hj hx hf) pssW hs) ?_
  refine hiT σ H E _ fun J H1 l1 w => ?_
  refine ⟨fun i k σ' H' => k = ds.length - i ∧ i ≤ ds.length ∧ Le m H1 H' ∧ Sl X.K m C H' σ' (f i), ⟨ds.length, by simp, Nat.zero_le _, .refl m H1, by rw [h0]; exact E.le l1⟩, ?_⟩
  rintro i k σ' H' ⟨rfl, hi, l, E'⟩
  by_cases hlt : i < ds.length
  · refine .inr ⟨w.go i H' (.of_le l) hlt, fun σ2 H2 => Le m H1 H2 ∧ Sl X.K m C H2 σ2 (f (i + 1)), fun σ2 H2 ⟨l2, E2⟩ => ⟨ds.length - (i + 1), by omega, rfl, hlt, l2, E2⟩, fun x H2 y => ?_⟩
    obtain ⟨e1, d, hd, r⟩ := w.yld i H' x H2 (.of_le l) hlt y
    subst e1
    exact hb i d hd _ _ (E'.set (r.le l)) _ fun σ3 H3 l3 E3 => ⟨l.trans l3, E3⟩
  · have e : i = ds.length := by omega
    subst e
    exact .inl ⟨w.stop H' (.of_le l), q σ' H' (l1.trans l) E'⟩
end
end PB

/-! the text by places; what the walk asks of the top -/
namespace PB
open PySem PySem.Spec PyProof.Rows L2

def topS (i : Nat) : Stmt := PySem.Challenge.pw_pupilpairs_k73_whole_claims_together.main.body.getD i (.Pass ⟨0, 0, 0, 0⟩)

/-- a def of the top -/
structure DefAs (K : PySem.W.Frag) (mg : Str → Option Value) (gn nm : Str) (st : Stmt) (ps : List Str) : Prop where
  ex : ∃ f fd, Fun K nm nm st f fd ∧ mg gn = some (.ref f) ∧ Binds K fd ps []
abbrev DefAt (K : PySem.W.Frag) (mg : Str → Option Value) (nm : Str) (st : Stmt) (ps : List Str) : Prop := DefAs K mg nm nm st ps
/-- a def of the class -/
structure MethAt (K : PySem.W.Frag) (C : Addr) (nm qual : Str) (st : Stmt) (ps : List Str) : Prop where
  ex : ∃ f fd, Fun K nm qual st f fd ∧ Meth K C nm f ∧ Binds K fd ps []
structure PropAt (K : PySem.W.Frag) (C : Addr) (nm qual : Str) (st : Stmt) (ps : List Str) : Prop where
  ex : ∃ p f fd, Fun K nm qual st f fd ∧ PropOf K C nm p f ∧ Binds K fd ps []
/-- built-in names that are no module names -/
structure Blt (mg : Str → Option Value) : Prop where
  isi : mg "isinstance" = none
  int : mg "int" = none
  bool : mg "bool" = none
  str : mg "str" = none
  tuple : mg "tuple" = none
  list : mg "list" = none
  set : mg "set" = none
  len : mg "len" = none
  all : mg "all" = none
  abs : mg "abs" = none
  max : mg "max" = none
  min : mg "min" = none
  sum : mg "sum" = none
  range : mg "range" = none
  repr : mg "repr" = none
  sorted : mg "sorted" = none
  iter : mg "iter" = none
/-- a tuple of texts of the top -/
def KTup (K : PySem.W.Frag) (mg : Str → Option Value) (nm : Str) (xs : List Str) : Prop := ∃ p, mg nm = some (.ref p) ∧ ∀ H, SqT K H p (xs.map V.str)
/-- a dict of the top: texts to small intsF -/
def KDat (K : PySem.W.Frag) (w : World) (mg : Str → Option Value) (nm : Str) (yes : List (Str × Int)) (no : List Str) : Prop := ∃ p en k, mg nm = some (.ref p) ∧ KDict K w p en k ∧ (∀ q ∈ yes, ∃ t, PySem.W.nsIn K p q.1 = some (some (.int q.2 t))) ∧ ∀ z ∈ no, PySem.W.nsIn K p z = some none

structure Fx (P : Program) (w : World) (K : PySem.W.Frag) (mg : Str → Option Value) (base : Heap) (C : Addr) (nm : Str) (k n : Nat) (Pr : List D → (D → Prop) → Prop) : Prop where
  ex : ∃ f fd ps, FnOk P w K mg base CX0 k f fd ps (spX K C n Pr) ∧ mg nm = some (.ref f) ∧ PySem.W.keepIn K (.ref f) = true ∧ Binds K fd ps []
structure Mx (P : Program) (w : World) (K : PySem.W.Frag) (mg : Str → Option Value) (base : Heap) (C : Addr) (nm : Str) (k n : Nat) (Pr : List D → (D → Prop) → Prop) : Prop where
  ex : ∃ f fd ps, FnOk P w K mg base CX0 k f fd ps (spX K C n Pr) ∧ Meth K C nm f ∧ Binds K fd ps []
structure Px (P : Program) (w : World) (K : PySem.W.Frag) (mg : Str → Option Value) (base : Heap) (C : Addr) (nm : Str) (k n : Nat) (Pr : List D → (D → Prop) → Prop) : Prop where
  ex : ∃ p f fd ps, FnOk P w K mg base CX0 k f fd ps (spX K C n Pr) ∧ PropOf K C nm p f ∧ Binds K fd ps []
section
variable {P : Program} {w : World} {K : PySem.W.Frag} {mg : Str → Option Value} {base : Heap} {C : Addr} {nm qual gn : Str} {st : Stmt} {N ps : List Str} {k n : Nat} {Pr : List D → (D → Prop) → Prop}
theorem fx_mk (Df : DefAs K mg gn nm st ps) (S : FnScope N ps (defScope st)) (hn : n = ps.length)
    (hb : ∀ (f : Addr) (cdv : Value) (A : Around) (outer : List Env) (s : Shared) (H : Hp) (E : XK), Room k (A.deeper (envOfC nm (defScope st) s.heap.objs.size f cdv)) → ∀ (m : Md) (ds : List D) (R : D → Prop), ds.length = n → Pr ds R →
      Rt (bodyCx P w K mg base N nm st f cdv A outer s H E) m C (dl0 N ds) (defBody st) R) : Fx P w K mg base C gn (k + 1) n Pr := by
  obtain ⟨f, fd, F, h1, h2⟩ := Df.ex
  exact ⟨f, fd, ps, fnX F S hn (hb f), h1, F.kp, h2⟩
theorem fx_mkN (Df : DefAs K mg gn nm st ps) (S : FnScope N ps (defScope st)) (hn : n = ps.length)
    (hb : ∀ (f : Addr) (cdv : Value) (A : Around) (outer : List Env) (s : Shared) (H : Hp) (E : XK), Room k (A.deeper (envOfC nm (defScope st) s.heap.objs.size f cdv)) → ∀ (m : Md) (ds : List D) (R : D → Prop), ds.length = n → Pr ds R →
      R .non ∧ ∃ δ', Nxs (bodyCx P w K mg base N nm st f cdv A outer s H E) m C (dl0 N ds) (defBody st) δ') : Fx P w K mg base C gn (k + 1) n Pr := by
  obtain ⟨f, fd, F, h1, h2⟩ := Df.ex
  exact ⟨f, fd, ps, fnXN F S hn (hb f), h1, F.kp, h2⟩
theorem mx_mk (Df : MethAt K C nm qual st ps) (S : FnScope N ps (defScope st)) (hn : n = ps.length)
    (hb : ∀ (f : Addr) (cdv : Value) (A : Around) (outer : List Env) (s : Shared) (H : Hp) (E : XK), Room k (A.deeper (envOfC qual (defScope st) s.heap.objs.size f cdv)) → ∀ (m : Md) (ds : List D) (R : D → Prop), ds.length = n → Pr ds R →
      Rt (bodyCx P w K mg base N qual st f cdv A outer s H E) m C (dl0 N ds) (defBody st) R) : Mx P w K mg base C nm (k + 1) n Pr := by
  obtain ⟨f, fd, F, h1, h2⟩ := Df.ex
  exact ⟨f, fd, ps, fnX F S hn (hb f), h1, h2⟩
theorem px_mk (Df : PropAt K C nm qual st ps) (S : FnScope N ps (defScope st)) (hn : n = ps.length)
    (hb : ∀ (f : Addr) (cdv : Value) (A : Around) (outer : List Env) (s : Shared) (H : Hp) (E : XK), Room k (A.deeper (envOfC qual (defScope st) s.heap.objs.size f cdv)) → ∀ (m : Md) (ds : List D) (R : D → Prop), ds.length = n → Pr ds R →
      Rt (bodyCx P w K mg base N qual st f cdv A outer s H E) m C (dl0 N ds) (defBody st) R) : Px P w K mg base C nm (k + 1) n Pr := by
  obtain ⟨p, f, fd, F, h1, h2⟩ := Df.ex
  exact ⟨p, f, fd, ps, fnX F S hn (hb f), h1, h2⟩
end
/-! a call of a def of the top -/
section
variable {X : Cx} {m : Md} {C : Addr} {δ : Dl} {e : Expr} {es : List Expr} {pos p1 apos : Pos} {d : D} {R : D → Prop} {k j n : Nat} {nm : Str} {Pr : List D → (D → Prop) → Prop} {F : List D → D → Prop} {ds : List D}
theorem ec_f (G : Fx X.prog X.w X.K X.mg X.base C nm k n (det F)) (hr : Room j X.A) (ha : EvA X m C δ (e :: es) (fun z => z = ds)) (hp : F ds d) (hk : k ≤ j := by decide) (hn : ds.length = n := by rfl)
    (hg : Gl X nm := by rfl) (hdb : (nm == ("__debug__" : Str)) = false := by decide) (he : starEach (e :: es) X.env = (false, eval e X.env) :: starEach es X.env := by rfl) (hpl : (backTo pos (starEach es X.env)).any (·.1) = false := by rfl) :
    Ev X m C δ (.Call (.Name nm p1) (e :: es) [] pos) d := by
  obtain ⟨f, fd, ps, G, hm, hkp, hb⟩ := G.ex
  exact ev_call G (hr.mono hk) hm hkp hb ha hp hn hg hdb he hpl
theorem ec_fP (G : Fx X.prog X.w X.K X.mg X.base C nm k n Pr) (hr : Room j X.A) (ha : EvA X m C δ (e :: es) (fun z => z = ds)) (hp : Pr ds R) (hk : k ≤ j := by decide) (hn : ds.length = n := by rfl)
    (hg : Gl X nm := by rfl) (hdb : (nm == ("__debug__" : Str)) = false := by decide) (he : starEach (e :: es) X.env = (false, eval e X.env) :: starEach es X.env := by rfl) (hpl : (backTo pos (starEach es X.env)).any (·.1) = false := by rfl) :
    EvP X m C δ (.Call (.Name nm p1) (e :: es) [] pos) R := by
  obtain ⟨f, fd, ps, G, hm, hkp, hb⟩ := G.ex
  exact ev_callP G (hr.mono hk) hm hkp hb ha hn hp hg hdb he hpl
theorem ec_fR {L : List D → Prop} (G : Fx X.prog X.w X.K X.mg X.base C nm k n Pr) (hr : Room j X.A) (ha : EvA X m C δ (e :: es) L) (hp : ∀ ds, L ds → ds.length = n ∧ ∃ R', Pr ds R' ∧ ∀ d, R' d → R d) (hk : k ≤ j := by decide)
    (hg : Gl X nm := by rfl) (hdb : (nm == ("__debug__" : Str)) = false := by decide) (he : starEach (e :: es) X.env = (false, eval e X.env) :: starEach es X.env := by rfl) (hpl : (backTo pos (starEach es X.env)).any (·.1) = false := by rfl) :
    EvP X m C δ (.Call (.Name nm p1) (e :: es) [] pos) R := by
  obtain ⟨f, fd, ps, G, hm, hkp, hb⟩ := G.ex
  exact ev_callR G (hr.mono hk) hm hkp hb ha hp hg hdb he hpl
theorem ev_tupK {xs : List Str} (h : KTup X.K X.mg nm xs) (hg : Gl X nm := by rfl) (hd : (nm == ("__debug__" : Str)) = false := by decide) : Ev X m C δ (.Name nm pos) (.tup (xs.map D.str)) := by
  obtain ⟨p, h1, h2⟩ := h
  refine ev_globR h1 (fun H => ⟨p, _, rfl, h2 H, ?_⟩) hg hd
  clear h2
  induction xs with
  | nil => exact rfl
  | cons x xs ih => exact ⟨_, _, rfl, rfl, ih⟩
theorem ec_inK {a : Expr} {z : Str} {yes : List (Str × Int)} {no : List Str} {b : Bool} (h : KDat X.K X.w X.mg nm yes no) (ha : Ev X m C δ a (.str z)) (hz : (b = true ∧ ∃ i, (z, i) ∈ yes) ∨ (b = false ∧ z ∈ no)) (hg : Gl X nm := by rfl) (hd : (nm == ("__debug__" : Str)) = false := by decide) :
    EvC X m C δ .In a (.Name nm p1) (.bl b) := by
  obtain ⟨p, en, k, h1, h2, h3, h4⟩ := h
  rcases hz with ⟨rfl, i, hi⟩ | ⟨rfl, hz⟩
  · obtain ⟨t, h5⟩ := h3 _ hi
    exact ec_inKD h2 h1 h5 ha hg hd
  · exact ec_inKD h2 h1 (h4 z hz) ha hg hd
theorem ec_niK {a : Expr} {z : Str} {yes : List (Str × Int)} {no : List Str} {b : Bool} (h : KDat X.K X.w X.mg nm yes no) (ha : Ev X m C δ a (.str z)) (hz : (b = false ∧ ∃ i, (z, i) ∈ yes) ∨ (b = true ∧ z ∈ no)) (hg : Gl X nm := by rfl) (hd : (nm == ("__debug__" : Str)) = false := by decide) :
    EvC X m C δ .NotIn a (.Name nm p1) (.bl b) := by
  obtain ⟨p, en, k, h1, h2, h3, h4⟩ := h
  rcases hz with ⟨rfl, i, hi⟩ | ⟨rfl, hz⟩
  · obtain ⟨t, h5⟩ := h3 _ hi
    exact ec_niKD h2 h1 h5 ha hg hd
  · exact ec_niKD h2 h1 (h4 z hz) ha hg hd
theorem ev_ixK {b : Expr} {z : Str} {i : Int} {yes : List (Str × Int)} {no : List Str} (h : KDat X.K X.w X.mg nm yes no) (hb : Ev X m C δ b (.str z)) (hz : (z, i) ∈ yes) (hs : PlainIx b := by exact fun _ _ => rfl) (hg : Gl X nm := by rfl) (hd : (nm == ("__debug__" : Str)) = false := by decide) :
    Ev X m C δ (.Subscript (.Name nm p1) b pos) (.int i) := by
  obtain ⟨p, en, k, h1, h2, h3, h4⟩ := h
  obtain ⟨t, h5⟩ := h3 _ hz
  exact ev_ixKD ⟨en, k, _, h2.at_, h2.lit, h5, ⟨t, rfl⟩⟩ h1 hb hs hg hd
end
end PB
namespace PB
open PySem PySem.Spec PyProof.Rows L2
open PP (Call Spot Word)
/-! ### the text's data as data -/
def cWord : Call → Str
  | .all _ => "all"
  | .up _ _ => "up"
  | .swap _ _ => "swap"
  | .wheel _ _ _ => "wheel"
  | .about => "about"
  | .front _ _ => "front"
def cFiles : Call → List Int
  | .up f _ => [f]
  | .swap f g => [f, g]
  | .wheel f g _ => [f, g]
  | .front f g => [f, g]
  | _ => []
def cK : Call → List Int
  | .all k => [k]
  | .up _ k => [k]
  | .wheel _ _ k => [k]
  | _ => []
def cItems (c : Call) : List D := .str (cWord c) :: ((cFiles c).map D.int ++ (cK c).map D.int)
def cD (c : Call) : D := .tup (cItems c)
def pD (p : Int × Int) : D := .tup [.int p.1, .int p.2]
def sD (s : Spot) : D := .tup [.str (if s.back then "back" else "front"), .int s.row, .int s.file]
def wD : Word → Str
  | .at_ => "at"
  | .beside => "beside"
  | .leads => "leads"
def spotsD (c : PP.Claim) : List D := match c.word with
  | .leads => [sD c.one]
  | _ => [sD c.one, sD c.two]
def clD (c : PP.Claim) : D := .tup (.str (wD c.word) :: .int c.k :: spotsD c)
def scD (fs : Int) (cs : List Call) : D := .scr fs (cs.map cD)

structure Txt (K : PySem.W.Frag) (w : World) (mg : Str → Option Value) (C : Addr) : Prop where
  b : Blt mg
  byNumber : KTup K mg "BY_NUMBER" ["all", "up", "wheel"]
  byFiles : KDat K w mg "BY_FILES" [("all", 0), ("up", 1), ("swap", 2), ("wheel", 2), ("about", 0), ("front", 2)] []
  openCalls : KDat K w mg "OPEN_CALLS" [] ["all", "up", "swap", "wheel", "about", "front"]
  ends : KTup K mg "ENDS" ["front", "back"]
  words : KDat K w mg "WORDS" [("at", 2), ("beside", 2), ("leads", 1)] []
  mostRows : ∃ t, mg "MOST_ROWS" = some (.int 10 t)
  mostTurns : ∃ t, mg "MOST_TURNS" = some (.int 90 t)
  is_integer : DefAt K mg "is_integer" (topS 9) ["thing"]
  is_files : DefAt K mg "is_files" (topS 10) ["thing"]
  is_index : DefAt K mg "is_index" (topS 11) ["thing", "many"]
  is_call : DefAt K mg "is_call" (topS 16) ["files", "thing"]
  is_straight : DefAs K mg "is_straight_calls" "is_straight" (topS 17) ["call"]
  size_of : DefAt K mg "size_of" (topS 19) ["call"]
  turned : DefAt K mg "turned" (topS 20) ["call"]
  on_wheel : DefAt K mg "on_wheel" (topS 21) ["call", "rows", "place"]
  moved_by : DefAt K mg "moved_by" (topS 23) ["call", "files", "rows", "place"]
  is_place : DefAt K mg "is_place" (topS 25) ["files", "rows", "thing"]
  passed : DefAt K mg "passed" (topS 26) ["script", "rows", "place"]
  moved : DefAt K mg "moved" (topS 27) ["script", "rows", "place"]
  is_spot : DefAt K mg "is_spot" (topS 33) ["files", "thing"]
  check_straight : DefAt K mg "check_straight" (topS 34) ["script"]
  is_claim : DefAt K mg "is_claim" (topS 35) ["script", "thing"]
  check_claim : DefAt K mg "check_claim" (topS 36) ["script", "claim"]
  place_at : DefAt K mg "place_at" (topS 37) ["rows", "spot"]
  after : DefAt K mg "after" (topS 38) ["script", "rows", "place", "rounds"]
  is_so : DefAt K mg "is_so" (topS 39) ["script", "rows", "claim"]
  holds : DefAt K mg "holds" (topS 40) ["script", "rows", "claim"]
  settled_at : DefAt K mg "settled_at" (topS 41) ["script", "claim"]
  answer_of : DefAt K mg "answer_of" (topS 42) ["script", "claims"]
  answer : DefAt K mg "answer" (topS 43) ["script", "claim"]
  answer_all : DefAt K mg "answer_all" (topS 44) ["script", "claims"]
  bag : DefAt K mg "_law_bag" (topS 48) ["_law_script"]
  take : DefAt K mg "_law_take" (topS 49) ["_law_bag_here", "_law_upto"]
  one : DefAt K mg "_law_one" (topS 50) ["_law_bag_here", "_law_some"]
  mixed : DefAt K mg "_law_mixed" (topS 51) ["_law_bag_here", "_law_things"]
  alike : DefAt K mg "_law_alike" (topS 52) ["_law_found", "_law_due"]
  call : DefAt K mg "_law_call" (topS 53) ["_law_bag_here", "_law_files", "_law_kinds", "_law_most"]
  size : DefAt K mg "_law_size" (topS 54) ["_law_calls_here"]
  calls : DefAt K mg "_law_calls" (topS 55) ["_law_bag_here", "_law_files", "_law_many", "_law_is_open"]
  spot : DefAt K mg "_law_spot" (topS 56) ["_law_bag_here", "_law_files"]
  claim : DefAt K mg "_law_claim" (topS 57) ["_law_bag_here", "_law_files", "_law_calls_here"]
  towards : DefAt K mg "_law_towards" (topS 58) ["_law_bag_here", "_law_files", "_law_most"]
  in_ : DefAt K mg "_law_in" (topS 59) ["_law_told", "_law_rows"]
  lines_right : DefAt K mg "_law_lines_right" (topS 60) ["_law_bag_here", "_law_rule", "_law_some", "_law_told", "_law_single"]
  again_right : DefAt K mg "_law_again_right" (topS 61) ["_law_rule", "_law_given", "_law_told", "_law_many"]
  bare_right : DefAt K mg "_law_bare_right" (topS 62) ["_law_bag_here", "_law_bare"]
  form_right : DefAt K mg "_law_form_right" (topS 63) ["_law_told"]
  cl : Cls K C
  nW : NoAttr K C "width"
  nS : NoAttr K C "steps"
  mgC : mg "Script" = some (.ref C)
  make : ∃ f fd, Fun K "__init__" "Script.__init__" (inClass (topS 46) 0) f fd ∧ Mk K C f ∧ Binds K fd ["self", "files", "calls"] []
  len_ : ∃ f fd, Fun K "__len__" "Script.__len__" (inClass (topS 46) 2) f fd ∧ PySem.W.findIn K (.ref C) "__len__" = some (some (.ref f)) ∧ PySem.W.isFn K (.ref f) = true ∧ Binds K fd ["self"] []
  iter_ : ∃ f fd, Fun K "__iter__" "Script.__iter__" (inClass (topS 46) 3) f fd ∧ PySem.W.findIn K (.ref C) "__iter__" = some (some (.ref f)) ∧ PySem.W.isFn K (.ref f) = true ∧ Binds K fd ["self"] []
  files : PropAt K C "files" "Script.files" (inClass (topS 46) 4) ["self"]
  sizeP : PropAt K C "size" "Script.size" (inClass (topS 46) 5) ["self"]
  straight : MethAt K C "is_straight" "Script.is_straight" (inClass (topS 46) 8) ["self"]
  inv_ : ∃ f fd, Fun K "__invert__" "Script.__invert__" (inClass (topS 46) 10) f fd ∧ PySem.W.findIn K (.ref C) "__invert__" = some (some (.ref f)) ∧ PySem.W.isFn K (.ref f) = true ∧ Binds K fd ["self"] []
end PB

/-! the defs of kinds and calls -/
namespace PB
open PySem PySem.Spec PyProof.Rows L2
open PP (Call Spot Word)
section
variable {P : Program} {w : World} {K : PySem.W.Frag} {mg : Str → Option Value} {base : Heap} {C : Addr}

/-! ### is_integer, is_files, is_index -/
def F_is_integer : List D → D → Prop := fun ds d => ∃ i : Int, ds = [.int i] ∧ d = .bl true
theorem sc_is_integer : FnScope ["thing"] ["thing"] (defScope (topS 9)) := ⟨rfl, rfl, rfl, by decide +kernel, rfl, by decide +kernel, by decide +kernel⟩
theorem fx_is_integer (T : Txt K w mg C) : Fx P w K mg base C "is_integer" 1 1 (det F_is_integer) :=
  fx_mk (k := 0) T.is_integer sc_is_integer rfl fun f cdv A outer s H E hr m ds R hn ⟨d, ⟨i, hd, e⟩, hR⟩ => by
    subst hR e hd
    exact rt_ret (ev_and (ev_isi T.b.isi T.b.int (T := "int") (by decide +kernel) (ev_name 0) rfl (t := true) (by decide +kernel)) fun _ => ev_one (ev_not (ev_isi T.b.isi T.b.bool (T := "bool") (by decide +kernel) (ev_name 0) rfl (t := false) (by decide +kernel))))

def F_is_files : List D → D → Prop := fun ds d => ∃ i : Int, ds = [.int i] ∧ (i = 2 ∨ i = 3) ∧ d = .bl true
theorem sc_is_files : FnScope ["thing"] ["thing"] (defScope (topS 10)) := ⟨rfl, rfl, rfl, by decide +kernel, rfl, by decide +kernel, by decide +kernel⟩
theorem fx_is_files (T : Txt K w mg C) : Fx P w K mg base C "is_files" 2 1 (det F_is_files) :=
  fx_mk (k := 1) T.is_files sc_is_files rfl fun f cdv A outer s H E hr m ds R hn ⟨d, ⟨i, hd, hi, e⟩, hR⟩ => by
    subst hR e hd
    refine rt_ret (Ev.is (ev_and (ec_f (fx_is_integer T) hr (ea_cons (ev_name 0) ea_nil) ⟨i, rfl, rfl⟩) fun _ => ev_one (ev_cmp (ec_inT (ev_name 0) (ev_tup (ea_cons ev_int (ea_cons ev_int ea_nil)))))) ?_)
    rcases hi with e | e <;> subst e <;> rfl

def F_is_index : List D → D → Prop := fun ds d => ∃ i n : Int, ds = [.int i, .int n] ∧ 0 ≤ i ∧ i < n ∧ d = .bl true
theorem sc_is_index : FnScope ["thing", "many"] ["thing", "many"] (defScope (topS 11)) := ⟨rfl, rfl, rfl, by decide +kernel, rfl, by decide +kernel, by decide +kernel⟩
theorem fx_is_index (T : Txt K w mg C) : Fx P w K mg base C "is_index" 2 2 (det F_is_index) :=
  fx_mk (k := 1) T.is_index sc_is_index rfl fun f cdv A outer s H E hr m ds R hn ⟨d, ⟨i, n, hd, h1, h2, e⟩, hR⟩ => by
    subst hR e hd
    refine rt_ret (Ev.is (ev_and (ec_f (fx_is_integer T) hr (ea_cons (ev_name 0) ea_nil) ⟨i, rfl, rfl⟩) fun _ => ev_one (ev_chain op_le op_lt ev_int (ev_name 0) (ev_name 1))) ?_)
    rw [decide_eq_true h1, decide_eq_true h2]
    rfl

/-! ### is_call -/
def F_is_call : List D → D → Prop := fun ds d => ∃ (fs : Int) (c : Call), ds = [.int fs, cD c] ∧ c.ok fs ∧ d = .bl true
theorem sc_is_call : FnScope ["files", "thing", "many", "numbers", "file"] ["files", "thing"] (defScope (topS 16)) := ⟨rfl, rfl, rfl, by decide +kernel, rfl, by decide +kernel, by decide +kernel⟩
theorem item0 (c : Call) : atI (cItems c) 0 = some (.str (cWord c)) := by cases c <;> rfl
theorem cut_files (c : Call) : cutD (cItems c) (some 1) (some (1 + ((cFiles c).length : Int))) = (cFiles c).map D.int := by cases c <;> rfl
def numW (c : Call) : Bool := inV (.str (cWord c)) [.str "all", .str "up", .str "wheel"]
theorem len_items (c : Call) : ((cItems c).length : Int) = 1 + ((cFiles c).length : Int) + (if numW c then 1 else 0) := by cases c <;> rfl
theorem many_in (c : Call) : (cWord c, ((cFiles c).length : Int)) ∈ ([("all", 0), ("up", 1), ("swap", 2), ("wheel", 2), ("about", 0), ("front", 2)] : List (Str × Int)) := by
  cases c
  · exact .head _
  · exact .tail _ (.head _)
  · exact .tail _ (.tail _ (.head _))
  · exact .tail _ (.tail _ (.tail _ (.head _)))
  · exact .tail _ (.tail _ (.tail _ (.tail _ (.head _))))
  · exact .tail _ (.tail _ (.tail _ (.tail _ (.tail _ (.head _)))))
theorem two_files {fs : Int} {c : Call} (h : c.ok fs) : ((cFiles c).length : Int) ≠ 2 ∨ ∃ f g, f ≠ g ∧ cFiles c = [f, g] ∧ atI (cItems c) 1 = some (.int f) ∧ atI (cItems c) 2 = some (.int g) := by
  cases c with
  | all k => exact .inl (by show ((0 : Nat) : Int) ≠ 2; decide)
  | up f k => exact .inl (by show ((1 : Nat) : Int) ≠ 2; decide)
  | swap f g => exact .inr ⟨f, g, h.2.2.2.2, rfl, rfl, rfl⟩
  | wheel f g k => exact .inr ⟨f, g, h.2.2.2.2.1, rfl, rfl, rfl⟩
  | about => exact .inl (by decide)
  | front f g => exact .inr ⟨f, g, h.2.2.2.2, rfl, rfl, rfl⟩
theorem num_last {fs : Int} {c : Call} (h : c.ok fs) : (numW c = true ∧ ∃ k, k ≠ 0 ∧ c.size = (k.natAbs : Int) ∧ cK c = [k] ∧ atI (cItems c) (-1) = some (.int k)) ∨ (numW c = false ∧ c.size = 1 ∧ cK c = []) := by
  cases c with
  | all k => exact .inl ⟨rfl, k, h, rfl, rfl, rfl⟩
  | up f k => exact .inl ⟨rfl, k, h.2.2, rfl, rfl, rfl⟩
  | wheel f g k => exact .inl ⟨rfl, k, h.2.2.2.2.2, rfl, rfl, rfl⟩
  | swap f g => exact .inr ⟨rfl, rfl, rfl⟩
  | about => exact .inr ⟨rfl, rfl, rfl⟩
  | front f g => exact .inr ⟨rfl, rfl, rfl⟩
theorem cFiles_len (c : Call) : (cFiles c).length ≤ 2 := by cases c <;> simp [cFiles]
theorem files_ok {fs : Int} {c : Call} (h : c.ok fs) : ∀ f ∈ cFiles c, 0 ≤ f ∧ f < fs := by
  intro f hf
  cases c <;> simp only [cFiles, List.mem_cons, List.not_mem_nil, or_false] at hf <;> simp only [Call.ok] at h <;> omega
theorem fx_is_call (T : Txt K w mg C) : Fx P w K mg base C "is_call" 3 2 (det F_is_call) :=
  fx_mk (k := 2) T.is_call sc_is_call rfl fun f cdv A outer s H E hr m ds R hn ⟨d, ⟨fs, c, hd, hok, e⟩, hR⟩ => by
    subst hR e hd
    refine rt_ifF (et_ww (ew_orF (et_not (et_val (ev_isi T.b.isi T.b.tuple (T := "tuple") (by decide +kernel) (ev_name 1) rfl (t := true) (by decide +kernel))))
      (ew_orF ((et_cmp (ec_eq (ev_lenT T.b.len (ev_name 1)) ev_int)).is (by cases c <;> rfl))
      (ew_orF (et_not (et_val (ev_isi T.b.isi T.b.str (T := "str") (by decide +kernel) (ev_ixT (ev_name 1) ev_int (item0 c)) rfl (t := true) (by decide +kernel))))
      (ew_or1 (et_cmp (ec_niK T.byFiles (ev_ixT (ev_name 1) ev_int (item0 c)) (.inl ⟨rfl, _, many_in c⟩)))))))) ?_
    refine rt_cons (nx_par 2 3 (ea_cons (ev_ixK T.byFiles (ev_ixT (ev_name 1) ev_int (item0 c)) (many_in c)) (ea_cons (ev_intB T.b.int (ev_cmp (ec_inT (ev_ixT (ev_name 1) ev_int (item0 c)) (ev_tupK T.byNumber)))) ea_nil)) rfl sc_is_call.nd) ?_
    refine rt_ifF (et_ww (ew_orF ((et_cmp (ec_ne (ev_lenT T.b.len (ev_name 1)) (ev_add (ev_add ev_int (ev_name 2)) (ev_name 3)))).is ?_)
      (ew_or1 ((et_not (et_val (ev_all rfl T.b.all (ev_lcB (j := 4) (fun _ => true) (ei_tup (ev_slT (ev_name 1) (eo_some ev_int) (eo_some (ev_add ev_int (ev_name 2))) (cut_files c))) ?_ rfl sc_is_call.nd
        (blkOk_by (own := [("file", 4)]) (N := ["files", "thing", "many", "numbers", "file"]) (sc := defScope (topS 16)) (by decide +kernel)) (fun _ _ _ _ _ => pg_name (i := 4) sc_is_call.nd rfl (Or.inl rfl)) ?_)))).is ?_)))) ?_
    · rw [len_items c]
      show (!decide (V.int (1 + ((cFiles c).length : Int) + (if numW c then 1 else 0)) = V.int (1 + ((cFiles c).length : Int) + (if numW c then 1 else 0)))) = false
      simp
    · have := cFiles_len c
      rw [List.length_map]
      omega
    · intro d hd p s' H0 Cc cl fp
      obtain ⟨g, hg, rfl⟩ := List.mem_map.mp hd
      have := files_ok hok g hg
      exact ec_f (fx_is_index T) hr (ea_cons (ev_name 4) (ea_cons (ev_name 0) ea_nil)) ⟨g, fs, rfl, this.1, this.2, rfl⟩
    · simp
    refine rt_ifF (et_ww (t := false) ?_) ?_
    · rcases two_files hok with h | ⟨f, g, hne, h1, h2, h3⟩
      · exact ew_andF ((et_cmp (ec_eq (ev_name 2) ev_int)).is (by rw [decide_eq_false_iff_not]; exact fun z => h (V.int.inj z)))
      · exact ew_andT ((et_cmp (ec_eq (ev_name 2) ev_int)).is (by rw [h1]; rfl)) (ew_and1 ((et_cmp (ec_eq (ev_ixT (ev_name 1) ev_int h2) (ev_ixT (ev_name 1) ev_int h3))).is (by rw [decide_eq_false_iff_not]; exact fun z => hne (V.int.inj z))))
    · rcases num_last hok with ⟨h1, k, h2, _, _, h3⟩ | ⟨h1, _⟩
      · exact rt_ret (Ev.is (ev_or (ev_cmp (ec_eq (ev_name 3) ev_int)) fun _ => ev_one (ev_and (ec_f (fx_is_integer T) hr (ea_cons (ev_ixT (ev_name 1) (ev_neg ev_int) h3) ea_nil) ⟨k, rfl, rfl⟩) fun _ => ev_one (ev_cmp (ec_ne (ev_ixT (ev_name 1) (ev_neg ev_int) h3) ev_int)))) (by
          have e : decide (V.int k = V.int 0) = false := by rw [decide_eq_false_iff_not]; exact fun z => h2 (V.int.inj z)
          rw [e]
          simp))
      · refine rt_ret (Ev.is (ev_or (u := true) (ev_cmp (ec_eq (ev_name 3) ev_int)) fun z => ?_) ?_)
        · exfalso
          have e : (decide (V.int (if numW c then 1 else 0) = V.int 0)) = false := z
          rw [h1] at e
          exact absurd e (by decide)
        · simp

/-! ### is_straight, size_of, turned -/
def F_is_straight : List D → D → Prop := fun ds d => ∃ c : Call, ds = [cD c] ∧ d = .bl true
theorem sc_is_straight : FnScope ["call"] ["call"] (defScope (topS 17)) := ⟨rfl, rfl, rfl, by decide +kernel, rfl, by decide +kernel, by decide +kernel⟩
theorem no_open (c : Call) : cWord c ∈ (["all", "up", "swap", "wheel", "about", "front"] : List Str) := by
  cases c
  · exact .head _
  · exact .tail _ (.head _)
  · exact .tail _ (.tail _ (.head _))
  · exact .tail _ (.tail _ (.tail _ (.head _)))
  · exact .tail _ (.tail _ (.tail _ (.tail _ (.head _))))
  · exact .tail _ (.tail _ (.tail _ (.tail _ (.tail _ (.head _)))))
theorem fx_is_straight (T : Txt K w mg C) : Fx P w K mg base C "is_straight_calls" 1 1 (det F_is_straight) :=
  fx_mk (k := 0) T.is_straight sc_is_straight rfl fun f cdv A outer s H E hr m ds R hn ⟨d, ⟨c, hd, e⟩, hR⟩ => by
    subst hR e hd
    exact rt_ret (ev_cmp (ec_niK T.openCalls (ev_ixT (ev_name 0) ev_int (item0 c)) (.inr ⟨rfl, no_open c⟩)))

def F_size_of : List D → D → Prop := fun ds d => ∃ (fs : Int) (c : Call), ds = [cD c] ∧ c.ok fs ∧ d = .int c.size
theorem sc_size_of : FnScope ["call"] ["call"] (defScope (topS 19)) := ⟨rfl, rfl, rfl, by decide +kernel, rfl, by decide +kernel, by decide +kernel⟩
theorem fx_size_of (T : Txt K w mg C) : Fx P w K mg base C "size_of" 1 1 (det F_size_of) :=
  fx_mk (k := 0) T.size_of sc_size_of rfl fun f cdv A outer s H E hr m ds R hn ⟨d, ⟨fs, c, hd, hok, e⟩, hR⟩ => by
    subst hR e hd
    have hin : ∀ b, numW c = b → inV (.str (cWord c)) [.str "all", .str "up", .str "wheel"] = b := fun b h => h
    rcases num_last hok with ⟨h1, k, h2, h4, _, h3⟩ | ⟨h1, h4, _⟩
    · rw [h4]
      exact rt_ret (ev_ifT ((et_cmp (ec_inT (ev_ixT (ev_name 0) ev_int (item0 c)) (ev_tupK T.byNumber))).is (hin true h1)) (ev_abs T.b.abs (ev_ixT (ev_name 0) (ev_neg ev_int) h3)))
    · rw [h4]
      exact rt_ret (ev_ifF ((et_cmp (ec_inT (ev_ixT (ev_name 0) ev_int (item0 c)) (ev_tupK T.byNumber))).is (hin false h1)) ev_int)

def F_turned : List D → D → Prop := fun ds d => ∃ (fs : Int) (c : Call), ds = [cD c] ∧ c.ok fs ∧ d = cD c.turned
theorem sc_turned : FnScope ["call"] ["call"] (defScope (topS 20)) := ⟨rfl, rfl, rfl, by decide +kernel, rfl, by decide +kernel, by decide +kernel⟩
theorem turned_num {fs : Int} {c : Call} (h : c.ok fs) : (numW c = true ∧ ∃ (k : Int) (init : List D), atI (cItems c) (-1) = some (.int k) ∧ cutD (cItems c) none (some (-1)) = init ∧ init.length ≤ 5 ∧ cItems c.turned = init ++ [.int (-k)]) ∨ (numW c = false ∧ c.turned = c) := by
  cases c with
  | all k => exact .inl ⟨rfl, k, [.str "all"], rfl, rfl, by decide, rfl⟩
  | up f k => exact .inl ⟨rfl, k, [.str "up", .int f], rfl, rfl, by simp, rfl⟩
  | wheel f g k => exact .inl ⟨rfl, k, [.str "wheel", .int f, .int g], rfl, rfl, by simp, rfl⟩
  | swap f g => exact .inr ⟨rfl, rfl⟩
  | about => exact .inr ⟨rfl, rfl⟩
  | front f g => exact .inr ⟨rfl, rfl⟩
theorem fx_turned (T : Txt K w mg C) : Fx P w K mg base C "turned" 1 1 (det F_turned) :=
  fx_mk (k := 0) T.turned sc_turned rfl fun f cdv A outer s H E hr m ds R hn ⟨d, ⟨fs, c, hd, hok, e⟩, hR⟩ => by
    subst hR e hd
    have hin : ∀ b, numW c = b → inV (.str (cWord c)) [.str "all", .str "up", .str "wheel"] = b := fun b h => h
    rcases turned_num hok with ⟨h1, k, init, h2, h3, hl, h4⟩ | ⟨h1, h4⟩
    · refine rt_ifT ((et_cmp (ec_inT (ev_ixT (ev_name 0) ev_int (item0 c)) (ev_tupK T.byNumber))).is (hin true h1)) (rt_ret (Ev.is (ev_cat (ev_slT (ev_name 0) eo_none (eo_some (ev_neg ev_int)) h3) (ev_tup (ea_cons (ev_neg (ev_ixT (ev_name 0) (ev_neg ev_int) h2)) ea_nil)) ?_) ?_))
      · rw [List.length_singleton]; omega
      · unfold cD
        rw [h4]
    · rw [h4]
      exact rt_ifF ((et_cmp (ec_inT (ev_ixT (ev_name 0) ev_int (item0 c)) (ev_tupK T.byNumber))).is (hin false h1)) (rt_ret (ev_ifF (et_cmp (ec_inK T.openCalls (ev_ixT (ev_name 0) ev_int (item0 c)) (.inr ⟨rfl, no_open c⟩))) (ev_name 0)))
end
end PB

/-! moved_by, is_place -/
namespace PB
open PySem PySem.Spec PyProof.Rows L2
open PP (Call Spot Word)
section
variable {P : Program} {w : World} {K : PySem.W.Frag} {mg : Str → Option Value} {base : Heap} {C : Addr}

theorem dec_int_ne {i j : Int} (h : i ≠ j) : decide (V.int i = V.int j) = false := by
  rw [decide_eq_false_iff_not]
  exact fun z => h (V.int.inj z)
theorem in2 {f a b : Int} : inV (.int f) [.int a, .int b] = (decide (f = a) || decide (f = b)) := by
  show ((decide (a = f) || (decide (b = f) || false)) : Bool) = _
  rw [Bool.or_false]
  congr 1 <;> exact decide_eq_decide.mpr eq_comm
def F_on_wheel : List D → D → Prop := fun ds d => ∃ (fs a b k rows r f : Int), ds = [cD (.wheel a b k), .int rows, pD (r, f)] ∧ 0 < rows ∧ d = pD (PP.wheelMv a b k rows r f)
theorem sc_on_wheel : FnScope ["call", "rows", "place", "row", "file", "seat"] ["call", "rows", "place"] (defScope (topS 21)) := ⟨rfl, rfl, rfl, by decide +kernel, rfl, by decide +kernel, by decide +kernel⟩
theorem fx_on_wheel (T : Txt K w mg C) : Fx P w K mg base C "on_wheel" 1 3 (det F_on_wheel) :=
  fx_mk (k := 0) T.on_wheel sc_on_wheel rfl fun fa cdv A outer s H E hr m ds R hn ⟨d, ⟨fs, a, b, k, rows, r, f, hd, hrows, e⟩, hR⟩ => by
    subst hR e hd
    refine rt_cons (nx_un2 3 4 (ev_name 2) rfl sc_on_wheel.nd) ?_
    by_cases hin : f ≠ a ∧ f ≠ b
    · refine rt_ifT ((et_cmp (ec_niT (ev_name 4) (ev_slT (ev_name 0) (eo_some ev_int) (eo_some ev_int)))).is ?_) (rt_ret (Ev.is (ev_name 2) ?_))
      · show (!inV (.int f) [.int a, .int b]) = true
        rw [in2]
        simp [hin.1, hin.2]
      · unfold PP.wheelMv
        rw [if_pos hin]
    · refine rt_ifF ((et_cmp (ec_niT (ev_name 4) (ev_slT (ev_name 0) (eo_some ev_int) (eo_some ev_int)))).is ?_) ?_
      · show (!inV (.int f) [.int a, .int b]) = false
        rw [in2]
        by_cases h : f = a
        · simp [h]
        · have : f = b := Decidable.byContradiction fun z => hin ⟨h, z⟩
          simp [this]
      · refine rt_cons (nx_set 5 (d := .int (if f = a then rows - 1 - r else rows + r)) ?_ sc_on_wheel.nd) ?_
        · by_cases h : f = a
          · rw [if_pos h]
            exact ev_ifT ((et_cmp (ec_eq (ev_name 4) (ev_ixT (ev_name 0) ev_int))).is (by rw [h]; simp)) (ev_sub (ev_sub (ev_name 1) ev_int) (ev_name 3))
          · rw [if_neg h]
            exact ev_ifF ((et_cmp (ec_eq (ev_name 4) (ev_ixT (ev_name 0) ev_int))).is (dec_int_ne h)) (ev_add (ev_name 1) (ev_name 3))
        · refine rt_cons (nx_set 5 (ev_mod (ev_add (ev_name 5) (ev_ixT (ev_name 0) ev_int)) (ev_mul ev_int (ev_name 1) (.inl ⟨by decide, by decide⟩)) (by omega)) sc_on_wheel.nd) ?_
          unfold PP.wheelMv
          rw [if_neg hin]
          by_cases hs : ((if f = a then rows - 1 - r else rows + r) + k) % (2 * rows) < rows
          · simp only
            rw [if_pos hs]
            exact rt_ret (ev_ifT ((et_cmp (ec_lt (ev_name 5) (ev_name 1))).is (decide_eq_true hs)) (ev_tup (ea_cons (ev_sub (ev_sub (ev_name 1) ev_int) (ev_name 5)) (ea_cons (ev_ixT (ev_name 0) ev_int) ea_nil))))
          · simp only
            rw [if_neg hs]
            exact rt_ret (ev_ifF ((et_cmp (ec_lt (ev_name 5) (ev_name 1))).is (decide_eq_false hs)) (ev_tup (ea_cons (ev_sub (ev_name 5) (ev_name 1)) (ea_cons (ev_ixT (ev_name 0) ev_int) ea_nil))))

def F_moved_by : List D → D → Prop := fun ds d => ∃ (fs rows : Int) (c : Call) (p : Int × Int), ds = [cD c, .int fs, .int rows, pD p] ∧ c.ok fs ∧ PP.isPl fs rows p ∧ d = pD (PP.mv fs rows c p)
theorem sc_moved_by : FnScope ["call", "files", "rows", "place", "row", "file"] ["call", "files", "rows", "place"] (defScope (topS 23)) := ⟨rfl, rfl, rfl, by decide +kernel, rfl, by decide +kernel, by decide +kernel⟩
theorem fx_moved_by (T : Txt K w mg C) : Fx P w K mg base C "moved_by" 2 4 (det F_moved_by) :=
  fx_mk (k := 1) T.moved_by sc_moved_by rfl fun fa cdv A outer s H E hr m ds R hn ⟨d, ⟨fs, rows, c, ⟨r, f⟩, hd, hok, hpl, e⟩, hR⟩ => by
    subst hR e hd
    obtain ⟨h1, h2, h3, h4⟩ := hpl
    simp only at h1 h2 h3 h4
    refine rt_cons (nx_un2 4 5 (ev_name 3) rfl sc_moved_by.nd) ?_
    cases c with
    | all k =>
      refine rt_ifT (et_cmp (ec_eq (ev_ixT (ev_name 0) ev_int) ev_str)) (rt_ret (Ev.is (ev_tup (ea_cons (ev_mod (ev_sub (ev_name 4) (ev_ixT (ev_name 0) ev_int)) (ev_name 2) ?_) (ea_cons (ev_name 5) ea_nil))) ?_))
      · omega
      · rfl
    | up g k =>
      refine rt_ifF (et_cmp (ec_eq (ev_ixT (ev_name 0) ev_int) ev_str)) (rt_ifT (et_cmp (ec_eq (ev_ixT (ev_name 0) ev_int) ev_str)) (rt_ret ?_))
      by_cases h : f = g
      · refine Ev.is (ev_ifT ((et_cmp (ec_eq (ev_name 5) (ev_ixT (ev_name 0) ev_int))).is (by rw [h]; simp)) (ev_tup (ea_cons (ev_mod (ev_sub (ev_name 4) (ev_ixT (ev_name 0) ev_int)) (ev_name 2) (by omega)) (ea_cons (ev_name 5) ea_nil)))) ?_
        show _ = pD (if f = g then ((r - k) % rows, f) else (r, f))
        rw [if_pos h]
        rfl
      · refine Ev.is (ev_ifF ((et_cmp (ec_eq (ev_name 5) (ev_ixT (ev_name 0) ev_int))).is (dec_int_ne h)) (ev_name 3)) ?_
        show _ = pD (if f = g then ((r - k) % rows, f) else (r, f))
        rw [if_neg h]
    | about => refine rt_ifF (et_cmp (ec_eq (ev_ixT (ev_name 0) ev_int) ev_str)) (rt_ifF (et_cmp (ec_eq (ev_ixT (ev_name 0) ev_int) ev_str)) (rt_ifT (et_cmp (ec_eq (ev_ixT (ev_name 0) ev_int) ev_str))
        (rt_ret (Ev.is (ev_tup (ea_cons (ev_sub (ev_sub (ev_name 2) ev_int) (ev_name 4)) (ea_cons (ev_sub (ev_sub (ev_name 1) ev_int) (ev_name 5)) ea_nil))) rfl))))
    | wheel a b k => refine rt_ifF (et_cmp (ec_eq (ev_ixT (ev_name 0) ev_int) ev_str)) (rt_ifF (et_cmp (ec_eq (ev_ixT (ev_name 0) ev_int) ev_str)) (rt_ifF (et_cmp (ec_eq (ev_ixT (ev_name 0) ev_int) ev_str)) (rt_ifT (et_cmp (ec_eq (ev_ixT (ev_name 0) ev_int) ev_str))
        (rt_ret (Ev.is (ec_f (fx_on_wheel T) hr (ea_cons (ev_name 0) (ea_cons (ev_name 2) (ea_cons (ev_name 3) ea_nil))) ⟨fs, a, b, k, rows, r, f, rfl, by omega, rfl⟩) rfl)))))
    | swap a b =>
      refine rt_ifF (et_cmp (ec_eq (ev_ixT (ev_name 0) ev_int) ev_str)) (rt_ifF (et_cmp (ec_eq (ev_ixT (ev_name 0) ev_int) ev_str)) (rt_ifF (et_cmp (ec_eq (ev_ixT (ev_name 0) ev_int) ev_str)) (rt_ifF (et_cmp (ec_eq (ev_ixT (ev_name 0) ev_int) ev_str))
        (rt_ifT (et_cmp (ec_inT (ev_ixT (ev_name 0) ev_int) (ev_tup (ea_cons ev_str (ea_cons ev_str ea_nil))))) ?_))))
      by_cases hin : f ≠ a ∧ f ≠ b
      · refine rt_ifT (et_ww (ew_orT ((et_cmp (ec_niT (ev_name 5) (ev_slT (ev_name 0) (eo_some ev_int) eo_none))).is ?_))) (rt_ret (Ev.is (ev_name 3) ?_))
        · show (!inV (.int f) [.int a, .int b]) = true
          rw [in2]
          simp [hin.1, hin.2]
        · show _ = pD (if f ≠ a ∧ f ≠ b then (r, f) else (r, if f = a then b else a))
          rw [if_pos hin]
      · refine rt_ifF (et_ww (ew_orF ((et_cmp (ec_niT (ev_name 5) (ev_slT (ev_name 0) (eo_some ev_int) eo_none))).is ?_) (ew_or1 (et_ww (ew_andF (et_cmp (ec_eq (ev_ixT (ev_name 0) ev_int) ev_str))))))) (rt_ret ?_)
        · show (!inV (.int f) [.int a, .int b]) = false
          rw [in2]
          by_cases h : f = a
          · simp [h]
          · have : f = b := Decidable.byContradiction fun z => hin ⟨h, z⟩
            simp [this]
        · have eg : pD (PP.mv fs rows (.swap a b) (r, f)) = .tup [.int r, .int (if f = a then b else a)] := by
            show pD (if f ≠ a ∧ f ≠ b then (r, f) else (r, if f = a then b else a)) = _
            rw [if_neg hin]
            rfl
          rw [eg]
          refine ev_tup (ea_cons (ev_name 4) (ea_cons ?_ ea_nil))
          by_cases h : f = a
          · rw [if_pos h]
            exact ev_ifT ((et_cmp (ec_eq (ev_name 5) (ev_ixT (ev_name 0) ev_int))).is (by rw [h]; simp)) (ev_ixT (ev_name 0) ev_int)
          · rw [if_neg h]
            exact ev_ifF ((et_cmp (ec_eq (ev_name 5) (ev_ixT (ev_name 0) ev_int))).is (dec_int_ne h)) (ev_ixT (ev_name 0) ev_int)
    | front a b =>
      refine rt_ifF (et_cmp (ec_eq (ev_ixT (ev_name 0) ev_int) ev_str)) (rt_ifF (et_cmp (ec_eq (ev_ixT (ev_name 0) ev_int) ev_str)) (rt_ifF (et_cmp (ec_eq (ev_ixT (ev_name 0) ev_int) ev_str)) (rt_ifF (et_cmp (ec_eq (ev_ixT (ev_name 0) ev_int) ev_str))
        (rt_ifT (et_cmp (ec_inT (ev_ixT (ev_name 0) ev_int) (ev_tup (ea_cons ev_str (ea_cons ev_str ea_nil))))) ?_))))
      by_cases hin : f ≠ a ∧ f ≠ b
      · refine rt_ifT (et_ww (ew_orT ((et_cmp (ec_niT (ev_name 5) (ev_slT (ev_name 0) (eo_some ev_int) eo_none))).is ?_))) (rt_ret (Ev.is (ev_name 3) ?_))
        · show (!inV (.int f) [.int a, .int b]) = true
          rw [in2]
          simp [hin.1, hin.2]
        · show _ = pD (if (f ≠ a ∧ f ≠ b) ∨ r > 0 then (r, f) else (r, if f = a then b else a))
          rw [if_pos (.inl hin)]
      · have hi : (!inV (.int f) [.int a, .int b]) = false := by
          rw [in2]
          by_cases h : f = a
          · simp [h]
          · have : f = b := Decidable.byContradiction fun z => hin ⟨h, z⟩
            simp [this]
        by_cases hr0 : r > 0
        · refine rt_ifT (et_ww (ew_orF ((et_cmp (ec_niT (ev_name 5) (ev_slT (ev_name 0) (eo_some ev_int) eo_none))).is hi) (ew_or1 (et_ww (ew_andT (et_cmp (ec_eq (ev_ixT (ev_name 0) ev_int) ev_str)) (ew_and1 ((et_cmp (ec_gt (ev_name 4) ev_int)).is (decide_eq_true hr0)))))))) (rt_ret (Ev.is (ev_name 3) ?_))
          show _ = pD (if (f ≠ a ∧ f ≠ b) ∨ r > 0 then (r, f) else (r, if f = a then b else a))
          rw [if_pos (.inr hr0)]
        · refine rt_ifF (et_ww (ew_orF ((et_cmp (ec_niT (ev_name 5) (ev_slT (ev_name 0) (eo_some ev_int) eo_none))).is hi) (ew_or1 (et_ww (ew_andT (et_cmp (ec_eq (ev_ixT (ev_name 0) ev_int) ev_str)) (ew_and1 ((et_cmp (ec_gt (ev_name 4) ev_int)).is (decide_eq_false hr0)))))))) (rt_ret ?_)
          have eg : pD (PP.mv fs rows (.front a b) (r, f)) = .tup [.int r, .int (if f = a then b else a)] := by
            show pD (if (f ≠ a ∧ f ≠ b) ∨ r > 0 then (r, f) else (r, if f = a then b else a)) = _
            rw [if_neg (fun z => z.elim hin hr0)]
            rfl
          rw [eg]
          refine ev_tup (ea_cons (ev_name 4) (ea_cons ?_ ea_nil))
          by_cases h : f = a
          · rw [if_pos h]
            exact ev_ifT ((et_cmp (ec_eq (ev_name 5) (ev_ixT (ev_name 0) ev_int))).is (by rw [h]; simp)) (ev_ixT (ev_name 0) ev_int)
          · rw [if_neg h]
            exact ev_ifF ((et_cmp (ec_eq (ev_name 5) (ev_ixT (ev_name 0) ev_int))).is (dec_int_ne h)) (ev_ixT (ev_name 0) ev_int)

def F_is_place : List D → D → Prop := fun ds d => ∃ (fs rows : Int) (p : Int × Int), ds = [.int fs, .int rows, pD p] ∧ PP.isPl fs rows p ∧ d = .bl true
theorem sc_is_place : FnScope ["files", "rows", "thing"] ["files", "rows", "thing"] (defScope (topS 25)) := ⟨rfl, rfl, rfl, by decide +kernel, rfl, by decide +kernel, by decide +kernel⟩
theorem fx_is_place (T : Txt K w mg C) : Fx P w K mg base C "is_place" 3 3 (det F_is_place) :=
  fx_mk (k := 2) T.is_place sc_is_place rfl fun fa cdv A outer s H E hr m ds R hn ⟨d, ⟨fs, rows, ⟨r, f⟩, hd, ⟨h1, h2, h3, h4⟩, e⟩, hR⟩ => by
    subst hR e hd
    exact rt_ifF (et_ww (ew_orF (et_not (et_val (ev_isi T.b.isi T.b.tuple (T := "tuple") (by decide +kernel) (ev_name 2) rfl (t := true) (by decide +kernel)))) (ew_or1 (et_cmp (ec_ne (ev_lenT T.b.len (ev_name 2)) ev_int)))))
      (rt_ret (ev_and (ec_f (fx_is_index T) hr (ea_cons (ev_ixT (ev_name 2) ev_int) (ea_cons (ev_name 1) ea_nil)) ⟨r, rows, rfl, h1, h2, rfl⟩) fun _ => ev_one (ec_f (fx_is_index T) hr (ea_cons (ev_ixT (ev_name 2) ev_int) (ea_cons (ev_name 0) ea_nil)) ⟨f, fs, rfl, h3, h4, rfl⟩)))
end
end PB

/-! defs whose promise knows the state of the call; own iteration, length, ~ -/
namespace PB
open PySem PySem.Spec PyProof.Rows L2

/-- a promise that may ask what runs around and which state the call meets -/
structure FnG (P : Program) (w : World) (K : PySem.W.Frag) (mg : Str → Option Value) (base : Heap) (k : Nat) (f : Addr) (fd : FuncData) (ps : List Str) (sp : Around → Shared → Sp) : Prop where
  len : ∀ A s vs H Q E, sp A s vs H Q E → vs.length = ps.length
  run : ∀ (A : Around) (outer : List Env) (s : Shared) (H : Hp) (args : Args) (us : List Value) (vs : List V) (Q : VK) (E : XK), Room k A → Env0 P w K mg base A outer s H → BindsTo s fd args (ps.zip us) → Vals vs us → sp A s vs H Q E →
    codeAny (model P w) A (.call (.ref f) args) (CR CX0 outer P w H s Q E) s
section
variable {P : Program} {w : World} {K : PySem.W.Frag} {mg : Str → Option Value} {base : Heap}
theorem fnG_mk {x qual : Str} {st : Stmt} {f : Addr} {fd : FuncData} {N ps : List Str} {k : Nat} {sp : Around → Shared → Sp} (F : Fun K x qual st f fd) (S : FnScope N ps (defScope st)) (len : ∀ A s vs H Q E, sp A s vs H Q E → vs.length = ps.length)
    (hbody : ∀ (cdv : Value) (A : Around) (outer : List Env) (s : Shared) (H : Hp) (vs : List V) (Q : VK) (E : XK), Room k (A.deeper (envOfC qual (defScope st) s.heap.objs.size f cdv)) → sp A s vs H Q E →
      wSs (bodyCx P w K mg base N qual st f cdv A outer s H E) (defBody st) { nx := fun _ H' => Q .non H', rt := Q } (L2.start N vs) H) : FnG P w K mg base (k + 1) f fd ps sp := by
  obtain ⟨oc, od, kV, doc, pm, an, cdv, ct, osl, rfl, lk, hcd⟩ := F.ex
  refine ⟨len, fun A outer s H args us vs Q E room env0 bound rel hsp => ?_⟩
  have lenV := len _ _ _ _ _ _ hsp
  have inK : K.In s.heap := env0.mod.kin.keeps fun b o z => (env0.bs b o z).1
  have noLim : s.heap.NoLimit := env0.mod.nolimit.keeps fun b o z => (env0.bs b o z).1
  refine codeAny_call_function room.depth (inK _ _ lk) rfl S.co S.gen rfl (PySem.W.codeRec_of inK hcd) (bound _ _ _ _ (wpAny_newFunctionEnv_cells S.kind (fun ⟨n, v⟩ hy => ?_) fun env he s1 x => ?_))
  · have hm := S.par n (List.of_mem_zip hy).1
    exact hm.elim .inl fun q => .inr ⟨q, PySem.W.cellsFrom_some _ _ _ (.inl q)⟩
  · subst he
    have inv := inv_start (CX := CX0) (cd := cdv) (E := E) S room.hd env0 lenV rel x
    have body := hbody cdv A outer s H vs Q E (room.deeper _) hsp [] s1 (inv.wish _)
    refine ⟨noLim.keeps x.toInCall.keep, codeAny_func (wpAny_mono body (fun fl s' hs => ?_) fun _ _ z => z.elim)⟩
    cases fl with
    | next => exact let ⟨_, H', J, q⟩ := hs; ⟨V.non, H', J.os, J.bare, J.base, J.hok, rfl, q⟩
    | ret u => exact let ⟨v, _, H', J, rv, q⟩ := hs; ⟨v, H', J.os, J.bare, J.base, J.hok, rv, q⟩
    | brk => exact let ⟨_, _, _, q⟩ := hs; q.elim
    | cont => exact let ⟨_, _, _, q⟩ := hs; q.elim
end

/-! ### iter(t), t a tuple -/
def TiO (t it : Addr) : HO := .ext fun h => h.IsTupleIter it t 0
section
variable {X : Cx} {pins : List (Addr × Obj)} {σ : L2.St} {H : Hp} {s : Shared}
theorem tiO_ok {P : Program} {w : World} {t it : Addr} {h : Heap} (e : h.IsTupleIter it t 0) : ObjOk P w H h it (TiO t it) :=
  ⟨e, let ⟨o, ho, _⟩ := e; ⟨o, ho⟩, fun h1 h2 ⟨o, ho, r⟩ k => ⟨o, k o ho, r⟩⟩
theorem run_iterT {prog : Program} {w : World} {A : Around} {E : Value → Shared → Prop} {t : Addr} {items : Array Value} {Q : Value → Shared → Prop} (ht : s.heap.IsTuple t items)
    (h : Q (.ref s.heap.objs.size) { s with heap := s.heap.push { cls := .type "tuple_iterator", data := .fields #[.ref t, .int 0 0] } }) : wpAny (model prog w) A (call (.builtin "iter") [.ref t]) Q E s := by
  refine Calls.call_function_entry (id := "iter") (by decide +kernel) (by decide +kernel) PySem.W.kdk_entry_iter (PySem.W.kdk_args_iter _) ?_
  unfold Builtin.«iter»
  refine wpAny_bind (m := someArgs "iter" 1 2 _) (wpAny_of_eq (a := [Value.ref t]) (by first | rfl | kernel_rfl!) ?_)
  show wpAny _ _ (pyIter (.ref t) >>= _) _ _ _
  exact wpAny_bind (wpAny_pyIter_tuple ht (wpAny_pure ⟨_, rfl, h⟩))
def rIterT (K : PySem.W.Frag) (n : Nat) : List V → Hp → VK → Prop := fun xs H Q => ∃ (t : Addr) (zs : List V), xs = [.ref t] ∧ SqT K H t zs ∧ ∀ it, H it = none → n ≤ it → Q (.ref it) (upd H it (TiO t it))
theorem call_iterT : CallR X (.builtin "iter") (rIterT X.K X.s_0.heap.objs.size) := by
  intro pins s σ H xs us Q I r h
  obtain ⟨t, zs, rfl, hq, q⟩ := h
  cases Vals.ref1 r
  obtain ⟨its, rv, pt, hz⟩ := I.tuple hq
  refine run_iterT (show s.heap.IsTuple t its.toArray from pt) ⟨.ref s.heap.objs.size, _, I.laid (t' := s.toks) (fun b u e => Heap.get?_push_of_some _ e) (Nat.le_refl _) (tiO_ok ⟨_, Heap.get?_push_size _ rfl, rfl, rfl⟩), rfl, q _ (I.hok.fresh (Nat.le_refl _)) I.sz⟩

/-! ### for x in o, o with an own __iter__ that hands out such an iterator -/
def spIter (K : PySem.W.Frag) (C : Addr) : Around → Shared → Sp := fun _ s vs H Q _ => ∃ p dx fs st xs, vs = [.ref p] ∧ H p = some (.ins C dx (scrFs fs st)) ∧ SqT K H st xs ∧ ∀ it, H it = none → s.heap.objs.size ≤ it → Q (.ref it) (upd H it (TiO st it))
def iOwn (K : PySem.W.Frag) (C : Addr) (te : TE) : TI := fun σ H R => te σ H fun x H1 => ∃ p dx fs st xs, x = .ref p ∧ H1 p = some (.ins C dx (scrFs fs st)) ∧ SqT K H1 st xs ∧ R (Itt K st) H1
theorem pi_own {tg e : Expr} {te : TE} {k : Nat} {f C : Addr} {fd : FuncData} {ps : List Str} (he : PE X e te) (hs : PySem.W.findIn X.K (.ref C) "__iter__" = some (some (.ref f))) (hf : PySem.W.isFn X.K (.ref f) = true) (G : FnG X.prog X.w X.K X.mg X.base k f fd ps (spIter X.K C)) (hr : Room k X.A) (hb : Binds X.K fd ps []) : PI X tg e (iOwn X.K C te) := by
  refine ⟨fun pins s σ H R I h => thn (he.run pins s σ H _ I h) fun v s1 ⟨x, H1, I1, r1, p, dx, fs, st, xs, ex, hp, hq, q⟩ => ?_⟩
  subst ex
  cases (show v = .ref p from r1)
  obtain ⟨mA, O, _⟩ := ins_get I1.hok hp
  obtain ⟨od, J, _⟩ := O.look
  obtain ⟨mm, Fm⟩ := I1.fr
  have hsp : spIter X.K C X.A s1 [.ref p] H1 (fun v H' => ∃ it, v = .ref it ∧ H1 it = none ∧ s1.heap.objs.size ≤ it ∧ H' = upd H1 it (TiO st it)) E0 := ⟨p, dx, fs, st, xs, rfl, hp, hq, fun it n l => ⟨it, rfl, n, l, rfl⟩⟩
  have hl : ([Value.ref p] ++ ([] : List Value)).length = ps.length := by
    rw [← G.len _ _ _ _ _ _ hsp]
    rfl
  refine PySem.W.owit_iter Fm I1.ok.mod.kin J hs hf (wpAny_call (codeAny_mono (G.run X.A X.stack s1 H1 ⟨[.ref p], []⟩ [.ref p] [.ref p] _ E0 hr I1.env0 (by simpa using hb s1 [.ref p] I1.kIn hl) (.cons rfl .nil) hsp) fun r s2 hq => ?_))
  cases r with
  | error e => exact hq.elim
  | ok fl =>
    cases fl with
    | next => exact False.elim hq
    | brk => exact False.elim hq
    | cont => exact False.elim hq
    | ret u =>
      obtain ⟨v, H', os, bare, un, hok, rv, it, ev, n0, big, eH⟩ := hq
      subst ev eH
      cases (show u = .ref it from rv)
      have I2 : Inv X pins σ (upd H1 it (TiO st it)) s2 := I1.call' (ch := []) os un hok bare fun b z => absurd z (by simp)
      have ext : (upd H1 it (TiO st it)) it = some (.ext fun h => h.IsTupleIter it st 0) := upd_same
      have here : s2.heap.IsTupleIter it st 0 := (I2.hok it _ ext).1
      have e3 : ItX.dropH (upd H1 it (TiO st it)) it = H1 := ItX.dropH_upd n0
      have I3 := ItX.inv_drop I2 ext
      rw [e3] at I3
      refine wpAny_specialOf (Heap.IsTupleIter.typeIs here) F.slot_tuple_iterator_next.lookup ⟨it, [it], _, _, H1, rfl, I3, turn_tuple st it, here, fun b hb => ?_, q⟩
      cases (show b = it by simpa using hb)
      have fp := ItX.inv_fp I2 ext (Nat.le_trans I1.sz big)
      rw [e3] at fp
      exact fp

/-! ### len(o), ~o -/
theorem call_lenOwn {k n : Nat} {f C : Addr} {fd : FuncData} {ps : List Str} {Pr : List D → (D → Prop) → Prop} (hs : PySem.W.findIn X.K (.ref C) "__len__" = some (some (.ref f))) (hf : PySem.W.isFn X.K (.ref f) = true) (G : FnOk X.prog X.w X.K X.mg X.base CX0 k f fd ps (spX X.K C n Pr)) (hr : Room (k + 1) X.A) (hb : Binds X.K fd ps []) :
    CallR X (.builtin "len") (fun xs H Q => ∃ p dx fs st, xs = [.ref p] ∧ H p = some (.ins C dx (scrFs fs st)) ∧ spX X.K C n Pr [.ref p] H (fun v H' => ∃ i : Int, v = .int i ∧ 0 ≤ i ∧ i < 2 ^ 63 ∧ Q (.int i) H') E0) := by
  intro pins s σ H xs us Q I r h
  obtain ⟨p, dx, fs, st, rfl, hp, hsp⟩ := h
  cases Vals.ref1 r
  obtain ⟨mA, O, _⟩ := ins_get I.hok hp
  obtain ⟨od, J, _⟩ := O.look
  obtain ⟨mm, Fm⟩ := I.fr
  have hl : ([Value.ref p] ++ ([] : List Value)).length = ps.length := by
    rw [← G.len _ _ _ _ hsp]
    rfl
  refine PySem.W.len_K Fm I.ok.mod.kin J hs hf (wpAny_call (codeAny_mono (G.run X.A.in1 X.stack s H ⟨[.ref p], []⟩ [.ref p] [.ref p] _ E0 hr.in1 I.env0.in1 (by simpa using hb s [.ref p] I.kIn hl) (.cons rfl .nil) hsp) fun r s2 hq => ?_))
  cases r with
  | error e => exact hq.elim
  | ok fl =>
    cases fl with
    | next => exact False.elim hq
    | brk => exact False.elim hq
    | cont => exact False.elim hq
    | ret u =>
      obtain ⟨v, H', I3, rv, i, ev, h0, h1, q⟩ := I.after hq
      subst ev
      obtain ⟨t, rfl⟩ := rv
      exact ⟨⟨h0, h1⟩, .int i, H', I3.tok _, ⟨_, rfl⟩, q⟩
theorem un_own {k n : Nat} {f C : Addr} {fd : FuncData} {ps : List Str} {Pr : List D → (D → Prop) → Prop} (hs : PySem.W.findIn X.K (.ref C) "__invert__" = some (some (.ref f))) (hf : PySem.W.isFn X.K (.ref f) = true) (G : FnOk X.prog X.w X.K X.mg X.base CX0 k f fd ps (spX X.K C n Pr)) (hr : Room k X.A) (hb : Binds X.K fd ps []) :
    UnR X (unaryOp .Invert) (fun x H Q => ∃ p dx fs st, x = .ref p ∧ H p = some (.ins C dx (scrFs fs st)) ∧ spX X.K C n Pr [.ref p] H Q E0) := by
  intro pins s σ H x v Q I r h
  obtain ⟨p, dx, fs, st, rfl, hp, hsp⟩ := h
  cases (show v = .ref p from r)
  obtain ⟨mA, O, _⟩ := ins_get I.hok hp
  obtain ⟨od, J, _⟩ := O.look
  obtain ⟨mm, Fm⟩ := I.fr
  exact PySem.W.ksp_inv Fm I.ok.mod.kin J hs hf (run_fn (us := [.ref p]) (vs := [.ref p]) (dvs := []) (E := E0) G hr hb .nil pass0 I (.cons rfl .nil) hsp)
end

section
variable {X : Cx} {m : Md} {C : Addr} {δ : Dl} {e tg : Expr} {pos p1 : Pos} {d : D} {fs : Int} {cs : List D} {k : Nat} {f : Addr} {fd : FuncData} {ps : List Str} {F : List D → D → Prop}
theorem ev_lenOwn {i : Int} (hs : PySem.W.findIn X.K (.ref C) "__len__" = some (some (.ref f))) (hf : PySem.W.isFn X.K (.ref f) = true) (G : FnOk X.prog X.w X.K X.mg X.base CX0 k f fd ps (spX X.K C 1 (det F))) (hr : Room (k + 1) X.A) (hb : Binds X.K fd ps []) (hm : X.mg "len" = none) (h : Ev X m C δ e (.scr fs cs)) (hp : F [.scr fs cs] (.int i)) (hi : 0 ≤ i ∧ i < 2 ^ 63)
    (hg : Gl X "len" := by rfl) (he : starEach [e] X.env = (false, eval e X.env) :: starEach [] X.env := by rfl) : Ev X m C δ (.Call (.Name "len" p1) [e] [] pos) (.int i) :=
  ev_callB (call_lenOwn hs hf G hr hb) hm PySem.boot_len (ea_cons h ea_nil he) (fun vs σ H E r0 Q q => by
    obtain ⟨v, rfl, p, dx, st, xs, rfl, h1, h2, r1⟩ := one_rp r0
    exact ⟨p, dx, fs, st, rfl, h1, m, [.scr fs cs], _, rfl, E.bag, E.more, ⟨.ref p, [], rfl, ⟨p, dx, st, xs, rfl, h1, h2, r1⟩, rfl⟩, ⟨_, hp, rfl⟩, fun d' v' H' hd l r => by
      subst hd
      exact ⟨i, r, hi.1, hi.2, q _ H' l rfl⟩⟩) hg (by decide) (by decide) he
theorem ev_inv (hs : PySem.W.findIn X.K (.ref C) "__invert__" = some (some (.ref f))) (hf : PySem.W.isFn X.K (.ref f) = true) (G : FnOk X.prog X.w X.K X.mg X.base CX0 k f fd ps (spX X.K C 1 (det F))) (hr : Room k X.A) (hb : Binds X.K fd ps []) (h : Ev X m C δ e (.scr fs cs)) (hp : F [.scr fs cs] d) : Ev X m C δ (.UnaryOp .Invert e pos) d := .mk fun σ H E Q q =>
  ofPE (pe_un (un_own hs hf G hr hb) peW) (h.go E fun v H1 l1 ⟨p, dx, st, xs, e1, h1, h2, r1⟩ => ⟨p, dx, fs, st, e1, h1, m, [.scr fs cs], _, rfl, (E.le l1).bag, (E.le l1).more, ⟨.ref p, [], rfl, ⟨p, dx, st, xs, rfl, h1, h2, r1⟩, rfl⟩, ⟨_, hp, rfl⟩, fun d' v' H' hd l r => by
    subst hd
    exact q _ H' (l1.trans l) r⟩)
theorem ei_own (hs : PySem.W.findIn X.K (.ref C) "__iter__" = some (some (.ref f))) (hf : PySem.W.isFn X.K (.ref f) = true) (G : FnG X.prog X.w X.K X.mg X.base k f fd ps (spIter X.K C)) (hr : Room k X.A) (hb : Binds X.K fd ps []) (h : Ev X m C δ e (.scr fs cs)) : EvI X m C δ tg e cs :=
  ⟨_, pi_own peW hs hf G hr hb, fun σ H E Rr q => h.go E fun v H1 l1 ⟨p, dx, st, xs, e1, h1, h2, r1⟩ => ⟨p, dx, fs, st, xs, e1, h1, h2, q _ H1 l1 (walks_tup h2 r1)⟩⟩
end
end PB

/-! the class Script -/
namespace PB
open PySem PySem.Spec PyProof.Rows L2
open PP (Call Spot Word)

/-! ### statements at a state -/
section
variable {X : Cx} {m : Md} {C : Addr} {δ : Dl} {e c : Expr} {pos p1 : Pos} {d : D} {st : Stmt} {sts body els : List Stmt} {R : D → Prop} {σ : L2.St} {H : Hp} {Dn : Ends}
theorem ws_cons (h : wS X st { Dn with nx := fun σ' H' => wSs X sts Dn σ' H' } σ H) : wSs X (st :: sts) Dn σ H := ofPSs (pss_cons psW pssW) h
theorem ws_nil (h : Dn.nx σ H) : wSs X [] Dn σ H := ofPSs pss_nil h
theorem ws_ifF (hc : EvT X m C δ c false) (E : Sl X.K m C H σ δ) (h : ∀ H1, Le m H H1 → Dn.nx σ H1) : wS X (.If c body [] pos) Dn σ H := ofPS (ps_if ptW pssW pss_nil) (hc σ H E _ fun H1 l1 => iteF (h H1 l1))
theorem ws_ifT (hc : EvT X m C δ c true) (E : Sl X.K m C H σ δ) (h : ∀ H1, Le m H H1 → wSs X body Dn σ H1) : wS X (.If c body els pos) Dn σ H := ofPS (ps_if ptW pssW pssW) (hc σ H E _ fun H1 l1 => iteT (h H1 l1))
theorem ws_setP {P : D → Prop} (i : Nat) {n : Str} (he : EvP X m C δ e P) (E : Sl X.K m C H σ δ) (hN : X.N.Nodup) (h : ∀ d v H1, P d → Le m H H1 → Rp X.K m C H1 d v → Dn.nx (σ.set i (some v)) H1) (hi : X.N[i]? = some n := by rfl) (hx : Loc X.env.scope n := by first | exact Or.inl rfl | exact Or.inr rfl) (hs : swapsWith e (some (.Name n p1)) pos.line X.env = pure false := by rfl)
    (hf : X.fn n = true ∨ X.env.scope.names.lookup n = some .local := by first | exact .inl rfl | exact .inr rfl) : wS X (.Assign [.Name n p1] e pos) Dn σ H :=
  ofPS (ps_set hN hi hx peW hs hf) (he σ H E _ fun d v H1 hd l1 r1 => h d v H1 hd l1 r1)
theorem ws_set (i : Nat) {n : Str} (he : Ev X m C δ e d) (E : Sl X.K m C H σ δ) (hN : X.N.Nodup) (h : ∀ v H1, Le m H H1 → Rp X.K m C H1 d v → Dn.nx (σ.set i (some v)) H1) (hi : X.N[i]? = some n := by rfl) (hx : Loc X.env.scope n := by first | exact Or.inl rfl | exact Or.inr rfl) (hs : swapsWith e (some (.Name n p1)) pos.line X.env = pure false := by rfl)
    (hf : X.fn n = true ∨ X.env.scope.names.lookup n = some .local := by first | exact .inl rfl | exact .inr rfl) : wS X (.Assign [.Name n p1] e pos) Dn σ H :=
  ws_setP i he E hN (fun d v H1 hd l1 r1 => h v H1 l1 (hd ▸ r1)) hi hx hs hf
theorem ws_ret (he : EvP X m C δ e R) (E : Sl X.K m C H σ δ) (h : ∀ d v H1, R d → Le m H H1 → Rp X.K m C H1 d v → Dn.rt v H1) : wS X (.Return (some e) pos) Dn σ H := ofPS (ps_ret peW) (he σ H E _ h)
end
section
variable {P : Program} {w : World} {K : PySem.W.Frag} {mg : Str → Option Value} {base : Heap} {C : Addr}
theorem cD_keep {m m' : Md} {C' : Addr} {H H' : Hp} (hk : ∀ a xs, SqT K H a xs → SqT K H' a xs) {c : Call} {v : V} (h : Rp K m C H (cD c) v) : Rp K m' C' H' (cD c) v := by
  obtain ⟨a, xs, e, h1, h2⟩ := h
  refine ⟨a, xs, e, hk a xs h1, ?_⟩
  cases c <;> exact h2
theorem cDs_keep {m m' : Md} {C' : Addr} {H H' : Hp} (hk : ∀ a xs, SqT K H a xs → SqT K H' a xs) : ∀ {cs : List Call} {xs : List V}, RpAll K m C H (cs.map cD) xs → RpAll K m' C' H' (cs.map cD) xs
  | [], _, h => h
  | c :: cs, _, h => by
    obtain ⟨v, vs, e, h1, h2⟩ := h
    exact ⟨v, vs, e, cD_keep hk h1, cDs_keep hk h2⟩
/-- a class or a tuple of classes: isinstance(x, (T1, T2)) where it is the second one -/
theorem ev_isiTL {X : Cx} {m : Md} {C : Addr} {δ : Dl} {e : Expr} {ds : List D} {k0 : Nat} {pos p1 p2 p3 p4 : Pos} (hi : X.mg "isinstance" = none) (h1 : X.mg "tuple" = none) (h2 : X.mg "list" = none) (h : Ev X m C δ e (.lst ds))
    (hg : Gl X "isinstance" := by rfl) (hg1 : Gl X "tuple" := by rfl) (hg2 : Gl X "list" := by rfl) (he : starEach [e, .Tuple [.Name "tuple" p2, .Name "list" p3] k0 p4] X.env = (false, eval e X.env) :: starEach [.Tuple [.Name "tuple" p2, .Name "list" p3] k0 p4] X.env := by rfl)
    (he2 : starEach [.Tuple [.Name "tuple" p2, .Name "list" p3] k0 p4] X.env = (false, eval (.Tuple [.Name "tuple" p2, .Name "list" p3] k0 p4) X.env) :: starEach [] X.env := by rfl)
    (he3 : starEach [.Name "tuple" p2, .Name "list" p3] X.env = (false, eval (.Name "tuple" p2) X.env) :: starEach [.Name "list" p3] X.env := by rfl) (he4 : starEach [.Name "list" p3] X.env = (false, eval (.Name "list" p3) X.env) :: starEach [] X.env := by rfl)
    (hpl : (backTo pos (starEach [.Tuple [.Name "tuple" p2, .Name "list" p3] k0 p4] X.env)).any (·.1) = false := by rfl) :
    Ev X m C δ (.Call (.Name "isinstance" p1) [e, .Tuple [.Name "tuple" p2, .Name "list" p3] k0 p4] [] pos) (.bl true) := .mk fun σ H E Q q =>
  ofPE (pe_callB call_isiT hg hi (by decide +kernel) (pa_cons peW (pa_cons (pe_tup (pa_cons (pe_bltn (v := .ty "tuple") hg1 h1 (by decide +kernel) rfl) (pa_cons (pe_bltn (v := .ty "list") hg2 h2 (by decide +kernel) rfl) pa_nil he4) he3)) pa_nil he2) he) (by decide) (by decide) he hpl)
    (h.go E fun v H1 l1 r1 => ⟨by show 2 ≤ sizeLine; decide, fun p np => ⟨v, p, _, .type "list", [.type "tuple", .type "list"], true, rfl, upd_same, .cons (.ty "tuple") (.cons (.ty "list") .nil), tyx (r1.le (.new np)) rfl,
      kitAny_cons (b := false) (kit_ty (by decide +kernel)) (fun _ => kitAny_cons (b := true) (kit_ty (by decide +kernel)) (fun z => nomatch z) (fun _ => rfl)) (fun z => nomatch z), q _ _ (l1.trans (.new np)) rfl⟩⟩)

/-! ### __init__ -/
def spInit (K : PySem.W.Frag) (C : Addr) : Sp := fun vs H Q _ => ∃ (m : Md) (p dx : Addr) (fs : Int) (cs : List Call) (v : V), vs = [.ref p, .int fs, v] ∧ H p = some (.ins C dx []) ∧ (∀ p, m.bag = some p → BagAt H m.more p) ∧ (∀ a ∈ m.more, H a ≠ none) ∧
  Rp K m C H (.lst (cs.map cD)) v ∧ (fs = 2 ∨ fs = 3) ∧ (∀ c ∈ cs, c.ok fs) ∧ cs.length ≤ 1000 ∧
  ∀ H' st xs, Le m H (upd H' p (.ins C dx [])) → H' p = some (.ins C dx (scrFs fs st)) → SqT K H' st xs → RpAll K m C H' (cs.map cD) xs → Q .non H'
abbrev sInit : Stmt := inClass (topS 46) 0
theorem sc_init : FnScope ["self", "files", "calls", "call"] ["self", "files", "calls"] (defScope sInit) := ⟨rfl, rfl, rfl, by decide +kernel, rfl, by decide +kernel, by decide +kernel⟩
theorem ok_init (T : Txt K w mg C) : ∃ f fd, FnOk P w K mg base CX0 4 f fd ["self", "files", "calls"] (spInit K C) ∧ Mk K C f ∧ Binds K fd ["self", "files", "calls"] [] := by
  obtain ⟨f, fd, F, mk, hb⟩ := T.make
  refine ⟨f, fd, F.ok (k := 3) sc_init (fun vs H Q E h => ?_) (fun cdv A outer s H vs Q E hr h => ⟨_, pssW, ?_⟩), mk, hb⟩
  · obtain ⟨m, p, dx, fs, cs, v, e, _⟩ := h
    rw [e]
    rfl
  · obtain ⟨m, p, dx, fs, cs, v, rfl, hp, hbag, hmore, rv, hfs, hok, hlen, q⟩ := h
    have E0 : Sl K m C H (L2.start ["self", "files", "calls", "call"] [.ref p, .int fs, v]) [none, some (.int fs), some (.lst (cs.map cD)), none] := by
      refine ⟨rfl, fun i d h => ?_, hbag, hmore⟩
      rcases i with _ | _ | _ | _ | i
      · cases h
      · cases h
        exact ⟨_, rfl, rfl⟩
      · cases h
        exact ⟨v, rfl, rv⟩
      · cases h
      · cases h
    refine ws_cons (ws_ifF (et_not (et_val (ec_f (fx_is_files T) hr (ea_cons (ev_name 1) ea_nil) ⟨fs, rfl, hfs, rfl⟩))) E0 fun H1 l1 => ?_)
    refine ws_cons (ws_ifF (et_ww (ew_orF (et_not (et_val (ev_isiTL T.b.isi T.b.tuple T.b.list (ev_name 2)))) (ew_or1 ((et_not (et_val (ev_all rfl T.b.all (ev_lcB (j := 3) (fun _ => true) (ei_lst (ev_name 2)) ?_ rfl sc_init.nd
      (blkOk_by (own := [("call", 3)]) (N := ["self", "files", "calls", "call"]) (sc := defScope sInit) (by decide +kernel)) (fun _ _ _ _ _ => pg_name (i := 3) sc_init.nd rfl (Or.inl rfl)) ?_)))).is ?_)))) (E0.le l1) fun H2 l2 => ?_)
    · rw [List.length_map]
      omega
    · intro d hd p s' H0 Cc cl fp
      obtain ⟨c, hc, rfl⟩ := List.mem_map.mp hd
      exact ec_f (fx_is_call T) hr (ea_cons (ev_name 1) (ea_cons (ev_name 3) ea_nil)) ⟨fs, c, rfl, hok c hc, rfl⟩
    · simp
    have l12 := l1.trans l2
    have E2 := E0.le l12
    have hp2 : H2 p = some (.ins C dx []) := l12.keep _ _ hp fun _ z => z
    refine ws_cons (ofPS (ps_fld (pv 0) peW rfl) ((ev_name (X := bodyCx P w K mg base _ _ sInit f cdv A outer s H E) 1 (d := .int fs)).go E2 fun u H3 l3 r3 => ?_))
    cases (show u = .int fs from r3)
    have l123 := l12.trans l3
    have hp3 : H3 p = some (.ins C dx []) := l123.keep _ _ hp fun _ z => z
    refine ⟨_, rfl, p, C, dx, [], rfl, hp3, T.cl, T.nW, by decide, ?_⟩
    -- self.steps = tuple(calls)
    have hk : ∀ {H' : Hp} {o : HO} a xs, (∃ fs', H' p = some (.ins C dx fs')) → SqT K H' a xs → SqT K (upd H' p o) a xs := fun {H' o} a xs ⟨fs', e⟩ h => by
      have ne : ∀ u, H' a = some u → (∀ fs', u ≠ .ins C dx fs') → (upd H' p o) a = some u := fun u h1 h2 => by
        rw [upd_ne (ne_of h1 e (h2 _))]
        exact h1
      rcases h with (h | ⟨o', h⟩) | h
      · exact .inl (.inl (ne _ h fun _ z => nomatch z))
      · exact .inl (.inr ⟨o', ne _ h fun _ z => nomatch z⟩)
      · exact .inr h
    obtain ⟨a, xs, ev, ha, hna, rxs⟩ := (rv.le l123 : Rp K m C H3 (.lst (cs.map cD)) v)
    subst ev
    have hap : a ≠ p := ne_of ha hp3 (fun z => nomatch z)
    let H4 : Hp := upd H3 p (.ins C dx (putF "width" (.int fs) []))
    have E4 : Sl K m C H4 (L2.start ["self", "files", "calls", "call"] [.ref p, .int fs, .ref a]) [none, none, some (.lst (cs.map cD)), none] := by
      have E3 := E2.le l3
      refine ⟨rfl, fun i d h => ?_, fun b hb => ?_, fun b hb z => ?_⟩
      · rcases i with _ | _ | _ | _ | i
        · cases h
        · cases h
        · cases h
          exact ⟨_, rfl, a, xs, rfl, by show (upd H3 p _) a = _; rw [upd_ne hap]; exact ha, hna, cDs_keep (fun b ys => hk b ys ⟨_, hp3⟩) rxs⟩
        · cases h
        · cases h
      · obtain ⟨x, g, i, c, ns, h1, h2, h3, h4, h5, h6⟩ := E3.bag b hb
        exact ⟨x, g, i, c, ns, by show (upd H3 p _) b = _; rw [upd_ne (ne_of h1 hp3 (fun z => nomatch z))]; exact h1, h2, h3, h4, by show (upd H3 p _) c = _; rw [upd_ne (ne_of h5 hp3 (fun z => nomatch z))]; exact h5, h6⟩
      · by_cases hbp : b = p
        · subst hbp
          rw [show H4 b = _ from upd_same] at z
          cases z
        · rw [show H4 b = H3 b from upd_ne hbp] at z
          exact E3.more b hb z
    refine ws_cons (ofPS (ps_fld (pv 0) peW rfl) ((ev_tupleL (X := bodyCx P w K mg base _ _ sInit f cdv A outer s H E) T.b.tuple (ev_name 2)).go E4 fun u H5 l5 r5 => ?_))
    obtain ⟨t, ys, rfl, ht, rys⟩ := r5
    have hp5 : H5 p = some (.ins C dx (putF "width" (.int fs) [])) := l5.keep _ _ (show H4 p = _ from upd_same) fun _ z => z
    refine ⟨_, rfl, p, C, dx, _, rfl, hp5, T.cl, T.nS, by show 1 < 1000; decide, ws_nil ?_⟩
    refine q _ t ys ?_ upd_same (hk t ys ⟨_, hp5⟩ ht) (cDs_keep (fun b zs => hk b zs ⟨_, hp5⟩) rys)
    rw [upd_upd]
    refine ⟨fun b o hb hn => ?_, fun b hb ll hs hB => ?_⟩
    · by_cases hbp : b = p
      · subst hbp
        rw [upd_same, ← hp, hb]
      · rw [upd_ne hbp]
        refine l5.keep b o ?_ hn
        rw [show H4 b = H3 b from upd_ne hbp]
        exact l123.keep b o hb hn
    · exact (l5.bags b hb ll hs ((l123.bags b hb ll hs hB).ins hp3)).ins hp5
end
end PB

/-! t[::-1] of a tuple -/
namespace PB
open PySem PySem.Spec PyProof.Rows L2

theorem rev_pick (xs : Array Value) : ((List.range xs.size).filterMap fun (k : Nat) => xs[(((xs.size : Int) - 1) + (k : Int) * (-1)).toNat]?).toArray = xs.toList.reverse.toArray := by
  congr 1
  have e : ∀ l : List Nat, (∀ k ∈ l, k < xs.size) → l.filterMap (fun (k : Nat) => xs[(((xs.size : Int) - 1) + (k : Int) * (-1)).toNat]?) = l.map fun k => xs.toList.getD (xs.size - 1 - k) .none := by
    intro l
    induction l with
    | nil => intro _; rfl
    | cons k l ih =>
      intro h
      have hk := h k List.mem_cons_self
      have e1 : (((xs.size : Int) - 1) + (k : Int) * (-1)).toNat = xs.size - 1 - k := by omega
      have e2 : xs[xs.size - 1 - k]? = some (xs.toList.getD (xs.size - 1 - k) .none) := by
        rw [List.getD_eq_getElem?_getD]
        simp [show xs.size - 1 - k < xs.size by omega]
      rw [List.filterMap_cons, e1, e2, ih fun k hk => h k (List.mem_cons_of_mem _ hk)]
      rfl
  rw [e _ fun k hk => List.mem_range.mp hk]
  refine List.ext_getElem? fun i => ?_
  rw [List.getElem?_map]
  by_cases h : i < xs.size
  · rw [List.getElem?_range h, List.getElem?_reverse (by simpa using h)]
    show some (xs.toList.getD (xs.size - 1 - i) .none) = _
    rw [List.getD_eq_getElem?_getD, Array.length_toList, List.getElem?_eq_getElem (show xs.size - 1 - i < xs.toList.length by rw [Array.length_toList]; omega)]
    rfl
  · rw [List.getElem?_eq_none (by rw [List.length_range]; omega), List.getElem?_eq_none (by rw [List.length_reverse, Array.length_toList]; omega)]
    rfl
section
variable {prog : Program} {w : World} {A : Around} {E : Value → Shared → Prop} {s : Shared}
theorem rev_applied {sl : Addr} {n : Nat} {u : Tok} {Q : Int × Int × Nat → Shared → Prop} (hs : s.heap.IsSliceOf sl .none .none (.int (-1) u)) (h : Q ((n : Int) - 1, -1, n) s) : wpAny (model prog w) A (Builtin.Slice.sliceApplied (.ref sl) (pure (n : Int))) Q E s := by
  obtain ⟨ob, hob, _, hd⟩ := id hs
  unfold Builtin.Slice.sliceApplied Builtin.Slice.sliceFields
  refine wpAny_bind (wpAny_bind (wpAny_field hob hd (x := .none) rfl (wpAny_bind (wpAny_field hob hd (x := .none) rfl (wpAny_bind (wpAny_field hob hd (x := .int (-1) u) rfl (wpAny_pure ?_)))))))
  refine wpAny_bind (slicePart_int ?_)
  show wpAny _ _ (if ((-1 : Int) == 0) = true then _ else _) _ _ s
  rw [if_neg (by decide)]
  refine wpAny_bind (slicePart_none (wpAny_bind (slicePart_none (wpAny_bind (wpAny_pure ?_)))))
  show wpAny _ _ (pure ((n : Int) - 1, (-1 : Int), Builtin.Slice.slicePlaces ((n : Int) - 1) (-1) (-1))) _ _ s
  have e : Builtin.Slice.slicePlaces ((n : Int) - 1) (-1) (-1) = n := by
    unfold Builtin.Slice.slicePlaces
    rw [if_neg (by decide)]
    by_cases h : (n : Int) - 1 > -1
    · rw [if_pos h]
      rw [show (-(-1) : Int) = 1 by decide, Int.ediv_one]
      omega
    · rw [if_neg h]
      omega
  rw [e]
  exact wpAny_pure h
theorem getItem_tuple_rev {t sl : Addr} {items : Array Value} {u : Tok} {Q : Value → Shared → Prop} (ht : IsTup s.heap t items) (hs : s.heap.IsSliceOf sl .none .none (.int (-1) u))
    (h : Q (.ref s.heap.objs.size) { s with heap := s.heap.push { cls := .type "tuple", data := .seq items.toList.reverse.toArray } }) (hsz : items.size ≤ sizeLine) : wpAny (model prog w) A (getItem (.ref t) (.ref sl)) Q E s := by
  have hfit : sizeOk (.seq items.toList.reverse.toArray) := by
    show items.toList.reverse.toArray.size ≤ sizeLine
    rw [List.size_toArray, List.length_reverse, Array.length_toList]
    exact hsz
  have hT : s.TypeIs (.ref sl) "slice" := let ⟨ob, hob, hc, _⟩ := id hs; ⟨ob, hob, hc⟩
  unfold getItem
  try with_reducible refine wpAny_holding ?_
  first | refine wpAny_bind (wpAny_pure ?_) | skip
  refine wpAny_bind (wpAny_sequenceKey ht.typeIs (by decide) (wpAny_bind (wpAny_callSpecial?_slot (name := Str.ofString "__getitem__") ht.typeIs PyProof.Rows.slot_tuple_getitem (wpAny_call_entry PyProof.Rows.slot_tuple_getitem ht.typeIs entry_tuple_getitem ?_ (args_tuple_getitem _ _)))))
  show wpAny _ _ (Builtin.Tuple.tupleItemsOf (.ref t) >>= _) _ _ s
  refine wpAny_bind (tupleItemsOf_ ht (wpAny_bind (wpAny_typeOf hT ?_)))
  rw [if_pos (by decide)]
  refine wpAny_bind (rev_applied hs ?_)
  have no : ¬ (((items.size : Int) - 1 == 0 && (-1 : Int) == 1 && items.size == items.size) = true) := by
    rw [show ((-1 : Int) == 1) = false by decide, Bool.and_false, Bool.false_and]
    exact Bool.false_ne_true
  show wpAny _ _ (if ((items.size : Int) - 1 == 0 && (-1 : Int) == 1 && items.size == items.size) = true then _ else _) _ _ s
  rw [if_neg no, rev_pick]
  first
    | exact wpAny_bind (m := Builtin.Tuple.tupleExact _) (wpAny_newObj_type (wpAny_pure ⟨_, rfl, wpAny_pure h⟩) hfit)
    | exact wpAny_bind (wpAny_bind (m := Builtin.Tuple.tupleExact _) (wpAny_newObj_type (wpAny_pure (wpAny_pure ⟨_, rfl, wpAny_pure h⟩)) hfit))
end
section
variable {X : Cx} {m : Md} {C : Addr} {δ : Dl} {e : Expr}
def tRevT (K : PySem.W.Frag) (te : TE) : TE := fun σ H Q => te σ H fun x H1 => ∃ a xs, x = .ref a ∧ SqT K H1 a xs ∧ ∀ p, H1 p = none → Q (.ref p) (upd H1 p (.tup xs.reverse))
theorem pe_revT {te : TE} {k : Nat} {p1 p2 p3 pos : Pos} (he : PE X e te) : PE X (.Subscript e (.Slice none none (some (.UnaryOp .USub (.Constant (.int 1) k p1) p2)) p3) pos) (tRevT X.K te) := by
  refine ⟨fun pins s σ H Q I h => Subscript_ (thn (he.run pins s σ H _ I h) fun v s1 ⟨x, H1, I1, r1, a, xs, ex, hx, q⟩ => ?_)⟩
  subst ex
  cases (show v = .ref a from r1)
  have minus : PO X (some (.UnaryOp .USub (.Constant (.int 1) k p1) p2)) (tPart (tUn (rU fun i => .int (-i)) (tC (.int 1)))) := po_some (pe_un un_neg pe_int)
  refine wpAny_Slice (thn (po_none.run pins s1 σ H1 (fun o H2 => o = none ∧ H2 = H1) I1 ⟨rfl, rfl⟩) fun vl s2 ⟨l, H2, I2, pl, el, e2⟩ => thn (po_none.run pins s2 σ H2 (fun o H3 => o = none ∧ H3 = H2) I2 ⟨rfl, rfl⟩) fun vu s3 ⟨u, H3, I3, pu, eu, e3⟩ =>
    thn (minus.run pins s3 σ H3 (fun o H4 => o = some (-1) ∧ H4 = H3) I3 ⟨1, rfl, -1, rfl, rfl, rfl⟩) fun vs s4 ⟨o, H4, I4, ps, eo, e4⟩ => ?_)
  subst el e2 eu e3 eo e4
  have I5 : Inv X pins σ H4 { s4 with heap := s4.heap.push { cls := .type "slice", data := .fields #[vl, vu, vs] } } := I4.kept (t' := s4.toks) fun b ob q => Heap.get?_push_of_some _ q
  obtain ⟨its, r, ht, hz⟩ := I5.tuple hx
  have hlen := r.length
  cases pl
  cases pu
  cases ps
  show wpAny (model X.prog X.w) X.A (subscriptTail e (.Slice none none (some (.UnaryOp .USub (.Constant (.int 1) k p1) p2)) p3) (.ref a) (.ref s4.heap.objs.size)) (EP X pins σ Q) X.xe _
  refine tail_any (ops := [.ref a, .ref s4.heap.objs.size]) ht.typeIs PyProof.Rows.slot_tuple_getitem.lookup ?_ (by with_unfolding_all rfl)
  refine getItem_tuple_rev ht (Heap.IsSliceOf.new ..) ⟨.ref _, _, I5.laid (t' := s4.toks) (o := .tup xs.reverse) (fun b ob q => Heap.get?_push_of_some _ q) (Nat.le_refl _) ?_, rfl, q _ (I5.hok.fresh (Nat.le_refl _))⟩ (by rw [List.size_toArray]; omega)
  exact ⟨by rw [List.length_reverse]; exact hz, _, r.reverse, IsTup.new _ _⟩
theorem RpAll.reverse {K : PySem.W.Frag} {H : Hp} : ∀ {ds : List D} {xs : List V}, RpAll K m C H ds xs → RpAll K m C H ds.reverse xs.reverse
  | [], _, h => by
    cases (show _ = [] from h)
    exact rfl
  | d :: ds, _, h => by
    obtain ⟨v, vs, rfl, h1, h2⟩ := h
    rw [List.reverse_cons, List.reverse_cons]
    exact (RpAll.reverse h2).append (.one h1)
theorem ev_revT {ds : List D} {k : Nat} {p1 p2 p3 pos : Pos} (h : Ev X m C δ e (.tup ds)) : Ev X m C δ (.Subscript e (.Slice none none (some (.UnaryOp .USub (.Constant (.int 1) k p1) p2)) p3) pos) (.tup ds.reverse) := .mk fun σ H E Q q =>
  ofPE (pe_revT peW) (h.go E fun v H1 l1 ⟨a, xs, e1, h1, r1⟩ => ⟨a, xs, e1, h1, fun p np => q _ _ (l1.trans (.new np)) ⟨p, _, rfl, SqT.of upd_same, (r1.reverse).le (.new np)⟩⟩)
end
end PB

/-! the methods of Script -/
namespace PB
open PySem PySem.Spec PyProof.Rows L2
open PP (Call Spot Word)

section
variable {X : Cx} {m : Md} {C : Addr} {δ : Dl} {elt iter a b : Expr} {scope : Scope} {pos px p1 : Pos} {n : Str} {j : Nat}
/-- [h x for g x in t] -/
theorem ev_lcM {α : Type} {L : List α} (g h : α → D) (hi : EvI X m C δ (.Name n px) iter (L.map g)) (hlen : L.length < 100000) (hc : X.calm = true) (hN : X.N.Nodup) (ok : BlkOk X.N X.env.scope scope [(n, j)]) (hg : BEvI X scope n j px)
    (he : ∀ x, x ∈ L → BEv X m C scope (δ.set j (some (g x))) elt (fun z => z = h x)) (hs : ∀ x, foldedSetIterable iter X.env x = pure x := by intro _; rfl) :
    Ev X m C δ (.ListComp elt [⟨.Name n px, iter, [], 0⟩] scope pos) (.lst (L.map h)) :=
  EvP.imp (ev_lcP (R := fun i z => ∃ x, L[i]? = some x ∧ z = h x) hi (by rw [List.length_map]; exact hlen) hc hN ok hg (fun i d hd p s H0 Cc cl fp => by
    rw [List.getElem?_map] at hd
    cases e : L[i]? with
    | none => rw [e] at hd; cases hd
    | some x =>
      rw [e] at hd
      cases hd
      exact EvP.imp (he x (List.mem_of_getElem? e) p s H0 Cc cl fp) fun z e2 => ⟨x, rfl, e2⟩) hs) fun z ⟨es, e1, e2, e3⟩ => by
    rw [e1]
    congr 1
    rw [List.length_map] at e2
    refine List.ext_getElem? fun i => ?_
    rw [List.getElem?_map]
    by_cases hlt : i < L.length
    · obtain ⟨x, h1, h2⟩ := e3 i _ (List.getElem?_eq_getElem (show i < es.length by omega))
      rw [List.getElem?_eq_getElem (show i < es.length by omega), h1, h2]
      rfl
    · rw [List.getElem?_eq_none (show es.length ≤ i by omega), List.getElem?_eq_none (show L.length ≤ i by omega)]
      rfl
theorem ev_lcMI {α : Type} {L : List α} (g : α → D) (h : α → Int) (hi : EvI X m C δ (.Name n px) iter (L.map g)) (hlen : L.length < 100000) (hc : X.calm = true) (hN : X.N.Nodup) (ok : BlkOk X.N X.env.scope scope [(n, j)]) (hg : BEvI X scope n j px)
    (he : ∀ x, x ∈ L → BEv X m C scope (δ.set j (some (g x))) elt (fun z => z = .int (h x))) (hs : ∀ x, foldedSetIterable iter X.env x = pure x := by intro _; rfl) :
    Ev X m C δ (.ListComp elt [⟨.Name n px, iter, [], 0⟩] scope pos) (.lst ((L.map h).map D.int)) :=
  (ev_lcM g (fun x => .int (h x)) hi hlen hc hN ok hg he hs).is (by rw [List.map_map]; rfl)
theorem ev_lcMB {α : Type} {L : List α} (g : α → D) (h : α → Bool) (hi : EvI X m C δ (.Name n px) iter (L.map g)) (hlen : L.length < 100000) (hc : X.calm = true) (hN : X.N.Nodup) (ok : BlkOk X.N X.env.scope scope [(n, j)]) (hg : BEvI X scope n j px)
    (he : ∀ x, x ∈ L → BEv X m C scope (δ.set j (some (g x))) elt (fun z => z = .bl (h x))) (hs : ∀ x, foldedSetIterable iter X.env x = pure x := by intro _; rfl) :
    Ev X m C δ (.ListComp elt [⟨.Name n px, iter, [], 0⟩] scope pos) (.lst ((L.map h).map D.bl)) :=
  (ev_lcM g (fun x => .bl (h x)) hi hlen hc hN ok hg he hs).is (by rw [List.map_map]; rfl)

/-- Script(files, calls) -/
theorem ev_make {k : Nat} {f : Addr} {fd : FuncData} {fs : Int} {cs : List Call} (G : FnOk X.prog X.w X.K X.mg X.base CX0 k f fd ["self", "files", "calls"] (spInit X.K C)) (M : Mk X.K C f) (hb : Binds X.K fd ["self", "files", "calls"] []) (hr : Room (k + 1) X.A) (hm : X.mg "Script" = some (.ref C))
    (ha : EvA X m C δ [a, b] (fun z => z = [.int fs, .lst (cs.map cD)])) (hfs : fs = 2 ∨ fs = 3) (hok : ∀ c ∈ cs, c.ok fs) (hlen : cs.length ≤ 1000)
    (hg : Gl X "Script" := by rfl) (he : starEach [a, b] X.env = (false, eval a X.env) :: starEach [b] X.env := by rfl) (hpl : (backTo pos (starEach [b] X.env)).any (·.1) = false := by rfl) : Ev X m C δ (.Call (.Name "Script" p1) [a, b] [] pos) (scD fs cs) := .mk fun σ H E Q q =>
  ofPE (pe_make M G hr hg hm hb .nil pass0 paW (by decide) he hpl) (ha.go E fun vs H1 l1 r1 x dx nx ndx nex => by
    obtain ⟨v, u, rfl, r1, r2⟩ := two_rp r1
    cases (show v = .int fs from r1)
    have E1 := E.le l1
    have s1 : Same H1 (upd (upd H1 dx (.own x)) x (.ins C dx [])) := fun b o e => by
      rw [upd_ne (ne_of_none e nx), upd_ne (ne_of_none e ndx)]
      exact e
    have E2 := E1.le (.of_same s1)
    refine ⟨m, x, dx, fs, cs, u, rfl, upd_same, E2.bag, E2.more, r2.le (.of_same s1), hfs, hok, hlen, fun H' st xs l hx hst rr => ⟨rfl, ?_⟩⟩
    refine q _ H' (l1.trans ?_) ⟨x, dx, st, xs, rfl, hx, hst, rr⟩
    refine ⟨fun c o e n => ?_, fun c hc ll hs hB => ?_⟩
    · have := l.keep c o (s1 c o e) n
      rwa [upd_ne (ne_of_none e nx)] at this
    · obtain ⟨x', g, i, c', ns, h1, h2, h3, h4, h5, h6⟩ := l.bags c hc ll hs (hB.same s1)
      have n1 : c ≠ x := fun z => by
        subst z
        rw [upd_same] at h1
        cases h1
      have n2 : c' ≠ x := fun z => by
        subst z
        rw [upd_same] at h5
        cases h5
      rw [upd_ne n1] at h1
      rw [upd_ne n2] at h5
      exact ⟨x', g, i, c', ns, h1, h2, h3, h4, h5, h6⟩)
end

section
variable {P : Program} {w : World} {K : PySem.W.Frag} {mg : Str → Option Value} {base : Heap} {C : Addr}
/-! ### __len__, __iter__, files, size, is_straight -/
def F_len : List D → D → Prop := fun ds d => ∃ (fs : Int) (cs : List Call), ds = [scD fs cs] ∧ d = .int cs.length
abbrev sLen : Stmt := inClass (topS 46) 2
theorem sc_len : FnScope ["self"] ["self"] (defScope sLen) := ⟨rfl, rfl, rfl, by decide +kernel, rfl, by decide +kernel, by decide +kernel⟩
theorem ok_len (T : Txt K w mg C) : ∃ f fd, FnOk P w K mg base CX0 1 f fd ["self"] (spX K C 1 (det F_len)) ∧ PySem.W.findIn K (.ref C) "__len__" = some (some (.ref f)) ∧ PySem.W.isFn K (.ref f) = true ∧ Binds K fd ["self"] [] := by
  obtain ⟨f, fd, F, h1, h2, h3⟩ := T.len_
  refine ⟨f, fd, fnX (k := 0) F sc_len rfl fun cdv A outer s H E hr m ds R hn ⟨d, ⟨fs, cs, hd, e⟩, hR⟩ => ?_, h1, h2, h3⟩
  subst hR e hd
  exact rt_ret ((ev_lenT T.b.len (ev_steps (X := bodyCx P w K mg base _ _ sLen f cdv A outer s H E) T.cl T.nS (ev_name 0))).is (by rw [List.length_map]))
abbrev sIter : Stmt := inClass (topS 46) 3
theorem sc_iter : FnScope ["self"] ["self"] (defScope sIter) := ⟨rfl, rfl, rfl, by decide +kernel, rfl, by decide +kernel, by decide +kernel⟩
theorem ok_iter (T : Txt K w mg C) : ∃ f fd, FnG P w K mg base 1 f fd ["self"] (spIter K C) ∧ PySem.W.findIn K (.ref C) "__iter__" = some (some (.ref f)) ∧ PySem.W.isFn K (.ref f) = true ∧ Binds K fd ["self"] [] := by
  obtain ⟨f, fd, F, h1, h2, h3⟩ := T.iter_
  refine ⟨f, fd, fnG_mk (k := 0) F sc_iter (fun A s vs H Q E h => ?_) fun cdv A outer s H vs Q E hr h => ?_, h1, h2, h3⟩
  · obtain ⟨p, dx, fs, st, xs, e, _⟩ := h
    rw [e]
    rfl
  · obtain ⟨p, dx, fs, st, xs, rfl, hp, hst, q⟩ := h
    exact ws_cons (ofPS (ps_ret (pe_callB call_iterT (by rfl) T.b.iter (by decide +kernel) (pa_cons (pe_fld (pv 0) rfl) pa_nil))) ⟨_, rfl, p, C, dx, _, _, rfl, hp, T.cl, T.nS, lk_s fs st, st, xs, rfl, hst, q⟩)
def F_files : List D → D → Prop := fun ds d => ∃ (fs : Int) (cs : List D), ds = [.scr fs cs] ∧ d = .int fs
abbrev sFiles : Stmt := inClass (topS 46) 4
theorem sc_files : FnScope ["self"] ["self"] (defScope sFiles) := ⟨rfl, rfl, rfl, by decide +kernel, rfl, by decide +kernel, by decide +kernel⟩
theorem px_files (T : Txt K w mg C) : Px P w K mg base C "files" 1 1 (det F_files) :=
  px_mk (k := 0) T.files sc_files rfl fun f cdv A outer s H E hr m ds R hn ⟨d, ⟨fs, cs, hd, e⟩, hR⟩ => by
    subst hR e hd
    exact rt_ret (ev_width (X := bodyCx P w K mg base _ _ sFiles f cdv A outer s H E) T.cl T.nW (ev_name 0))
def F_size : List D → D → Prop := fun ds d => ∃ (fs : Int) (cs : List Call), ds = [scD fs cs] ∧ (∀ c ∈ cs, c.ok fs) ∧ cs.length ≤ 1000 ∧ d = .int (PP.sizes cs)
abbrev sSize : Stmt := inClass (topS 46) 5
theorem sc_size : FnScope ["self", "call"] ["self"] (defScope sSize) := ⟨rfl, rfl, rfl, by decide +kernel, rfl, by decide +kernel, by decide +kernel⟩
theorem sum_sizes : ∀ cs : List Call, (cs.map Call.size).sum = PP.sizes cs
  | [] => rfl
  | c :: cs => by rw [List.map_cons, List.sum_cons, sum_sizes cs]; rfl
theorem px_size (T : Txt K w mg C) : Px P w K mg base C "size" 2 1 (det F_size) :=
  px_mk (k := 1) T.sizeP sc_size rfl fun f cdv A outer s H E hr m ds R hn ⟨d, ⟨fs, cs, hd, hok, hl, e⟩, hR⟩ => by
    subst hR e hd
    refine rt_ret ((ev_sum rfl T.b.sum (ev_lcMI (X := bodyCx P w K mg base _ _ sSize f cdv A outer s H E) (j := 1) (L := cs) cD Call.size (ei_tup (ev_steps T.cl T.nS (ev_name 0))) (by omega) rfl sc_size.nd
        (blkOk_by (own := [("call", 1)]) (N := ["self", "call"]) (sc := defScope sSize) (by decide +kernel)) (fun _ _ _ _ _ => pg_name (i := 1) sc_size.nd rfl (Or.inl rfl)) ?_)).is (by rw [sum_sizes]))
    intro c hc p s' H0 Cc cl fp
    exact ec_f (fx_size_of T) hr (ea_cons (ev_name 1) ea_nil) ⟨fs, c, rfl, hok c hc, rfl⟩
def F_straight : List D → D → Prop := fun ds d => ∃ (fs : Int) (cs : List Call), ds = [scD fs cs] ∧ cs.length ≤ 1000 ∧ d = .bl true
abbrev sStraight : Stmt := inClass (topS 46) 8
theorem sc_straight : FnScope ["self", "call"] ["self"] (defScope sStraight) := ⟨rfl, rfl, rfl, by decide +kernel, rfl, by decide +kernel, by decide +kernel⟩
theorem mx_straight (T : Txt K w mg C) : Mx P w K mg base C "is_straight" 2 1 (det F_straight) :=
  mx_mk (k := 1) T.straight sc_straight rfl fun f cdv A outer s H E hr m ds R hn ⟨d, ⟨fs, cs, hd, hl, e⟩, hR⟩ => by
    subst hR e hd
    refine rt_ret ((ev_all rfl T.b.all (ev_lcMB (X := bodyCx P w K mg base _ _ sStraight f cdv A outer s H E) (j := 1) (L := cs) cD (fun _ => true) (ei_tup (ev_steps T.cl T.nS (ev_name 0))) (by omega) rfl sc_straight.nd
        (blkOk_by (own := [("call", 1)]) (N := ["self", "call"]) (sc := defScope sStraight) (by decide +kernel)) (fun _ _ _ _ _ => pg_name (i := 1) sc_straight.nd rfl (Or.inl rfl)) ?_)).is (by simp))
    intro c hc p s' H0 Cc cl fp
    exact ec_f (fx_is_straight T) hr (ea_cons (ev_name 1) ea_nil) ⟨c, rfl, rfl⟩
/-! ### ~script -/
def F_inv : List D → D → Prop := fun ds d => ∃ (fs : Int) (cs : List Call), ds = [scD fs cs] ∧ (fs = 2 ∨ fs = 3) ∧ (∀ c ∈ cs, c.ok fs) ∧ cs.length ≤ 1000 ∧ d = scD fs (PP.turnedAll cs)
abbrev sInv : Stmt := inClass (topS 46) 10
theorem sc_inv : FnScope ["self", "call"] ["self"] (defScope sInv) := ⟨rfl, rfl, rfl, by decide +kernel, rfl, by decide +kernel, by decide +kernel⟩
theorem ok_inv (T : Txt K w mg C) : ∃ f fd, FnOk P w K mg base CX0 6 f fd ["self"] (spX K C 1 (det F_inv)) ∧ PySem.W.findIn K (.ref C) "__invert__" = some (some (.ref f)) ∧ PySem.W.isFn K (.ref f) = true ∧ Binds K fd ["self"] [] := by
  obtain ⟨f, fd, F, h1, h2, h3⟩ := T.inv_
  refine ⟨f, fd, fnX (k := 5) F sc_inv rfl fun cdv A outer s H E hr m ds R hn ⟨d, ⟨fs, cs, hd, hfs, hok, hl, e⟩, hR⟩ => ?_, h1, h2, h3⟩
  subst hR e hd
  obtain ⟨fi, fdi, Gi, Mi, bi⟩ := ok_init (P := P) (base := base) T
  refine rt_ret (ev_make (X := bodyCx P w K mg base _ _ sInv f cdv A outer s H E) Gi Mi bi hr T.mgC (ea_cons (ev_width T.cl T.nW (ev_name 0)) (ea_cons (Ev.is (ev_lcM (j := 1) (L := cs.reverse) cD (fun c => cD c.turned) (ei_tup ((ev_revT (ev_steps T.cl T.nS (ev_name 0))).is (by rw [List.map_reverse])))
    (by rw [List.length_reverse]; omega) rfl sc_inv.nd (blkOk_by (own := [("call", 1)]) (N := ["self", "call"]) (sc := defScope sInv) (by decide +kernel)) (fun _ _ _ _ _ => pg_name (i := 1) sc_inv.nd rfl (Or.inl rfl)) ?_) ?_) ea_nil)) hfs (PP.turnedAll_ok hok) ?_)
  · intro c hc p s' H0 Cc cl fp
    exact ec_f (fx_turned T) hr (ea_cons (ev_name 1) ea_nil) ⟨fs, c, rfl, hok c (List.mem_reverse.mp hc), rfl⟩
  · unfold PP.turnedAll
    rw [List.map_map]
    rfl
  · unfold PP.turnedAll
    rw [List.length_map, List.length_reverse]
    exact hl
end
end PB

/-! passed, moved -/
namespace PB
open PySem PySem.Spec PyProof.Rows L2
open PP (Call Spot Word)
section
variable {X : Cx} {m : Md} {C : Addr} {δ : Dl} {e : Expr} {es : List Expr} {pos p1 : Pos} {d : D} {fs : Int} {cs : List D} {k j n : Nat} {nm m0 : Str} {F : List D → D → Prop} {ds : List D} {σ : L2.St} {H : Hp} {Pr : List D → (D → Prop) → Prop} {R : D → Prop}
theorem ep_f (G : Px X.prog X.w X.K X.mg X.base C m0 k 1 (det F)) (hr : Room j X.A) (cl : Cls X.K C) (h : Ev X m C δ e (.scr fs cs)) (hp : F [.scr fs cs] d) (hk : k + 1 ≤ j := by decide) (hab : attributeBase e m0 X.env (eval e X.env) = eval e X.env := by rfl) : Ev X m C δ (.Attribute e m0 pos) d := by
  obtain ⟨p, f, fd, ps, G, hm, hb⟩ := G.ex
  exact ev_prop G (hr.mono hk) cl hm hb h hp hab
/-- a call whose arguments come to data just here -/
theorem at_f (G : Fx X.prog X.w X.K X.mg X.base C nm k n Pr) (hr : Room j X.A) (E : Sl X.K m C H σ δ) (ha : ∀ Q : List V → Hp → Prop, (∀ vs H2, Le m H H2 → RpAll X.K m C H2 ds vs → Q vs H2) → wA X (e :: es) σ H Q) (hp : Pr ds R) {Q : VK} (q : ∀ d v H2, R d → Le m H H2 → Rp X.K m C H2 d v → Q v H2) (hk : k ≤ j := by decide) (hn : ds.length = n := by rfl)
    (hg : Gl X nm := by rfl) (hdb : (nm == ("__debug__" : Str)) = false := by decide) (he : starEach (e :: es) X.env = (false, eval e X.env) :: starEach es X.env := by rfl) (hpl : (backTo pos (starEach es X.env)).any (·.1) = false := by rfl) :
    wE X (.Call (.Name nm p1) (e :: es) [] pos) σ H Q := by
  obtain ⟨f, fd, ps, G, hm, hkp, hb⟩ := G.ex
  exact ofPE (pe_call G (hr.mono hk) hg hm hkp hb .nil pass0 paW hdb he hpl) (ha _ fun vs H1 l1 r1 => ⟨m, ds, R, hn, (E.le l1).bag, (E.le l1).more, by rw [List.append_nil]; exact r1, hp, fun d v H' hd l r => q d v H' hd (l1.trans l) r⟩)
end
section
variable {X : Cx} {m : Md} {C : Addr} {δ : Dl} {iter : Expr} {pos px : Pos} {n : Str} {j : Nat} {ds : List D} {body : List Stmt} {σ : L2.St} {H : Hp} {Dn : Ends}
/-- for x in t, by a word over turn, slots, heap -/
theorem ws_for (Pv : Hp → Nat → L2.St → Hp → Prop) (hi : EvI X m C δ (.Name n px) iter ds) (E : Sl X.K m C H σ δ) (hp : PassesOwn (model X.prog X.w) X.A X.env X.xe) (hc : X.calm = true) (hN : X.N.Nodup) (h0 : ∀ H1, Le m H H1 → Pv H1 0 σ H1) (hk : ∀ H1 i σ' H', Pv H1 i σ' H' → Pers m H1 H')
    (hs : ∀ H1 i d x σ' H', Le m H H1 → ds[i]? = some d → Rp X.K m C H1 d x → Pv H1 i σ' H' → wSs X body { Dn with nx := Pv H1 (i + 1), ct := Pv H1 (i + 1), bk := Dn.nx } (σ'.set j (some x)) H') (hd : ∀ H1 σ' H', Le m H H1 → Pv H1 ds.length σ' H' → Dn.nx σ' H')
    (hj : X.N[j]? = some n := by rfl) (hx : Loc X.env.scope n := by first | exact Or.inl rfl | exact Or.inr rfl) (hf : X.fn n = true ∨ X.env.scope.names.lookup n = some .local := by first | exact .inl rfl | exact .inr rfl)
    (hset : ∀ x, foldedSetIterable iter X.env x = pure x := by intro _; rfl) : wS X (.For (.Name n px) iter body [] pos) Dn σ H := by
  obtain ⟨wi, pi, hiT⟩ := hi
  refine ofPS (ps_for hp hc pi (pg_name hN hj hx hf) pssW hset) (hiT σ H E _ fun J H1 l1 w => ?_)
  refine ⟨fun i k σ' H' => k = ds.length - i ∧ i ≤ ds.length ∧ Pv H1 i σ' H', ⟨ds.length, by simp, Nat.zero_le _, h0 H1 l1⟩, ?_⟩
  rintro i k σ' H' ⟨rfl, hi, p⟩
  have l := hk H1 i σ' H' p
  by_cases hlt : i < ds.length
  · refine .inr ⟨w.go i H' l hlt, Pv H1 (i + 1), fun σ2 H2 p2 => ⟨ds.length - (i + 1), by omega, rfl, hlt, p2⟩, fun x H2 y => ?_⟩
    obtain ⟨e1, d, hd', r⟩ := w.yld i H' x H2 l hlt y
    subst e1
    exact hs H1 i d x σ' _ l1 hd' r p
  · have e : i = ds.length := by omega
    subst e
    exact .inl ⟨w.stop H' l, hd H1 σ' H' l1 p⟩
end
section
variable {P : Program} {w : World} {K : PySem.W.Frag} {mg : Str → Option Value} {base : Heap} {C : Addr}
def P_passed : List D → (D → Prop) → Prop := fun ds R => ∃ (fs rows : Int) (cs : List Call) (p : Int × Int), ds = [scD fs cs, .int rows, pD p] ∧ (∀ c ∈ cs, c.ok fs) ∧ cs.length ≤ 1000 ∧ PP.isPl fs rows p ∧ R = fun z => ∃ L : List D, z = .lst (L ++ [pD (PP.mvs fs rows cs p)]) ∧ L.length = cs.length
theorem sc_passed : FnScope ["script", "rows", "place", "found", "call"] ["script", "rows", "place"] (defScope (topS 26)) := ⟨rfl, rfl, rfl, by decide +kernel, rfl, by decide +kernel, by decide +kernel⟩
theorem mvs_take {fs rows : Int} {cs : List Call} {p : Int × Int} {i : Nat} {c : Call} (h : cs[i]? = some c) : PP.mvs fs rows (cs.take (i + 1)) p = PP.mv fs rows c (PP.mvs fs rows (cs.take i) p) := by
  rw [List.take_add_one, h]
  show (cs.take i ++ [c]).foldl _ p = _
  rw [List.foldl_append]
  rfl
theorem fx_passed (T : Txt K w mg C) : Fx P w K mg base C "passed" 5 3 P_passed :=
  fx_mk (k := 4) T.passed sc_passed rfl fun f cdv A outer s H E hr m ds R hn ⟨fs, rows, cs, p, hd, hok, hl, hpl, hR⟩ => by
    subst hd hR
    intro σ H0 E0 Dn q
    let X := bodyCx P w K mg base ["script", "rows", "place", "found", "call"] "passed" (topS 26) f cdv A outer s H E
    refine ws_cons (ws_ifF (δ := dl0 ["script", "rows", "place", "found", "call"] [scD fs cs, .int rows, pD p]) (et_not (et_val (ec_f (fx_is_place T) hr (ea_cons (ep_f (px_files T) hr T.cl (ev_name 0) ⟨fs, _, rfl, rfl⟩) (ea_cons (ev_name 1) (ea_cons (ev_name 2) ea_nil))) ⟨fs, rows, p, rfl, hpl, rfl⟩))) E0 fun H1 l1 => ?_)
    have E1 := E0.le l1
    refine ws_cons (ofPS (ps_set (i := 3) sc_passed.nd rfl (Or.inl rfl) (pe_lst (pa_cons peW pa_nil))) ((ev_name (X := X) (m := m) (C := C) (δ := dl0 ["script", "rows", "place", "found", "call"] [scD fs cs, .int rows, pD p]) 2).go E1 fun v H2 l2 r2 => ⟨by show 1 ≤ sizeLine; decide, fun a na => ?_⟩))
    have E2 := E1.le l2
    have g0 : Got K m C H2 a (fun es => ∃ L : List D, es = L ++ [pD (PP.mvs fs rows (cs.take 0) p)] ∧ L.length = 0) (upd H2 a (.lst [v])) := by
      refine ⟨na, ?_, [pD p], [v], upd_same, (RpAll.one (r2.grow na)).le (.new na), [], rfl, rfl⟩
      have := Lw.wr (m := m.add a) (H := upd H2 a (.lst [])) (p := a) (ys := [v]) List.mem_cons_self upd_same
      rwa [upd_upd] at this
    -- the slots with any call
    have Es : ∀ o, Sl K m C H2 ((σ.set 3 (some (.ref a))).set 4 o) [some (scD fs cs), some (.int rows), some (pD p), none, none] := fun o => (E2.unset (i := 3)).unset (i := 4)
    have E3 : Sl K m C H2 (σ.set 3 (some (.ref a))) [some (scD fs cs), some (.int rows), some (pD p), none, none] := E2.unset (i := 3)
    have hlen : σ.length = 5 := E0.len
    obtain ⟨fi, fdi, Gi, hi1, hi2, bi⟩ := ok_iter (P := P) (base := base) T
    let Pi : Nat → List D → Prop := fun i es => ∃ L : List D, es = L ++ [pD (PP.mvs fs rows (cs.take i) p)] ∧ L.length = i
    refine ws_cons (ws_for (δ := [some (scD fs cs), some (.int rows), some (pD p), none, none]) (m := m.add a) (j := 4) (fun Ha i σ' H' => (∃ o, σ' = (σ.set 3 (some (.ref a))).set 4 o) ∧ Got K m C H2 a (Pi i) H' ∧ Pers (m.add a) Ha H')
      (ei_own hi1 hi2 Gi (hr.mono (by decide)) bi (ev_name 0)) (g0.sl E3) PassesOwn.never rfl sc_passed.nd (fun Ha la => ⟨⟨(σ.set 3 (some (.ref a)))[4]'(by rw [List.length_set]; omega), (List.set_getElem_self _).symm⟩, g0.le E3 la, .refl⟩) (fun _ _ _ _ h => h.2.2) ?_ ?_)
    · rintro Ha i d x σ' H' la hd rd ⟨⟨o, rfl⟩, g, per⟩
      rw [List.getElem?_map] at hd
      cases hc : cs[i]? with
      | none => rw [hc] at hd; cases hd
      | some c =>
      rw [hc] at hd
      cases hd
      rw [List.set_set]
      have Ex := g.sl (Es (some x))
      have rx : Rp K (m.add a) C H' (cD c) x := rd.pers per
      have Ey : Sl K (m.add a) C H' ((σ.set 3 (some (.ref a))).set 4 (some x)) [some (scD fs cs), some (.int rows), some (pD p), none, some (cD c)] := by
        have := Ex.set (i := 4) rx
        rwa [List.set_set] at this
      obtain ⟨_, _, es, acc, hacc, racc, L, hes, hL⟩ := id g
      have hi : i < cs.length := (List.getElem?_eq_some_iff.mp hc).1
      have s3 : ((σ.set 3 (some (V.ref a))).set 4 (some x))[3]? = some (some (V.ref a)) := by
        rw [List.getElem?_set_ne (by decide), List.getElem?_set_self (by omega)]
      refine ws_cons (ofPS (ps_expr (pe_bm PySem.F.plainAttrs_list PySem.F.slot_list_append PySem.F.type_list_append mt_append (pv 3) (pa_cons peW pa_nil))) ⟨_, s3, .inl ⟨rfl, _, SqL.of hacc⟩, ?_⟩)
      have plc : PP.isPl fs rows (PP.mvs fs rows (cs.take i) p) := PP.mvs_pl (fun c hc => hok c (List.mem_of_mem_take hc)) hpl
      refine at_f (fx_moved_by T) hr Ey (ds := [cD c, .int fs, .int rows, pD (PP.mvs fs rows (cs.take i) p)]) (fun Q q => ?_) ⟨_, ⟨fs, rows, c, _, rfl, hok c (List.mem_of_getElem? hc), plc, rfl⟩, rfl⟩ (fun d v H4 hd l4 r4 => ?_)
      · refine ofPA (pa_cons peW (pa_cons peW (pa_cons peW (pa_cons (pe_ix ix_list (pv 3) (pe_un un_neg pe_int) (fun _ _ => rfl)) pa_nil)))) ((ev_name 4).go Ey fun v1 H5 l5 r5 => (ep_f (px_files T) hr T.cl (ev_name 0) ⟨fs, _, rfl, rfl⟩).go (Ey.le l5) fun v2 H6 l6 r6 => (ev_name 1).go (Ey.le (l5.trans l6)) fun v3 H7 l7 r7 => ?_)
        have l57 := (l5.trans l6).trans l7
        have h7 := Ey.own List.mem_cons_self hacc l57
        obtain ⟨u, hu, ru⟩ : ∃ u, atI acc (-1) = some u ∧ Rp K (m.add a) C H' (pD (PP.mvs fs rows (cs.take i) p)) u := atI_rp racc (by rw [hes]; exact atI_last _ _)
        exact ⟨_, s3, 1, rfl, a, acc, -1, u, rfl, rfl, SqL.of h7, hu, q _ _ l57 ⟨v1, _, rfl, r5.le (l6.trans l7), v2, _, rfl, r6.le l7, v3, _, rfl, r7, u, _, rfl, ru.le l57, rfl⟩⟩
      · have g4 := g.le (Es (some x)) l4
        obtain ⟨acc', ha', hz', g5⟩ := g4.push (P' := Pi (i + 1)) r4 (fun es ⟨L, e1, e2⟩ => by rw [e1, List.length_append, List.length_singleton]; omega) fun es ⟨L, e1, e2⟩ => ⟨es, by rw [hd, mvs_take hc], by rw [e1, List.length_append, e2]; rfl⟩
        exact ⟨a, acc', v, rfl, rfl, ha', hz', ws_nil ⟨⟨some x, rfl⟩, g5, per.trans ((Pers.of_le l4).trans (Pers.of_lw (p := a) List.mem_cons_self (.wr List.mem_cons_self ha')))⟩⟩
    · rintro Ha σ' H' la ⟨⟨o, rfl⟩, g, per⟩
      have s3 : ((σ.set 3 (some (V.ref a))).set 4 o)[3]? = some (some (V.ref a)) := by
        rw [List.getElem?_set_ne (by decide), List.getElem?_set_self (by omega)]
      obtain ⟨es, ⟨L, e1, e2⟩, le, rr⟩ := g.end_ (Es o)
      refine ws_cons (ofPS (ps_ret (pv 3)) ⟨_, s3, q (.lst es) _ H' ⟨L, ?_, ?_⟩ ((l1.trans l2).trans le) rr⟩)
      · rw [e1, List.length_map, List.take_length]
      · rw [e2, List.length_map]
end
end PB

/-! == of data, in over lists of data -/
namespace PB
open PySem PySem.Spec PyProof.Rows L2
mutual
def toPy : D → PyData
  | .non => .none
  | .bl b => .bool b
  | .int i => .int i
  | .str s => .str s
  | .tup ds => .tuple (toPys ds)
  | .lst ds => .list (toPys ds)
  | .scr _ _ => .none
  | .bag => .none
  | .own _ => .none
def toPys : List D → List PyData
  | [] => []
  | d :: ds => toPy d :: toPys ds
end
mutual
def pyOk : D → Bool
  | .tup ds => pyOks ds
  | .lst ds => pyOks ds
  | .scr _ _ => false
  | .bag => false
  | .own _ => false
  | .non => true
  | .bl _ => true
  | .int _ => true
  | .str _ => true
def pyOks : List D → Bool
  | [] => true
  | d :: ds => pyOk d && pyOks ds
end
section
variable {K : PySem.W.Frag} {m : Md} {C : Addr} {H : Hp}
mutual
theorem Rp.dp : ∀ {d : D} {v : V}, pyOk d = true → Rp K m C H d v → Dp K H v (toPy d)
  | .non, v, _, r => by
    cases (show v = .non from r)
    rw [toPy]
    exact .non
  | .bl b, v, _, r => by
    cases (show v = .bl b from r)
    rw [toPy]
    exact .bl b
  | .int i, v, _, r => by
    cases (show v = .int i from r)
    rw [toPy]
    exact .int i
  | .str i, v, _, r => by
    cases (show v = .str i from r)
    rw [toPy]
    exact .str i
  | .tup ds, v, h, r => by
    obtain ⟨a, xs, rfl, h1, r1⟩ := r
    rw [toPy]
    exact .tup h1 (RpAll.dp (by rwa [pyOk] at h) r1)
  | .lst ds, v, h, r => by
    obtain ⟨a, xs, rfl, h1, _, r1⟩ := r
    rw [toPy]
    exact .lst (SqL.of h1) (RpAll.dp (by rwa [pyOk] at h) r1)
  | .scr _ _, _, h, _ => by rw [pyOk] at h; cases h
  | .bag, _, h, _ => by rw [pyOk] at h; cases h
  | .own _, _, h, _ => by rw [pyOk] at h; cases h
theorem RpAll.dp : ∀ {ds : List D} {vs : List V}, pyOks ds = true → RpAll K m C H ds vs → DpAll K H vs (toPys ds)
  | [], vs, _, r => by
    cases (show vs = [] from r)
    rw [toPys]
    exact .nil
  | d :: ds, vs, h, r => by
    obtain ⟨v, ws, rfl, r1, r2⟩ := r
    rw [pyOks, Bool.and_eq_true] at h
    rw [toPys]
    exact .cons (Rp.dp h.1 r1) (RpAll.dp h.2 r2)
end
end
/-- may be compared -/
def eqOk (d : D) : Bool := pyOk d && SeqAt.shaped (toPy d)
section
variable {X : Cx} {m : Md} {C : Addr} {δ : Dl} {a b : Expr} {x y : D} {j : Nat}
theorem ec_eqD {t : Bool} (hr : Room j X.A) (ha : Ev X m C δ a x) (hb : Ev X m C δ b y) (hx : eqOk x = true) (hy : eqOk y = true) (ht : PyData.eqv (toPy x) (toPy y) = t) : EvC X m C δ .Eq a b (.bl t) :=
  ec_op (op_eqD hr.units) ha hb fun u v σ H E r1 r2 Q q => by
    unfold eqOk at hx hy
    rw [Bool.and_eq_true] at hx hy
    exact ⟨_, _, r1.dp hx.1, r2.dp hy.1, hx.2, hy.2, q _ H (.refl m H) (by rw [ht]; rfl)⟩
theorem ec_neD {t : Bool} (hr : Room j X.A) (ha : Ev X m C δ a x) (hb : Ev X m C δ b y) (hx : eqOk x = true) (hy : eqOk y = true) (ht : PyData.eqv (toPy x) (toPy y) = t) : EvC X m C δ .NotEq a b (.bl (!t)) :=
  ec_op (op_neD hr.units) ha hb fun u v σ H E r1 r2 Q q => by
    unfold eqOk at hx hy
    rw [Bool.and_eq_true] at hx hy
    exact ⟨_, _, r1.dp hx.1, r2.dp hy.1, hx.2, hy.2, q _ H (.refl m H) (by rw [ht]; rfl)⟩
theorem ec_inD {ds : List D} {t : Bool} (hr : Room j X.A) (ha : Ev X m C δ a x) (hb : Ev X m C δ b (.lst ds)) (hx : eqOk x = true) (hy : eqOk (.lst ds) = true) (ht : (toPys ds).any (fun z => PyData.eqv z (toPy x)) = t) : EvC X m C δ .In a b (.bl t) :=
  ec_op (op_inD (by have := hr.un; omega)) ha hb fun u v σ H E r1 r2 Q q => by
    unfold eqOk at hx hy
    rw [Bool.and_eq_true] at hx hy
    refine ⟨toPy x, toPys ds, r1.dp hx.1, ?_, hx.2, ?_, q _ H (.refl m H) (by rw [ht]; rfl)⟩
    · have := r2.dp hy.1
      rwa [toPy] at this
    · have := hy.2
      rwa [toPy] at this
theorem eqOk_of {d : D} (h1 : pyOk d = true) (h2 : (toPy d).canLay0 = true) (h3 : (toPy d).depth ≤ 64) : eqOk d = true := by
  unfold eqOk SeqAt.shaped
  rw [h1, h2, decide_eq_true h3]
  rfl
end
end PB

/-! moved, the claims -/
namespace PB
open PySem PySem.Spec PyProof.Rows L2
open PP (Call Spot Word)
section
variable {X : Cx} {m : Md} {C : Addr} {δ : Dl} {a b e : Expr} {pos apos p1 : Pos} {d y : D} {fs : Int} {cs : List D} {k j : Nat} {nm m0 : Str} {F : List D → D → Prop} {Pr : D → Prop}
theorem ev_ixLP {i : Int} (ha : EvP X m C δ a Pr) (hb : Ev X m C δ b (.int i)) (h : ∀ d, Pr d → ∃ ds, d = .lst ds ∧ atI ds i = some y) (hs : PlainIx b := by exact fun _ _ => rfl) : Ev X m C δ (.Subscript a b pos) y := .mk fun σ H E Q q =>
  ofPE (pe_ix ix_list peW peW hs) (ha σ H E _ fun d u H1 hd l1 r1 => by
    obtain ⟨ds, rfl, hy⟩ := h d hd
    obtain ⟨p, xs, e1, h1, h0, r1⟩ := r1
    refine hb.go (E.le l1) fun v H2 l2 r2 => ?_
    obtain ⟨w, h3, r3⟩ := atI_rp (r1.le l2) hy
    exact ⟨p, xs, i, w, e1, r2, SqL.of (l2.keep _ _ h1 fun z => absurd (.inl z) h0), h3, q w H2 (l1.trans l2) r3⟩)
theorem em_f {pl : Sem Bool} (G : Mx X.prog X.w X.K X.mg X.base C m0 k 1 (det F)) (hr : Room j X.A) (cl : Cls X.K C) (h : Ev X m C δ e (.scr fs cs)) (hp : F [.scr fs cs] d) (hno : ∀ fs st, (scrFs fs st).lookup m0 = none) (hk : k ≤ j := by decide)
    (ht : eval (.Call (.Attribute e m0 apos) [] [] pos) X.env = (do
      let ov ← eval e X.env
      standAt apos.atName
      let (f, first) ← holding [ov] (getMethod ov m0 pl)
      callWith pos f first (backTo pos (starEach [] X.env)) (backToKw pos (keywordEach [] X.env))) := by rfl) : Ev X m C δ (.Call (.Attribute e m0 apos) [] [] pos) d := by
  obtain ⟨f, fd, ps, G, hm, hb⟩ := G.ex
  exact ev_meth0 (pl := pl) G (hr.mono hk) cl hm hb h hp hno ht
end
section
variable {P : Program} {w : World} {K : PySem.W.Frag} {mg : Str → Option Value} {base : Heap} {C : Addr}

/-! ### moved -/
def F_moved : List D → D → Prop := fun ds d => ∃ (fs rows : Int) (cs : List Call) (p : Int × Int), ds = [scD fs cs, .int rows, pD p] ∧ (∀ c ∈ cs, c.ok fs) ∧ cs.length ≤ 1000 ∧ PP.isPl fs rows p ∧ d = pD (PP.mvs fs rows cs p)
theorem sc_moved : FnScope ["script", "rows", "place"] ["script", "rows", "place"] (defScope (topS 27)) := ⟨rfl, rfl, rfl, by decide +kernel, rfl, by decide +kernel, by decide +kernel⟩
theorem fx_moved (T : Txt K w mg C) : Fx P w K mg base C "moved" 6 3 (det F_moved) :=
  fx_mk (k := 5) T.moved sc_moved rfl fun f cdv A outer s H E hr m ds R hn ⟨d, ⟨fs, rows, cs, p, hd, hok, hl, hpl, e⟩, hR⟩ => by
    subst hR e hd
    exact rt_ret (ev_ixLP (ec_fP (fx_passed T) hr (ea_cons (ev_name 0) (ea_cons (ev_name 1) (ea_cons (ev_name 2) ea_nil))) ⟨fs, rows, cs, p, rfl, hok, hl, hpl, rfl⟩) (ev_neg ev_int) fun z ⟨L, e, _⟩ => ⟨_, e, atI_last _ _⟩)

/-! ### check_straight, is_spot, place_at -/
def F_check_straight : List D → D → Prop := fun ds d => ∃ (fs : Int) (cs : List Call), ds = [scD fs cs] ∧ cs.length ≤ 1000 ∧ d = .non
theorem sc_check_straight : FnScope ["script"] ["script"] (defScope (topS 34)) := ⟨rfl, rfl, rfl, by decide +kernel, rfl, by decide +kernel, by decide +kernel⟩
theorem fx_check_straight (T : Txt K w mg C) : Fx P w K mg base C "check_straight" 4 1 (det F_check_straight) :=
  fx_mkN (k := 3) T.check_straight sc_check_straight rfl fun f cdv A outer s H E hr m ds R hn ⟨d, ⟨fs, cs, hd, hl, e⟩, hR⟩ => by
    subst hR e hd
    exact ⟨rfl, _, nxs_one (nx_ifF (et_not (et_val (em_f (mx_straight T) hr T.cl (ev_name 0) ⟨fs, cs, rfl, hl, rfl⟩ (lk_no (by decide +kernel) (by decide +kernel))))))⟩

def F_is_spot : List D → D → Prop := fun ds d => ∃ (fs : Int) (s : Spot), ds = [.int fs, sD s] ∧ s.ok fs ∧ d = .bl true
theorem sc_is_spot : FnScope ["files", "thing"] ["files", "thing"] (defScope (topS 33)) := ⟨rfl, rfl, rfl, by decide +kernel, rfl, by decide +kernel, by decide +kernel⟩
theorem fx_is_spot (T : Txt K w mg C) : Fx P w K mg base C "is_spot" 3 2 (det F_is_spot) :=
  fx_mk (k := 2) T.is_spot sc_is_spot rfl fun f cdv A outer s0 H E hr m ds R hn ⟨d, ⟨fs, s, hd, ⟨h1, h2, h3, h4⟩, e⟩, hR⟩ => by
    subst hR e hd
    obtain ⟨t, hm⟩ := T.mostRows
    refine rt_ifF (et_ww (ew_orF (et_not (et_val (ev_isi T.b.isi T.b.tuple (T := "tuple") (by decide +kernel) (ev_name 1) rfl (t := true) (by decide +kernel)))) (ew_orF (et_cmp (ec_ne (ev_lenT T.b.len (ev_name 1)) ev_int))
      (ew_or1 (et_not (et_val (ev_isi T.b.isi T.b.str (T := "str") (by decide +kernel) (ev_ixT (ev_name 1) ev_int) rfl (t := true) (by decide +kernel)))))))) (rt_ret (Ev.is (ev_and (t := true) (u := true) (Ev.is (ev_cmp (ec_inT (ev_ixT (ev_name 1) ev_int) (ev_tupK T.ends))) ?_) fun _ =>
      (ev_and (t := true) (u := true) (ec_f (fx_is_index T) hr (ea_cons (ev_ixT (ev_name 1) ev_int) (ea_cons (ev_globI hm) ea_nil)) ⟨s.row, 10, rfl, h1, h2, rfl⟩) fun _ => ev_one (ec_f (fx_is_index T) hr (ea_cons (ev_ixT (ev_name 1) ev_int) (ea_cons (ev_name 0) ea_nil)) ⟨s.file, fs, rfl, h3, h4, rfl⟩))) ?_))
    · cases s.back <;> rfl
    · rfl

def F_place_at : List D → D → Prop := fun ds d => ∃ (rows : Int) (s : Spot), ds = [.int rows, sD s] ∧ d = (if s.row ≥ rows then .non else pD (s.place rows))
theorem sc_place_at : FnScope ["rows", "spot", "end", "row", "file"] ["rows", "spot"] (defScope (topS 37)) := ⟨rfl, rfl, rfl, by decide +kernel, rfl, by decide +kernel, by decide +kernel⟩
theorem fx_place_at (T : Txt K w mg C) : Fx P w K mg base C "place_at" 1 2 (det F_place_at) :=
  fx_mk (k := 0) T.place_at sc_place_at rfl fun f cdv A outer s0 H E hr m ds R hn ⟨d, ⟨rows, s, hd, e⟩, hR⟩ => by
    subst hR e hd
    refine rt_cons (nx_un3 2 3 4 (ev_name 1) rfl sc_place_at.nd) ?_
    by_cases h : s.row ≥ rows
    · rw [if_pos h]
      exact rt_ifT (et_cmp (ec_ge (ev_name 3) (ev_name 0)) (decide_eq_true h)) (rt_ret ev_non)
    · rw [if_neg h]
      refine rt_ifF (et_cmp (ec_ge (ev_name 3) (ev_name 0)) (decide_eq_false h)) (rt_ret (Ev.is (ev_tup (ea_cons (d := .int (s.place rows).1) ?_ (ea_cons (ev_name 4) ea_nil))) rfl))
      unfold Spot.place
      cases hb : s.back with
      | true => exact ev_ifF (et_cmp (ec_eq (ev_name 2) ev_str) (by decide +kernel)) (ev_sub (ev_sub (ev_name 0) ev_int) (ev_name 3))
      | false => exact ev_ifT (et_cmp (ec_eq (ev_name 2) ev_str) (by decide +kernel)) (ev_name 3)

/-! ### is_claim, check_claim -/
/-- a claim about a script -/
structure ClOk (fs : Int) (cs : List Call) (c : PP.Claim) : Prop where
  files : fs = 2 ∨ fs = 3
  calls : ∀ d ∈ cs, d.ok fs
  few : cs.length ≤ 1000
  small : PP.sizes cs ≤ 1000
  spots : c.ok fs
  turns : (c.k.natAbs : Int) * PP.sizes cs ≤ 90
theorem spots_ok {fs : Int} {c : PP.Claim} (h : c.ok fs) : ∃ L : List Spot, spotsD c = L.map sD ∧ (∀ s ∈ L, s.ok fs) ∧ 1 ≤ L.length ∧ L.length ≤ 2 := by
  unfold spotsD
  cases hw : c.word with
  | leads => exact ⟨[c.one], rfl, fun s hs => by rw [List.mem_singleton.mp hs]; exact h.1, Nat.le_refl _, by simp⟩
  | at_ => exact ⟨[c.one, c.two], rfl, fun s hs => by
      rcases List.mem_cons.mp hs with e | hs
      · rw [e]; exact h.1
      · rw [List.mem_singleton.mp hs]; exact h.2 (by rw [hw]; decide), by simp, Nat.le_refl _⟩
  | beside => exact ⟨[c.one, c.two], rfl, fun s hs => by
      rcases List.mem_cons.mp hs with e | hs
      · rw [e]; exact h.1
      · rw [List.mem_singleton.mp hs]; exact h.2 (by rw [hw]; decide), by simp, Nat.le_refl _⟩
theorem spots_len (c : PP.Claim) : (wD c.word, ((spotsD c).length : Int)) ∈ ([("at", 2), ("beside", 2), ("leads", 1)] : List (Str × Int)) := by
  unfold spotsD
  cases c.word
  · exact .head _
  · exact .tail _ (.head _)
  · exact .tail _ (.tail _ (.head _))
theorem spots_cut (c : PP.Claim) : cutD (.str (wD c.word) :: .int c.k :: spotsD c) (some 2) none = spotsD c := by
  unfold spotsD
  cases c.word <;> rfl
theorem cl0 (c : PP.Claim) : atI (.str (wD c.word) :: .int c.k :: spotsD c) 0 = some (.str (wD c.word)) := by
  unfold spotsD
  cases c.word <;> rfl
theorem cl1 (c : PP.Claim) : atI (.str (wD c.word) :: .int c.k :: spotsD c) 1 = some (.int c.k) := by
  unfold spotsD
  cases c.word <;> rfl
theorem spots_pos (c : PP.Claim) : ¬ (((.str (wD c.word) :: .int c.k :: spotsD c : List D).length : Int) < 3) := by
  unfold spotsD
  cases c.word <;> simp
def F_is_claim : List D → D → Prop := fun ds d => ∃ (fs : Int) (cs : List Call) (c : PP.Claim), ds = [scD fs cs, clD c] ∧ ClOk fs cs c ∧ d = .bl true
theorem sc_is_claim : FnScope ["script", "thing", "spot"] ["script", "thing"] (defScope (topS 35)) := ⟨rfl, rfl, rfl, by decide +kernel, rfl, by decide +kernel, by decide +kernel⟩
theorem fx_is_claim (T : Txt K w mg C) : Fx P w K mg base C "is_claim" 5 2 (det F_is_claim) :=
  fx_mk (k := 4) T.is_claim sc_is_claim rfl fun f cdv A outer s0 H E hr m ds R hn ⟨d, ⟨fs, cs, c, hd, ok, e⟩, hR⟩ => by
    subst hR e hd
    obtain ⟨t, hm⟩ := T.mostTurns
    obtain ⟨L, hL, hLok, hL1, hL2⟩ := spots_ok ok.spots
    refine rt_cons (nx_expr (ec_f (fx_check_straight T) hr (ea_cons (ev_name 0) ea_nil) ⟨fs, cs, rfl, ok.few, rfl⟩)) ?_
    refine rt_ifF (et_ww (ew_orF (et_not (et_val (ev_isi T.b.isi T.b.tuple (T := "tuple") (by decide +kernel) (ev_name 1) rfl (t := true) (by decide +kernel)))) (ew_orF (et_cmp (ec_lt (ev_lenT T.b.len (ev_name 1)) ev_int) (decide_eq_false (spots_pos c)))
      (ew_or1 (et_not (et_val (ev_isi T.b.isi T.b.str (T := "str") (by decide +kernel) (ev_ixT (ev_name 1) ev_int (cl0 c)) rfl (t := true) (by decide +kernel)))))))) ?_
    refine rt_ifF (et_ww (ew_orF (et_cmp (ec_niK T.words (ev_ixT (ev_name 1) ev_int (cl0 c)) (.inl ⟨rfl, _, spots_len c⟩))) (ew_or1 (et_cmp (ec_ne (ev_lenT T.b.len (ev_name 1)) (ev_add ev_int (ev_ixK T.words (ev_ixT (ev_name 1) ev_int (cl0 c)) (spots_len c)))) ?_)))) ?_
    · rw [List.length_cons, List.length_cons, decide_eq_true (by congr 1; omega)]
      rfl
    refine rt_ifF (et_ww (ew_orF (et_not (et_val (ec_f (fx_is_integer T) hr (ea_cons (ev_ixT (ev_name 1) ev_int (cl1 c)) ea_nil) ⟨c.k, rfl, rfl⟩))) (ew_or1 (et_cmp (ec_gt (ev_mul (ev_abs T.b.abs (ev_ixT (ev_name 1) ev_int (cl1 c))) (ep_f (px_size T) hr T.cl (ev_name 0) ⟨fs, cs, rfl, ok.calls, ok.few, rfl⟩) ?_) (ev_globI hm)) (decide_eq_false ?_))))) ?_
    · have h1 := PP.sizes_nn cs
      have h2 := ok.small
      exact .inr ⟨by omega, by omega⟩
    · have := ok.turns
      omega
    refine rt_ret ((ev_all rfl T.b.all (ev_lcMB (j := 2) (L := L) sD (fun _ => true) (ei_tup ((ev_slT (ev_name 1) (eo_some ev_int) eo_none (spots_cut c)).is (by rw [hL]))) (by omega) rfl sc_is_claim.nd
        (blkOk_by (own := [("spot", 2)]) (N := ["script", "thing", "spot"]) (sc := defScope (topS 35)) (by decide +kernel)) (fun _ _ _ _ _ => pg_name (i := 2) sc_is_claim.nd rfl (Or.inl rfl)) ?_)).is (by simp))
    intro s hs p s' H0 Cc cl fp
    exact ec_f (fx_is_spot T) hr (ea_cons (ep_f (px_files T) hr T.cl (ev_name 0) ⟨fs, _, rfl, rfl⟩) (ea_cons (ev_name 2) ea_nil)) ⟨fs, s, rfl, hLok s hs, rfl⟩
def F_check_claim : List D → D → Prop := fun ds d => ∃ (fs : Int) (cs : List Call) (c : PP.Claim), ds = [scD fs cs, clD c] ∧ ClOk fs cs c ∧ d = .non
theorem sc_check_claim : FnScope ["script", "claim"] ["script", "claim"] (defScope (topS 36)) := ⟨rfl, rfl, rfl, by decide +kernel, rfl, by decide +kernel, by decide +kernel⟩
theorem fx_check_claim (T : Txt K w mg C) : Fx P w K mg base C "check_claim" 6 2 (det F_check_claim) :=
  fx_mkN (k := 5) T.check_claim sc_check_claim rfl fun f cdv A outer s H E hr m ds R hn ⟨d, ⟨fs, cs, c, hd, ok, e⟩, hR⟩ => by
    subst hR e hd
    exact ⟨rfl, _, nxs_one (nx_ifF (et_not (et_val (ec_f (fx_is_claim T) hr (ea_cons (ev_name 0) (ea_cons (ev_name 1) ea_nil)) ⟨fs, cs, c, rfl, ok, rfl⟩))))⟩
end
end PB

/-! after, is_so, holds, settled_at -/
namespace PB
open PySem PySem.Spec PyProof.Rows L2
open PP (Call Spot Word)
section
variable {X : Cx} {m : Md} {C : Addr} {δ : Dl} {elt iter : Expr} {scope : Scope} {pos px py spos : Pos} {n y : Str} {j : Nat}
theorem list_of_get {α β : Type} {L : List α} {es : List β} {h : α → β} (e2 : es.length = L.length) (e3 : ∀ (i : Nat) (d : β), es[i]? = some d → ∃ x, L[i]? = some x ∧ d = h x) : es = L.map h := by
  refine List.ext_getElem? fun i => ?_
  rw [List.getElem?_map]
  by_cases hlt : i < L.length
  · obtain ⟨x, h1, h2⟩ := e3 i _ (List.getElem?_eq_getElem (show i < es.length by omega))
    rw [List.getElem?_eq_getElem (show i < es.length by omega), h1, h2]
    rfl
  · rw [List.getElem?_eq_none (show es.length ≤ i by omega), List.getElem?_eq_none (show L.length ≤ i by omega)]
    rfl
/-- y = [h x for g x in t] -/
theorem nx_lcM {α : Type} {L : List α} (i : Nat) (g h : α → D) (hi : EvI X m C δ (.Name n px) iter (L.map g)) (hlen : L.length < 100000) (hc : X.calm = true) (hN : X.N.Nodup) (ok : BlkOk X.N X.env.scope scope [(n, j)]) (hg : BEvI X scope n j px)
    (he : ∀ x, x ∈ L → BEv X m C scope (δ.set j (some (g x))) elt (fun z => z = h x))
    (hsw : swapsWith (.ListComp elt [⟨.Name n px, iter, [], 0⟩] scope pos) (some (.Name y py)) spos.line X.env = pure true) (hy : X.N[i]? = some y := by rfl) (hyl : X.env.scope.names.lookup y = some .local := by rfl) (hs : ∀ x, foldedSetIterable iter X.env x = pure x := by intro _; rfl) :
    NxS X m C δ (.Assign [.Name y py] (.ListComp elt [⟨.Name n px, iter, [], 0⟩] scope pos) spos) (δ.set i (some (.lst (L.map h)))) := fun σ H E Dn q =>
  nx_lcP (R := fun i z => ∃ x, L[i]? = some x ∧ z = h x) i hi (by rw [List.length_map]; exact hlen) hc hN ok hg (fun i d hd p s H0 Cc cl fp => by
    rw [List.getElem?_map] at hd
    cases e : L[i]? with
    | none => rw [e] at hd; cases hd
    | some x =>
      rw [e] at hd
      cases hd
      exact EvP.imp (he x (List.mem_of_getElem? e) p s H0 Cc cl fp) fun z e2 => ⟨x, rfl, e2⟩) E (fun es v H1 ⟨e2, e3⟩ l r => by
    rw [list_of_get (by rw [e2, List.length_map]) e3] at r
    exact q _ H1 l ((E.le l).set r)) hsw hy hyl hs
end
section
variable {P : Program} {w : World} {K : PySem.W.Frag} {mg : Str → Option Value} {base : Heap} {C : Addr}
/-! ### after -/
def F_after : List D → D → Prop := fun ds d => ∃ (fs rows : Int) (cs : List Call) (p : Int × Int) (k : Int), ds = [scD fs cs, .int rows, pD p, .int k] ∧ (fs = 2 ∨ fs = 3) ∧ (∀ c ∈ cs, c.ok fs) ∧ cs.length ≤ 1000 ∧ PP.isPl fs rows p ∧ (cs = [] ∨ k.natAbs ≤ 1000) ∧ d = pD (PP.after fs rows cs k p)
theorem sc_after : FnScope ["script", "rows", "place", "rounds", "turned", "turn"] ["script", "rows", "place", "rounds"] (defScope (topS 38)) := ⟨rfl, rfl, rfl, by decide +kernel, rfl, by decide +kernel, by decide +kernel⟩
theorem turnedAll_len (cs : List Call) : (PP.turnedAll cs).length = cs.length := by
  unfold PP.turnedAll
  rw [List.length_map, List.length_reverse]
theorem fx_after (T : Txt K w mg C) : Fx P w K mg base C "after" 7 4 (det F_after) :=
  fx_mk (k := 6) T.after sc_after rfl fun f cdv A outer s H E hr m ds R hn ⟨d, ⟨fs, rows, cs, p, k, hd, hfs, hok, hl, hpl, hk, e⟩, hR⟩ => by
    subst hR e hd
    obtain ⟨fl, fdl, Gl, l1, l2, bl⟩ := ok_len (P := P) (base := base) T
    obtain ⟨fi, fdi, Gi, i1, i2, bi⟩ := ok_inv (P := P) (base := base) T
    unfold PP.after
    by_cases h0 : cs.length = 0
    · rw [if_pos h0]
      exact rt_ifT (et_cmp (ec_eq (ev_lenOwn l1 l2 Gl (hr.mono (by decide)) bl T.b.len (ev_name 0) ⟨fs, cs, rfl, rfl⟩ (by omega)) ev_int) (by rw [h0]; rfl)) (rt_ret (ev_name 2))
    · rw [if_neg h0]
      have hk' : k.natAbs ≤ 1000 := hk.elim (fun z => absurd (by rw [z]; rfl) h0) id
      refine rt_ifF (et_cmp (ec_eq (ev_lenOwn l1 l2 Gl (hr.mono (by decide)) bl T.b.len (ev_name 0) ⟨fs, cs, rfl, rfl⟩ (by omega)) ev_int) (dec_int_ne (by omega))) ?_
      have hdl : (PP.dirOf cs k).length ≤ 1000 := by
        unfold PP.dirOf
        split
        · exact hl
        · rw [turnedAll_len]; exact hl
      refine rt_cons (nx_set 4 (d := scD fs (PP.dirOf cs k)) ?_ sc_after.nd) ?_
      · unfold PP.dirOf
        by_cases hk0 : k > 0
        · rw [if_pos hk0]
          exact ev_ifT (et_cmp (ec_gt (ev_name 3) ev_int) (decide_eq_true hk0)) (ev_name 0)
        · rw [if_neg hk0]
          exact ev_ifF (et_cmp (ec_gt (ev_name 3) ev_int) (decide_eq_false hk0)) (ev_inv i1 i2 Gi hr bi (ev_name 0) ⟨fs, cs, rfl, hfs, hok, hl, rfl⟩)
      let fδ : Nat → Dl := fun i => [some (scD fs cs), some (.int rows), some (pD (PP.rnds fs rows (PP.dirOf cs k) i p)), some (.int k), some (scD fs (PP.dirOf cs k)), if i = 0 then none else some (.int (0 + ((i - 1 : Nat) : Int)))]
      refine rt_cons (nx_for (j := 5) fδ (ei_range1 T.b.range (ev_abs T.b.abs (ev_name 3)) (by omega)) rfl PassesOwn.never rfl sc_after.nd fun i d hd => ?_) ?_
      · have hi : i < k.natAbs := by
          have := (List.getElem?_eq_some_iff.mp hd).1
          rw [rngD_len] at this
          omega
        rw [rngD_get (by omega)] at hd
        cases hd
        exact nxs_one (nx_set (X := bodyCx P w K mg base ["script", "rows", "place", "rounds", "turned", "turn"] "after" (topS 38) f cdv A outer s H E) 2 (δ := (fδ i).set 5 (some (.int (0 + (i : Int))))) (ec_f (fx_moved T) hr (ea_cons (ev_name 4) (ea_cons (ev_name 1) (ea_cons (ev_name 2) ea_nil))) ⟨fs, rows, _, _, rfl, PP.dirOf_ok hok k, hdl, PP.rnds_pl (PP.dirOf_ok hok k) hpl i, rfl⟩) sc_after.nd)
      · rw [rngD_len, show ((k.natAbs : Int)).toNat = k.natAbs by omega]
        exact rt_ret (ev_name 2)
/-! ### is_so -/
def F_is_so : List D → D → Prop := fun ds d => ∃ (fs rows : Int) (cs : List Call) (c : PP.Claim), ds = [scD fs cs, .int rows, clD c] ∧ ClOk fs cs c ∧ d = .bl (PP.isSo fs rows cs c)
theorem sc_is_so : FnScope ["script", "rows", "claim", "places", "first", "spot"] ["script", "rows", "claim"] (defScope (topS 39)) := ⟨rfl, rfl, rfl, by decide +kernel, rfl, by decide +kernel, by decide +kernel⟩
theorem sizes_pos {fs : Int} : ∀ {cs : List Call}, (∀ c ∈ cs, c.ok fs) → cs ≠ [] → 1 ≤ PP.sizes cs
  | [], _, h => absurd rfl h
  | c :: cs, hok, _ => by
    have h1 := PP.sizes_nn cs
    have h2 : 1 ≤ c.size := by
      have := hok c List.mem_cons_self
      cases c <;> simp only [Call.size, Call.ok] at this ⊢ <;> omega
    show 1 ≤ c.size + PP.sizes cs
    omega
theorem ClOk.k_small {fs : Int} {cs : List Call} {c : PP.Claim} (h : ClOk fs cs c) : cs = [] ∨ c.k.natAbs ≤ 1000 := by
  by_cases e : cs = []
  · exact .inl e
  · have h1 := sizes_pos h.calls e
    have h2 := h.turns
    have h3 : (c.k.natAbs : Int) * 1 ≤ (c.k.natAbs : Int) * PP.sizes cs := Int.mul_le_mul_of_nonneg_left h1 (by omega)
    exact .inr (by omega)
def plD (rows : Int) (s : Spot) : D := if s.row ≥ rows then .non else pD (s.place rows)
theorem pl_py (rows : Int) (s : Spot) : eqOk (plD rows s) = true := by
  unfold plD
  split
  · exact eqOk_of rfl rfl (by decide)
  · exact eqOk_of rfl (by simp [toPy, toPys, pD, PyData.canLay0, PyData.canLayAll0]) (by simp [toPy, toPys, pD, PyData.depth, PyData.depthAll])
theorem pls_ok (rows : Int) (L : List Spot) : eqOk (.lst (L.map (plD rows))) = true := by
  have h : pyOks (L.map (plD rows)) = true ∧ PyData.canLayAll0 (toPys (L.map (plD rows))) = true ∧ PyData.depthAll (toPys (L.map (plD rows))) ≤ 1 := by
    induction L with
    | nil => exact ⟨rfl, by simp [toPys, PyData.canLayAll0], by simp [toPys, PyData.depthAll]⟩
    | cons s L ih =>
      obtain ⟨h1, h2, h3⟩ := ih
      have hs : pyOk (plD rows s) = true ∧ (toPy (plD rows s)).canLay0 = true ∧ (toPy (plD rows s)).depth ≤ 1 := by
        unfold plD
        split
        · exact ⟨rfl, by simp [toPy, PyData.canLay0], by simp [toPy, PyData.depth]⟩
        · exact ⟨rfl, by simp [toPy, toPys, pD, PyData.canLay0, PyData.canLayAll0], by simp [toPy, toPys, pD, PyData.depth, PyData.depthAll]⟩
      rw [List.map_cons, pyOks, toPys, PyData.canLayAll0, PyData.depthAll]
      exact ⟨by rw [hs.1, h1]; rfl, by rw [hs.2.1, h2]; rfl, by have := hs.2.2; omega⟩
  refine eqOk_of (by rw [pyOk]; exact h.1) (by rw [toPy, PyData.canLay0]; exact h.2.1) ?_
  rw [toPy, PyData.depth]
  have := h.2.2
  omega
theorem pl_none (rows : Int) (s : Spot) : PyData.eqv (toPy (plD rows s)) (toPy .non) = decide (s.row ≥ rows) := by
  unfold plD
  by_cases h : s.row ≥ rows
  · rw [if_pos h, decide_eq_true h]
    simp [toPy, PyData.eqv]
  · rw [if_neg h, decide_eq_false h]
    simp [toPy, pD, PyData.eqv]
theorem pls_none (rows : Int) : ∀ L : List Spot, ((toPys (L.map (plD rows))).any fun z => PyData.eqv z (toPy .non)) = L.any fun s => decide (s.row ≥ rows)
  | [] => by simp [toPys]
  | s :: L => by rw [List.map_cons, toPys, List.any_cons, List.any_cons, pl_none, pls_none rows L]
theorem p_ok (p : Int × Int) : eqOk (pD p) = true := eqOk_of rfl (by simp [toPy, toPys, pD, PyData.canLay0, PyData.canLayAll0]) (by simp [toPy, toPys, pD, PyData.depth, PyData.depthAll])
theorem p_eqv (p q : Int × Int) : PyData.eqv (toPy (pD p)) (toPy (pD q)) = decide (p = q) := by
  obtain ⟨a, b⟩ := p
  obtain ⟨c, d⟩ := q
  have e : PyData.eqv (toPy (pD (a, b))) (toPy (pD (c, d))) = ((a == c) && ((b == d) && true)) := by simp only [toPy, toPys, pD, PyData.eqv, PyData.eqvAll]
  rw [e, Bool.and_true]
  by_cases h1 : a = c
  · by_cases h2 : b = d
    · subst h1 h2
      simp
    · rw [decide_eq_false (fun z => h2 (Prod.mk.inj z).2)]
      simp [h2]
  · rw [decide_eq_false (fun z => h1 (Prod.mk.inj z).1)]
    simp [h1]
theorem dec_int_iff {i j : Int} : decide (V.int i = V.int j) = decide (i = j) := by
  by_cases h : i = j
  · rw [h]; simp
  · rw [dec_int_ne h, decide_eq_false h]
def spotL (c : PP.Claim) : List Spot := match c.word with
  | .leads => [c.one]
  | _ => [c.one, c.two]
theorem spots_eq (c : PP.Claim) : spotsD c = (spotL c).map sD := by
  unfold spotsD spotL
  cases c.word <;> rfl
theorem spotL_one (c : PP.Claim) : (spotL c)[0]? = some c.one := by
  unfold spotL
  cases c.word <;> rfl
theorem spotL_two {c : PP.Claim} (h : c.word ≠ .leads) : (spotL c)[1]? = some c.two := by
  unfold spotL
  cases hw : c.word
  · rfl
  · rfl
  · exact absurd hw h
theorem spotL_len (c : PP.Claim) : (spotL c).length ≤ 2 := by
  unfold spotL
  cases c.word <;> simp
theorem lacks_so {fs rows : Int} {cs : List Call} {c : PP.Claim} (h : ∃ s ∈ spotL c, s.row ≥ rows) : PP.isSo fs rows cs c = false := by
  obtain ⟨s, hs, hr⟩ := h
  unfold spotL at hs
  unfold PP.isSo
  cases hw : c.word <;> rw [hw] at hs <;> simp only [List.mem_cons, List.not_mem_nil, or_false] at hs <;> simp only
  · rw [if_pos (hs.imp (fun e => e ▸ hr) (fun e => e ▸ hr))]
  · rw [if_pos (hs.imp (fun e => e ▸ hr) (fun e => e ▸ hr))]
  · rw [if_pos (hs ▸ hr)]
theorem fx_is_so (T : Txt K w mg C) : Fx P w K mg base C "is_so" 8 3 (det F_is_so) :=
  fx_mk (k := 7) T.is_so sc_is_so rfl fun f cdv A outer s0 H E hr m ds R hn ⟨d, ⟨fs, rows, cs, c, hd, ok, e⟩, hR⟩ => by
    subst hR e hd
    have ks := ok.k_small
    have hlen := spotL_len c
    refine rt_cons (nx_lcM (L := spotL c) (j := 5) 3 sD (plD rows) (ei_tup ((ev_slT (ev_name 2) (eo_some ev_int) eo_none (spots_cut c)).is (by rw [spots_eq]))) (by omega) rfl sc_is_so.nd
        (blkOk_by (own := [("spot", 5)]) (N := ["script", "rows", "claim", "places", "first", "spot"]) (sc := defScope (topS 39)) (by decide +kernel)) (fun _ _ _ _ _ => pg_name (i := 5) sc_is_so.nd rfl (Or.inl rfl)) (fun s hs p s' H0 Cc cl fp => ?_) (sw_true rfl rfl rfl (by decide +kernel))) ?_
    · exact ec_f (fx_place_at T) hr (ea_cons (ev_name 1) (ea_cons (ev_name 5) ea_nil)) ⟨rows, s, rfl, rfl⟩
    by_cases hno : ∃ s ∈ spotL c, s.row ≥ rows
    · -- a spot lacks
      rw [lacks_so hno]
      exact rt_ifT (et_cmp (ec_inD hr ev_non (ev_name 3) (eqOk_of rfl rfl (by decide)) (pls_ok rows _) (t := true) (by rw [pls_none, List.any_eq_true]; obtain ⟨s, hs, h⟩ := hno; exact ⟨s, hs, decide_eq_true h⟩))) (rt_ret ev_bl)
    · refine rt_ifF (et_cmp (ec_inD hr ev_non (ev_name 3) (eqOk_of rfl rfl (by decide)) (pls_ok rows _) (t := false) (by rw [pls_none, List.any_eq_false]; intro s hs h; exact hno ⟨s, hs, of_decide_eq_true h⟩))) ?_
      have n1 : ¬ c.one.row ≥ rows := fun h => hno ⟨c.one, List.mem_of_getElem? (spotL_one c), h⟩
      have i0 : atI ((spotL c).map (plD rows)) 0 = some (pD (c.one.place rows)) := by
        have : ((spotL c).map (plD rows))[0]? = some (pD (c.one.place rows)) := by
          rw [List.getElem?_map, spotL_one]
          unfold plD
          rw [Option.map_some, if_neg n1]
        exact atI_nat (j := 0) this
      have pl1 : PP.isPl fs rows (c.one.place rows) := PP.Spot.pl ok.spots.1 n1
      refine rt_cons (nx_set 4 (ec_f (fx_after T) hr (ea_cons (ev_name 0) (ea_cons (ev_name 1) (ea_cons (ev_ixL (ev_name 3) ev_int i0) (ea_cons (ev_ixT (ev_name 2) ev_int (cl1 c)) ea_nil)))) ⟨fs, rows, cs, c.one.place rows, c.k, rfl, ok.files, ok.calls, ok.few, pl1, ks, rfl⟩) sc_is_so.nd) ?_
      cases hw : c.word with
      | at_ =>
        have n2 : ¬ c.two.row ≥ rows := fun h => hno ⟨c.two, List.mem_of_getElem? (spotL_two (by rw [hw]; decide)), h⟩
        have i1 : atI ((spotL c).map (plD rows)) 1 = some (pD (c.two.place rows)) := by
          have : ((spotL c).map (plD rows))[1]? = some (pD (c.two.place rows)) := by
            rw [List.getElem?_map, spotL_two (by rw [hw]; decide)]
            unfold plD
            rw [Option.map_some, if_neg n2]
          exact atI_nat (j := 1) this
        have e : PP.isSo fs rows cs c = decide (PP.after fs rows cs c.k (c.one.place rows) = c.two.place rows) := by
          unfold PP.isSo
          rw [hw]
          simp only
          rw [if_neg (fun h => h.elim n1 n2)]
        rw [e]
        exact rt_ifT (et_cmp (ec_eq (ev_ixT (ev_name 2) ev_int (cl0 c)) ev_str) (by rw [hw]; decide +kernel)) (rt_ret (ev_cmp (ec_eqD hr (ev_name 4) (ev_ixL (ev_name 3) ev_int i1) (p_ok _) (p_ok _) (p_eqv _ _))))
      | leads =>
        have e : PP.isSo fs rows cs c = decide ((PP.after fs rows cs c.k (c.one.place rows)).1 = 0) := by
          unfold PP.isSo
          rw [hw]
          simp only
          rw [if_neg n1]
        rw [e, ← dec_int_iff]
        exact rt_ifF (et_cmp (ec_eq (ev_ixT (ev_name 2) ev_int (cl0 c)) ev_str) (by rw [hw]; decide +kernel)) (rt_ifT (et_cmp (ec_eq (ev_ixT (ev_name 2) ev_int (cl0 c)) ev_str) (by rw [hw]; decide +kernel)) (rt_ret (ev_cmp (ec_eq (ev_ixT (ev_name 4) ev_int) ev_int))))
      | beside =>
        have n2 : ¬ c.two.row ≥ rows := fun h => hno ⟨c.two, List.mem_of_getElem? (spotL_two (by rw [hw]; decide)), h⟩
        have i1 : atI ((spotL c).map (plD rows)) 1 = some (pD (c.two.place rows)) := by
          have : ((spotL c).map (plD rows))[1]? = some (pD (c.two.place rows)) := by
            rw [List.getElem?_map, spotL_two (by rw [hw]; decide)]
            unfold plD
            rw [Option.map_some, if_neg n2]
          exact atI_nat (j := 1) this
        have pl2 : PP.isPl fs rows (c.two.place rows) := PP.Spot.pl (ok.spots.2 (by rw [hw]; decide)) n2
        have e : PP.isSo fs rows cs c = decide ((PP.after fs rows cs c.k (c.one.place rows)).1 = (PP.after fs rows cs c.k (c.two.place rows)).1) := by
          unfold PP.isSo
          rw [hw]
          simp only
          rw [if_neg (fun h => h.elim n1 n2)]
        rw [e, ← dec_int_iff]
        exact rt_ifF (et_cmp (ec_eq (ev_ixT (ev_name 2) ev_int (cl0 c)) ev_str) (by rw [hw]; decide +kernel)) (rt_ifF (et_cmp (ec_eq (ev_ixT (ev_name 2) ev_int (cl0 c)) ev_str) (by rw [hw]; decide +kernel)) (rt_ret (ev_cmp (ec_eq (ev_ixT (ev_name 4) ev_int)
          (ev_ixT (ec_f (fx_after T) hr (ea_cons (ev_name 0) (ea_cons (ev_name 1) (ea_cons (ev_ixL (ev_name 3) ev_int i1) (ea_cons (ev_ixT (ev_name 2) ev_int (cl1 c)) ea_nil)))) ⟨fs, rows, cs, c.two.place rows, c.k, rfl, ok.files, ok.calls, ok.few, pl2, ks, rfl⟩) ev_int)))))
/-! ### holds, settled_at -/
def F_holds : List D → D → Prop := F_is_so
theorem sc_holds : FnScope ["script", "rows", "claim"] ["script", "rows", "claim"] (defScope (topS 40)) := ⟨rfl, rfl, rfl, by decide +kernel, rfl, by decide +kernel, by decide +kernel⟩
theorem fx_holds (T : Txt K w mg C) : Fx P w K mg base C "holds" 9 3 (det F_holds) :=
  fx_mk (k := 8) T.holds sc_holds rfl fun f cdv A outer s0 H E hr m ds R hn ⟨d, ⟨fs, rows, cs, c, hd, ok, e⟩, hR⟩ => by
    subst hR e hd
    exact rt_cons (nx_expr (ec_f (fx_check_claim T) hr (ea_cons (ev_name 0) (ea_cons (ev_name 2) ea_nil)) ⟨fs, cs, c, rfl, ok, rfl⟩)) (rt_ret (ec_f (fx_is_so T) hr (ea_cons (ev_name 0) (ea_cons (ev_name 1) (ea_cons (ev_name 2) ea_nil))) ⟨fs, rows, cs, c, rfl, ok, rfl⟩))
def F_settled_at : List D → D → Prop := fun ds d => ∃ (fs : Int) (cs : List Call) (c : PP.Claim), ds = [scD fs cs, clD c] ∧ ClOk fs cs c ∧ d = .int (PP.settled cs c)
theorem sc_settled_at : FnScope ["script", "claim", "spot"] ["script", "claim"] (defScope (topS 41)) := ⟨rfl, rfl, rfl, by decide +kernel, rfl, by decide +kernel, by decide +kernel⟩
theorem deep_max (c : PP.Claim) : c.deep ∈ (spotL c).map Spot.row ∧ ∀ y ∈ (spotL c).map Spot.row, y ≤ c.deep := by
  unfold spotL PP.Claim.deep
  cases c.word <;> simp only [List.map_cons, List.map_nil, List.mem_cons, List.not_mem_nil, or_false]
  · constructor
    · split
      · exact .inr rfl
      · exact .inl rfl
    · rintro y (rfl | rfl) <;> split <;> omega
  · constructor
    · split
      · exact .inr rfl
      · exact .inl rfl
    · rintro y (rfl | rfl) <;> split <;> omega
  · exact ⟨trivial, fun y e => by omega⟩
theorem fx_settled_at (T : Txt K w mg C) : Fx P w K mg base C "settled_at" 4 2 (det F_settled_at) :=
  fx_mk (k := 3) T.settled_at sc_settled_at rfl fun f cdv A outer s0 H E hr m ds R hn ⟨d, ⟨fs, cs, c, hd, ok, e⟩, hR⟩ => by
    subst hR e hd
    have h1 := PP.sizes_nn cs
    have h2 := ok.small
    have hlen := spotL_len c
    have hm := deep_max c
    refine rt_ret (ev_add (ev_mul ev_int (ev_add (ev_mul (ev_abs T.b.abs (ev_ixT (ev_name 1) ev_int (cl1 c))) (ep_f (px_size T) hr T.cl (ev_name 0) ⟨fs, cs, rfl, ok.calls, ok.few, rfl⟩) (.inr ⟨by omega, by omega⟩)) (ev_maxL (k := c.deep) rfl T.b.max
      (ev_lcMI (L := spotL c) (j := 2) sD Spot.row (ei_tup ((ev_slT (ev_name 1) (eo_some ev_int) eo_none (spots_cut c)).is (by rw [spots_eq]))) (by omega) rfl sc_settled_at.nd (blkOk_by (own := [("spot", 2)]) (N := ["script", "claim", "spot"]) (sc := defScope (topS 41)) (by decide +kernel))
        (fun _ _ _ _ _ => pg_name (i := 2) sc_settled_at.nd rfl (Or.inl rfl)) (fun s hs p s' H0 Cc cl fp => ev_ixT (ev_name 2) ev_int)) hm.1 hm.2)) (.inl ⟨by decide, by decide⟩)) ev_int)
end
end PB

/-! plain mathematics: the answer to claims -/
namespace PP
/-- how far the lines are looked at -/
def lastOf (cs : List Call) : List Claim → Int
  | [] => 1
  | c :: cl => if settled cs c ≥ lastOf cs cl then settled cs c else lastOf cs cl
theorem lastOf_pos (cs : List Call) : ∀ cl : List Claim, 1 ≤ lastOf cs cl
  | [] => Int.le_refl 1
  | c :: cl => by
    have := lastOf_pos cs cl
    unfold lastOf
    split <;> omega
theorem lastOf_mem (cs : List Call) : ∀ cl : List Claim, lastOf cs cl ∈ cl.map (settled cs) ++ [1]
  | [] => List.mem_singleton.mpr rfl
  | c :: cl => by
    have := lastOf_mem cs cl
    unfold lastOf
    split
    · exact List.mem_cons_self
    · exact List.mem_cons_of_mem _ this
theorem lastOf_ge (cs : List Call) : ∀ (cl : List Claim), ∀ y ∈ cl.map (settled cs) ++ [1], y ≤ lastOf cs cl
  | [], y, h => by
    have : y = 1 := List.mem_singleton.mp h
    subst this
    exact Int.le_refl 1
  | c :: cl, y, h => by
    have ih := lastOf_ge cs cl y
    unfold lastOf
    rcases List.mem_cons.mp h with e | h
    · subst e
      split <;> omega
    · have := ih h
      split <;> omega
theorem lastOf_settled (cs : List Call) {cl : List Claim} {c : Claim} (h : c ∈ cl) : settled cs c ≤ lastOf cs cl := lastOf_ge cs cl _ (List.mem_append_left _ (List.mem_map_of_mem h))
theorem lastOf_bound (cs : List Call) {B : Int} (hB : 1 ≤ B) : ∀ {cl : List Claim}, (∀ c ∈ cl, settled cs c ≤ B) → lastOf cs cl ≤ B
  | [], _ => hB
  | c :: cl, h => by
    have h1 := lastOf_bound cs hB (cl := cl) fun d hd => h d (List.mem_cons_of_mem _ hd)
    have h2 := h c List.mem_cons_self
    unfold lastOf
    split <;> omega
/-- the same claims, in any order, some twice -/
theorem lastOf_same (cs : List Call) {cl cl' : List Claim} (h : ∀ c, c ∈ cl ↔ c ∈ cl') : lastOf cs cl = lastOf cs cl' :=
  Int.le_antisymm (lastOf_bound cs (lastOf_pos cs cl') fun c hc => lastOf_settled cs ((h c).mp hc)) (lastOf_bound cs (lastOf_pos cs cl) fun c hc => lastOf_settled cs ((h c).mpr hc))

def allSo (fs : Int) (cs : List Call) (cl : List Claim) (rows : Int) : Bool := cl.all fun c => isSo fs rows cs c
theorem allSo_same {fs : Int} {cs : List Call} {cl cl' : List Claim} (h : ∀ c, c ∈ cl ↔ c ∈ cl') (rows : Int) : allSo fs cs cl rows = allSo fs cs cl' rows := by
  unfold allSo
  rw [Bool.eq_iff_iff, List.all_eq_true, List.all_eq_true]
  exact ⟨fun a c hc => a c ((h c).mpr hc), fun a c hc => a c ((h c).mp hc)⟩

/-- from a line downward as long as the answer is the same -/
def stopAt (t : Nat → Bool) : Nat → Nat
  | 0 => 0
  | k + 1 => if t (k + 1) = true then stopAt t k else k + 1
theorem stopAt_le (t : Nat → Bool) : ∀ n, stopAt t n ≤ n
  | 0 => Nat.le_refl 0
  | k + 1 => by
    have := stopAt_le t k
    unfold stopAt
    split <;> omega
theorem stopAt_run (t : Nat → Bool) : ∀ n k, stopAt t n < k → k ≤ n → t k = true
  | 0, k, h1, h2 => by omega
  | n + 1, k, h1, h2 => by
    unfold stopAt at h1
    split at h1
    · rename_i ht
      by_cases e : k = n + 1
      · rw [e]; exact ht
      · exact stopAt_run t n k h1 (by omega)
    · omega
theorem stopAt_stop (t : Nat → Bool) (h0 : t 0 = false) : ∀ n, t (stopAt t n) = false
  | 0 => h0
  | n + 1 => by
    unfold stopAt
    split
    · exact stopAt_stop t h0 n
    · rename_i h
      exact Bool.eq_false_iff.mpr h
/-- the turn of the while loop: still the same one line further down -/
def goesOn (P : Int → Bool) (b : Bool) (k : Nat) : Bool := decide (1 < k) && (P ((k : Int) - 1) == b)
def firstOf (P : Int → Bool) (last : Int) : Int := (stopAt (goesOn P (P last)) last.toNat : Int)
theorem firstOf_le (P : Int → Bool) {last : Int} (h : 1 ≤ last) : firstOf P last ≤ last := by
  have := stopAt_le (goesOn P (P last)) last.toNat
  unfold firstOf
  omega
theorem firstOf_ge (P : Int → Bool) {last : Int} (h : 1 ≤ last) : 1 ≤ firstOf P last := by
  unfold firstOf
  by_cases e : stopAt (goesOn P (P last)) last.toNat = 0
  · have := stopAt_run (goesOn P (P last)) last.toNat 1 (by omega) (by omega)
    unfold goesOn at this
    simp at this
  · omega
/-- from the first line on up to the last one all is as on the last -/
theorem firstOf_same (P : Int → Bool) {last r : Int} (h1 : firstOf P last ≤ r) (h2 : r ≤ last) (hl : 1 ≤ last) : P r = P last := by
  have hg := firstOf_ge P hl
  by_cases e : r = last
  · rw [e]
  · have := stopAt_run (goesOn P (P last)) last.toNat (r.toNat + 1) (by unfold firstOf at h1; omega) (by omega)
    unfold goesOn at this
    rw [Bool.and_eq_true] at this
    have h3 := eq_of_beq this.2
    rw [show (((r.toNat + 1 : Nat) : Int) - 1) = r by omega] at h3
    exact h3
/-- and one line further down not so -/
theorem firstOf_other (P : Int → Bool) {last : Int} (hl : 1 ≤ last) (h : 1 < firstOf P last) : P (firstOf P last - 1) ≠ P last := by
  intro z
  have := stopAt_stop (goesOn P (P last)) (by unfold goesOn; simp) last.toNat
  have h' : 1 < stopAt (goesOn P (P last)) last.toNat := by
    unfold firstOf at h
    omega
  unfold firstOf at z
  generalize stopAt (goesOn P (P last)) last.toNat = k at this h' z
  unfold goesOn at this
  rw [z, decide_eq_true h'] at this
  simp at this
/-- lo, lo + 1, .. (n of them) -/
def intsF (lo : Int) (n : Nat) : List Int := (List.range n).map fun (i : Nat) => lo + (i : Int)
theorem mem_ints {lo : Int} {n : Nat} {x : Int} : x ∈ intsF lo n ↔ lo ≤ x ∧ x < lo + n := by
  unfold intsF
  rw [List.mem_map]
  constructor
  · rintro ⟨i, hi, rfl⟩
    have := List.mem_range.mp hi
    omega
  · intro ⟨h1, h2⟩
    exact ⟨(x - lo).toNat, List.mem_range.mpr (by omega), by omega⟩
theorem ints_len (lo : Int) (n : Nat) : (intsF lo n).length = n := by unfold intsF; simp
theorem ints_sorted (lo : Int) (n : Nat) : (intsF lo n).Pairwise (· < ·) := by
  unfold intsF
  rw [List.pairwise_map]
  exact List.Pairwise.imp (fun h => by omega) List.pairwise_lt_range
/-- the answer -/
structure Ans where
  some_ : List Int
  first : Int
  rest : Bool
def ansOf (P : Int → Bool) (last : Int) : Ans := ⟨(intsF 1 (firstOf P last - 1).toNat).filter P, firstOf P last, P last⟩
def Ans.in_ (a : Ans) (rows : Int) : Bool := if rows ≥ a.first then a.rest else a.some_.contains rows
theorem ans_in {P : Int → Bool} {last rows : Int} (hl : 1 ≤ last) (h1 : 1 ≤ rows) : (ansOf P last).in_ rows = if rows ≤ last then P rows else P last := by
  unfold Ans.in_ ansOf
  simp only
  by_cases h : rows ≥ firstOf P last
  · rw [if_pos h]
    by_cases h2 : rows ≤ last
    · rw [if_pos h2, firstOf_same P h h2 hl]
    · rw [if_neg h2]
  · have := firstOf_le P hl
    rw [if_neg h, if_pos (by omega)]
    rw [Bool.eq_iff_iff, List.contains_iff_mem, List.mem_filter, mem_ints]
    exact ⟨fun z => z.2, fun z => ⟨⟨h1, by omega⟩, z⟩⟩
theorem ansOf_congr {P P' : Int → Bool} {last : Int} (hl : 1 ≤ last) (h : ∀ r, 1 ≤ r → r ≤ last → P r = P' r) : ansOf P last = ansOf P' last := by
  have hlast := h last hl (Int.le_refl _)
  have st : ∀ n : Nat, (n : Int) ≤ last → stopAt (goesOn P (P last)) n = stopAt (goesOn P' (P' last)) n := by
    intro n
    induction n with
    | zero => intro _; rfl
    | succ n ih =>
      intro hn
      have e : goesOn P (P last) (n + 1) = goesOn P' (P' last) (n + 1) := by
        unfold goesOn
        by_cases h1 : 1 < n + 1
        · rw [h ((n + 1 : Nat) - 1 : Int) (by omega) (by omega), hlast]
        · rw [decide_eq_false h1, Bool.false_and, Bool.false_and]
      unfold stopAt
      rw [e, ih (by omega)]
  have ef : firstOf P last = firstOf P' last := by
    unfold firstOf
    rw [st _ (by omega)]
  unfold ansOf
  rw [ef, hlast]
  congr 1
  refine List.filter_congr fun x hx => ?_
  have := mem_ints.mp hx
  have h2 := firstOf_le P' hl
  exact h x this.1 (by omega)
end PP

/-! answer_of, answer, answer_all -/
namespace PB
open PySem PySem.Spec PyProof.Rows L2
open PP (Call Spot Word)
section
variable {X : Cx} {m : Md} {C : Addr} {δ : Dl} {elt iter c : Expr} {scope : Scope} {pos px py spos : Pos} {n y : Str} {j : Nat} {body : List Stmt}
/-- a while loop that counts down -/
theorem nx_while (f : Nat → Dl) (t : Nat → Bool) (N : Nat) (h0 : f N = δ) (ht0 : t 0 = false) (hp : PassesOwn (model X.prog X.w) X.A X.env X.xe) (hc : ∀ k, k ≤ N → EvT X m C (f k) c (t k)) (hb : ∀ k, k < N → t (k + 1) = true → Nxs X m C (f (k + 1)) body (f k)) :
    NxS X m C δ (.While c body [] pos) (f (PP.stopAt t N)) := fun σ H E Dn q => by
  refine ofPS (ps_while hp ptW pssW) ?_
  refine ⟨fun k σ' H' => k ≤ N ∧ PP.stopAt t k = PP.stopAt t N ∧ Le m H H' ∧ Sl X.K m C H' σ' (f k), ⟨N, Nat.le_refl _, rfl, .refl m H, by rw [h0]; exact E⟩, ?_⟩
  rintro k σ' H' ⟨hk, hs, l, E'⟩
  refine hc k hk σ' H' E' _ fun H1 l1 => ?_
  cases k with
  | zero =>
    rw [ht0]
    refine iteF (q σ' H1 (l.trans l1) ?_)
    rw [← hs]
    exact E'.le l1
  | succ k =>
    cases e : t (k + 1) with
    | true =>
      refine iteT ⟨fun σ2 H2 => Le m H H2 ∧ Sl X.K m C H2 σ2 (f k), fun σ2 H2 ⟨l2, E2⟩ => ⟨k, by omega, by omega, ?_, l2, E2⟩, ?_⟩
      · have e2 : PP.stopAt t (k + 1) = PP.stopAt t k := by rw [PP.stopAt, if_pos e]
        rw [← hs, e2]
      · exact hb k (by omega) e _ _ (E'.le l1) _ fun σ3 H3 l3 E3 => ⟨(l.trans l1).trans l3, E3⟩
    | false =>
      refine iteF (q σ' H1 (l.trans l1) ?_)
      have e2 : PP.stopAt t (k + 1) = k + 1 := by rw [PP.stopAt, if_neg (by rw [e]; decide)]
      rw [← hs, e2]
      exact E'.le l1
/-- [e for x in t if c]: a new list -/
theorem lcIf_new {ds : List D} {cnd : Expr} (f : D → D) (p : D → Bool) (hi : EvI X m C δ (.Name n px) iter ds) (hlen : ds.length < 100000) (hc : X.calm = true) (hN : X.N.Nodup) (ok : BlkOk X.N X.env.scope scope [(n, j)]) (hg : BEvI X scope n j px)
    (ht : ∀ d, d ∈ ds → BEvT X m C scope (δ.set j (some d)) cnd (p d)) (he : ∀ d, d ∈ ds → p d = true → BEv X m C scope (δ.set j (some d)) elt (fun z => z = f d)) {σ : L2.St} {H : Hp} (E : Sl X.K m C H σ δ) {Q : VK}
    (q : ∀ a vs H', Le m H H' → H a = none → H' a = some (.lst vs) → RpAll X.K m C H' ((ds.filter p).map f) vs → Q (.ref a) H') (hs : ∀ x, foldedSetIterable iter X.env x = pure x := by intro _; rfl) :
    wE X (.ListComp elt [⟨.Name n px, iter, [cnd], 0⟩] scope pos) σ H Q := by
  obtain ⟨wi, pi, hiT⟩ := hi
  refine ofPE (pe_lc (own := [(n, j)]) (tt := bT X scope cnd) (te := bE X scope elt) hc hN pi ok hg (fun s H Cc cl fp => pts_one ⟨fun pins s' σ' H' Q' I h => h s H Cc cl fp pins s' I⟩) (fun s H Cc cl fp => ⟨fun pins s' σ' H' Q' I h => h s H Cc cl fp pins s' I⟩) hs) ?_
  refine hiT σ H E _ fun J H1 l1 w D hD => ?_
  have E1 := E.le l1
  refine lc_walk (fun i H' => Got X.K m C H1 D (fun es => es = ((ds.take i).filter p).map f) H') w (fun i H' g => g.pers) (.start hD rfl) (fun i d x H' hd rd g => ?_) fun H' g => ?_
  · have hm : d ∈ ds := List.mem_of_getElem? hd
    have hi : i < ds.length := (List.getElem?_eq_some_iff.mp hd).1
    have E2 := E1.slot (j := j) rd
    have tk : ds.take (i + 1) = ds.take i ++ [d] := by rw [List.take_add_one, hd]; rfl
    refine ⟨wipe_slot, fun s H0 Cc cl fp => ht d hm D s H0 Cc cl fp _ H' (g.sl E2) _ fun H3 l3 => ?_⟩
    have g3 := g.le E2 l3
    cases hp : p d with
    | true =>
      refine iteT ?_
      refine got_turn (R := fun z => z = f d) (fun es e => ?_) E2 (he d hm hp) (fun es z e1 e2 => ?_) g3
      · rw [e, List.length_map]
        have h1 := List.length_filter_le p (ds.take i)
        have h2 : (ds.take i).length ≤ i := by rw [List.length_take]; omega
        omega
      · rw [e1, e2, tk, List.filter_append, List.map_append, List.filter_cons, if_pos hp]
        rfl
    | false =>
      refine iteF (g3.imp fun es e => ?_)
      rw [e, tk, List.filter_append, List.map_append, List.filter_cons, if_neg (by rw [hp]; decide)]
      simp
  · obtain ⟨g1, g2, es, acc, g3, g4, e⟩ := g
    rw [List.take_length] at e
    rw [e] at g4
    have l2 := g2.leave g1
    exact q D acc H' (l1.trans l2) (E.back l1 g1) g3 g4.shrink
end

/-! ### an answer: the list in it is new -/
def Told (H H' : Hp) (p : Addr) (a : PP.Ans) : Prop := ∃ q, H q = none ∧ H p = none ∧ H' p = some (.tup [.ref q, .int a.first, .bl a.rest]) ∧ H' q = some (.lst (a.some_.map V.int))
def tD (a : PP.Ans) : D := .tup [.lst (a.some_.map D.int), .int a.first, .bl a.rest]
theorem Told.rp {K : PySem.W.Frag} {m : Md} {C : Addr} {H H' : Hp} {p : Addr} {a : PP.Ans} {σ : L2.St} {δ : Dl} (t : Told H H' p a) (E : Sl K m C H σ δ) : Rp K m C H' (tD a) (.ref p) := by
  obtain ⟨q, h1, h2, h3, h4⟩ := t
  exact ⟨p, _, rfl, SqT.of h3, _, _, rfl, ⟨q, _, rfl, h4, E.new h1, .ints⟩, _, _, rfl, rfl, _, _, rfl, rfl, rfl⟩
theorem Told.back {K : PySem.W.Frag} {m : Md} {C : Addr} {H H1 H' : Hp} {p : Addr} {a : PP.Ans} {σ : L2.St} {δ : Dl} (t : Told H1 H' p a) (E : Sl K m C H σ δ) (l : Le m H H1) : Told H H' p a := by
  obtain ⟨q, h1, h2, h3, h4⟩ := t
  exact ⟨q, E.back l h1, E.back l h2, h3, h4⟩
def EvN (X : Cx) (m : Md) (C : Addr) (δ : Dl) (e : Expr) (a : PP.Ans) : Prop := ∀ σ H, Sl X.K m C H σ δ → ∀ Q : VK, (∀ p H2, Le m H H2 → Told H H2 p a → Q (.ref p) H2) → wE X e σ H Q
def RtN (X : Cx) (m : Md) (C : Addr) (δ : Dl) (sts : List Stmt) (a : PP.Ans) : Prop := ∀ σ H, Sl X.K m C H σ δ → ∀ Dn : Ends, (∀ p H2, Le m H H2 → Told H H2 p a → Dn.rt (.ref p) H2) → wSs X sts Dn σ H
section
variable {X : Cx} {m : Md} {C : Addr} {δ δ' : Dl} {e : Expr} {es : List Expr} {pos p1 : Pos} {st : Stmt} {sts : List Stmt} {a : PP.Ans} {ds : List D} {k j n : Nat} {f : Addr} {fd : FuncData} {ps : List Str} {nm : Str}
theorem EvN.ev (h : EvN X m C δ e a) : Ev X m C δ e (tD a) := .mk fun σ H E Q q => h σ H E Q fun p H2 l t => q _ H2 l (t.rp E)
theorem rn_cons (h : NxS X m C δ st δ') (h2 : RtN X m C δ' sts a) : RtN X m C δ (st :: sts) a := fun σ H E Dn q =>
  ofPSs (pss_cons psW pssW) (h σ H E _ fun σ' H' l E' => h2 σ' H' E' Dn fun p H2 l2 t => q p H2 (l.trans l2) (t.back E l))
theorem rn_ret (h : EvN X m C δ e a) : RtN X m C δ (.Return (some e) pos :: sts) a := fun σ H E Dn q =>
  ofPSs (pss_cons (u := tNever) (ps_ret peW) pss_never) (h σ H E _ fun p H2 l r => q p H2 l r)
def spN (K : PySem.W.Frag) (C : Addr) (n : Nat) (Pr : List D → PP.Ans → Prop) : Sp := fun vs H Q _ => ∃ (m : Md) (ds : List D) (a : PP.Ans), ds.length = n ∧ (∀ p, m.bag = some p → BagAt H m.more p) ∧ (∀ a ∈ m.more, H a ≠ none) ∧
  RpAll K m C H ds vs ∧ Pr ds a ∧ ∀ p H', Le m H H' → Told H H' p a → Q (.ref p) H'
structure Nx (P : Program) (w : World) (K : PySem.W.Frag) (mg : Str → Option Value) (base : Heap) (C : Addr) (nm : Str) (k n : Nat) (Pr : List D → PP.Ans → Prop) : Prop where
  ex : ∃ f fd ps, FnOk P w K mg base CX0 k f fd ps (spN K C n Pr) ∧ mg nm = some (.ref f) ∧ PySem.W.keepIn K (.ref f) = true ∧ Binds K fd ps []
theorem nn_mk {P : Program} {w : World} {K : PySem.W.Frag} {mg : Str → Option Value} {base : Heap} {C : Addr} {gn : Str} {st : Stmt} {N : List Str} {Pr : List D → PP.Ans → Prop} (Df : DefAs K mg gn nm st ps) (S : FnScope N ps (defScope st)) (hn : n = ps.length)
    (hb : ∀ (f : Addr) (cdv : Value) (A : Around) (outer : List Env) (s : Shared) (H : Hp) (E : XK), Room k (A.deeper (envOfC nm (defScope st) s.heap.objs.size f cdv)) → ∀ (m : Md) (ds : List D) (a : PP.Ans), ds.length = n → Pr ds a →
      RtN (bodyCx P w K mg base N nm st f cdv A outer s H E) m C (dl0 N ds) (defBody st) a) : Nx P w K mg base C gn (k + 1) n Pr := by
  obtain ⟨f, fd, F, h1, h2⟩ := Df.ex
  refine ⟨f, fd, ps, F.ok S (fun vs H Q E h => ?_) (fun cdv A outer s H vs Q E hr h => ?_), h1, F.kp, h2⟩
  · obtain ⟨m, ds, R, hl, _, _, r, _⟩ := h
    rw [r.length, hl, hn]
  · obtain ⟨m, ds, a, hl, h1, h2, r, hp, q⟩ := h
    exact ⟨_, pssW, hb f cdv A outer s H E hr m ds a hl hp _ _ (start_sl h1 h2 r) _ fun p H' l rr => q p H' l rr⟩
theorem en_f {Pr : List D → PP.Ans → Prop} (G : Nx X.prog X.w X.K X.mg X.base C nm k n Pr) (hr : Room j X.A) (ha : EvA X m C δ (e :: es) (fun z => z = ds)) (hp : Pr ds a) (hk : k ≤ j := by decide) (hn : ds.length = n := by rfl)
    (hg : Gl X nm := by rfl) (hdb : (nm == ("__debug__" : Str)) = false := by decide) (he : starEach (e :: es) X.env = (false, eval e X.env) :: starEach es X.env := by rfl) (hpl : (backTo pos (starEach es X.env)).any (·.1) = false := by rfl) :
    EvN X m C δ (.Call (.Name nm p1) (e :: es) [] pos) a := by
  obtain ⟨f, fd, ps, G, hm, hkp, hb⟩ := G.ex
  exact fun σ H E Q q => ofPE (pe_call G (hr.mono hk) hg hm hkp hb .nil pass0 paW hdb he hpl) (ha.go E fun vs H1 l1 r1 => ⟨m, ds, a, hn, (E.le l1).bag, (E.le l1).more, by rw [List.append_nil]; exact r1, hp, fun p H' l t => q p H' (l1.trans l) (t.back E l1)⟩)
end
end PB

/-! answer_of, answer, answer_all -/
namespace PB
open PySem PySem.Spec PyProof.Rows L2
open PP (Call Spot Word)
theorem EvI.is {X : Cx} {m : Md} {C : Addr} {δ : Dl} {tg e : Expr} {ds ds' : List D} (h : EvI X m C δ tg e ds) (q : ds = ds') : EvI X m C δ tg e ds' := q ▸ h
theorem settled_le {fs : Int} {cs : List Call} {c : PP.Claim} (h : ClOk fs cs c) : PP.settled cs c ≤ 205 := by
  have h1 := h.turns
  have h2 := h.spots
  unfold PP.settled PP.Claim.deep
  obtain ⟨⟨a1, a2, a3⟩, b⟩ := h2
  cases hw : c.word with
  | leads => simp only; omega
  | at_ =>
    obtain ⟨b1, b2, b3⟩ := b (by rw [hw]; decide)
    simp only
    split <;> omega
  | beside =>
    obtain ⟨b1, b2, b3⟩ := b (by rw [hw]; decide)
    simp only
    split <;> omega
def aOf (fs : Int) (cs : List Call) (cl : List PP.Claim) : PP.Ans := PP.ansOf (PP.allSo fs cs cl) (PP.lastOf cs cl)
theorem lastOf_le {fs : Int} {cs : List Call} {cl : List PP.Claim} (h : ∀ c ∈ cl, ClOk fs cs c) : PP.lastOf cs cl ≤ 205 := PP.lastOf_bound cs (by decide) fun c hc => settled_le (h c hc)
theorem rngD_ints (lo : Int) (n : Nat) : rngD lo n = (PP.intsF lo n).map D.int := by
  unfold rngD PP.intsF
  rw [List.map_map]
  rfl
theorem ints_get {lo : Int} {n i : Nat} (h : i < n) : (PP.intsF lo n)[i]? = some (lo + (i : Int)) := by
  unfold PP.intsF
  rw [List.getElem?_map, List.getElem?_range h]
  rfl
theorem fnd_at (P : Int → Bool) {n : Nat} {r : Int} (h1 : 1 ≤ r) (h2 : r ≤ (n : Int)) : atI (((PP.intsF 1 n).map P).map D.bl) (r - 1) = some (.bl (P r)) := by
  have : (((PP.intsF 1 n).map P).map D.bl)[(r - 1).toNat]? = some (.bl (P r)) := by
    rw [List.getElem?_map, List.getElem?_map, ints_get (by omega)]
    show some (D.bl (P (1 + (((r - 1).toNat : Nat) : Int)))) = _
    rw [show 1 + (((r - 1).toNat : Nat) : Int) = r by omega]
  have h := atI_nat this
  rwa [show (((r - 1).toNat : Nat) : Int) = r - 1 by omega] at h
theorem fnd_last (P : Int → Bool) {n : Nat} (h1 : 1 ≤ n) : atI (((PP.intsF 1 n).map P).map D.bl) (-1) = some (.bl (P n)) := by
  unfold atI
  have hl : (((PP.intsF 1 n).map P).map D.bl).length = n := by rw [List.length_map, List.length_map, PP.ints_len]
  have e : ixN (((PP.intsF 1 n).map P).map D.bl).length (-1) = some (n - 1) := by
    rw [hl]
    unfold ixN
    rw [if_neg (by omega), if_pos (by omega)]
    congr 1
    omega
  rw [e]
  show (((PP.intsF 1 n).map P).map D.bl)[n - 1]? = _
  rw [List.getElem?_map, List.getElem?_map, ints_get (by omega)]
  show some (D.bl (P (1 + ((n - 1 : Nat) : Int)))) = _
  rw [show 1 + ((n - 1 : Nat) : Int) = n by omega]
theorem dec_bl (a b : Bool) : decide (V.bl a = V.bl b) = (a == b) := by cases a <;> cases b <;> decide
def lcScope (d : Scope) : Expr → Scope
  | .ListComp _ _ sc _ => sc
  | _ => d
def rhsOf (d : Expr) : Stmt → Expr
  | .Assign _ e _ => e
  | .Return (some e) _ => e
  | _ => d
/-- the block of the comprehension that is the right side of statement i -/
def lcAt (st : Stmt) (i : Nat) : Scope := lcScope (defScope st) (rhsOf (.Constant .none 0 ⟨0, 0, 0, 0⟩) ((defBody st).getD i (.Pass ⟨0, 0, 0, 0⟩)))
def onInt (P : Int → Bool) : D → Bool
  | .int r => P r
  | _ => false
theorem onInt_filter (P : Int → Bool) : ∀ ns : List Int, (ns.map D.int).filter (onInt P) = (ns.filter P).map D.int
  | [] => rfl
  | n :: ns => by
    rw [List.map_cons, List.filter_cons, List.filter_cons, onInt_filter P ns]
    show (if P n = true then _ else _) = _
    split <;> rfl
section
variable {P : Program} {w : World} {K : PySem.W.Frag} {mg : Str → Option Value} {base : Heap} {C : Addr}
def F_answer_of : List D → PP.Ans → Prop := fun ds a => ∃ (fs : Int) (cs : List Call) (cl : List PP.Claim), ds = [scD fs cs, .lst (cl.map clD)] ∧ (∀ c ∈ cl, ClOk fs cs c) ∧ cl.length ≤ 1000 ∧ a = aOf fs cs cl
abbrev nAO : List Str := ["script", "claims", "last", "found", "first", "rows", "claim"]
theorem sc_answer_of : FnScope nAO ["script", "claims"] (defScope (topS 42)) := ⟨rfl, rfl, rfl, by decide +kernel, rfl, by decide +kernel, by decide +kernel⟩
theorem fx_answer_of (T : Txt K w mg C) : Nx P w K mg base C "answer_of" 9 2 F_answer_of :=
  nn_mk (k := 8) T.answer_of sc_answer_of rfl fun f cdv A outer s0 H E hr m ds a hn ⟨fs, cs, cl, hd, ok, hl, e⟩ => by
    subst e hd
    have hL := PP.lastOf_pos cs cl
    have hL2 := lastOf_le ok
    have hans : aOf fs cs cl = PP.ansOf (PP.allSo fs cs cl) (PP.lastOf cs cl) := rfl
    rw [hans]
    generalize hlast : PP.lastOf cs cl = last at hL hL2
    obtain ⟨N, rfl⟩ : ∃ N : Nat, last = (N : Int) := ⟨last.toNat, by omega⟩
    refine rn_cons (nx_set 2 (d := .int (N : Int)) ?_ sc_answer_of.nd) ?_
    · refine ev_maxL (ns := cl.map (PP.settled cs) ++ [1]) rfl T.b.max ((ev_catL (ev_lcMI (L := cl) (j := 6) clD (PP.settled cs) (ei_lst (ev_name 1)) (by omega) rfl sc_answer_of.nd
        (blkOk_by (own := [("claim", 6)]) (N := nAO) (sc := defScope (topS 42)) (by decide +kernel)) (fun _ _ _ _ _ => pg_name (i := 6) sc_answer_of.nd rfl (Or.inl rfl)) (fun c hc p s' H0 Cc cl' fp => ?_)) (ev_lst (ea_cons ev_int ea_nil)) ?_).is ?_) ?_ ?_
      · exact ec_f (fx_settled_at T) hr (ea_cons (ev_name 0) (ea_cons (ev_name 6) ea_nil)) ⟨fs, cs, c, rfl, ok c hc, rfl⟩
      · rw [List.length_map, List.length_map, List.length_singleton]
        omega
      · rw [List.map_append]
        rfl
      · rw [← hlast]
        exact PP.lastOf_mem cs cl
      · rw [← hlast]
        exact PP.lastOf_ge cs cl
    refine rn_cons (nx_set 3 (d := .lst (((PP.intsF 1 N).map (PP.allSo fs cs cl)).map D.bl)) ?_ sc_answer_of.nd) ?_
    · refine ev_lcMB (L := PP.intsF 1 N) (j := 5) D.int (PP.allSo fs cs cl) (EvI.is (ei_range2 T.b.range ev_int (ev_add (ev_name 2) ev_int) (by omega)) (by rw [rngD_ints, show ((N : Int) + 1 - 1).toNat = N by omega])) (by rw [PP.ints_len]; omega) rfl sc_answer_of.nd
        (blkOk_by (own := [("rows", 5)]) (N := nAO) (sc := defScope (topS 42)) (by decide +kernel)) (fun _ _ _ _ _ => pg_name (i := 5) sc_answer_of.nd rfl (Or.inr rfl)) (fun r hr' p s' H0 Cc cl' fp => ?_)
      refine (ev_all rfl T.b.all (ev_lcMB (L := cl) (j := 6) clD (fun c => PP.isSo fs r cs c) (ei_lst (ev_name 1)) (by omega) rfl sc_answer_of.nd
        (blkOk_by (own := [("claim", 6)]) (N := nAO) (sc := relS (lcAt (topS 42) 1) (defScope (topS 42))) (by decide +kernel)) (fun _ _ _ _ _ => pg_name (i := 6) sc_answer_of.nd rfl (Or.inl rfl)) (fun c hc p s' H0 Cc cl' fp => ?_))).is ?_
      · exact ec_f (fx_is_so T) hr (ea_cons (ev_name 0) (ea_cons (ev_name 5) (ea_cons (ev_name 6) ea_nil))) ⟨fs, r, cs, c, rfl, ok c hc, rfl⟩
      · unfold PP.allSo
        rw [List.all_map]
        rfl
    refine rn_cons (nx_set 4 (d := .int (N : Int)) (ev_name 2) sc_answer_of.nd) ?_
    let fδ : Nat → Dl := fun k => [some (scD fs cs), some (.lst (cl.map clD)), some (.int (N : Int)), some (.lst (((PP.intsF 1 N).map (PP.allSo fs cs cl)).map D.bl)), some (.int (k : Int)), none, none]
    refine rn_cons (nx_while fδ (PP.goesOn (PP.allSo fs cs cl) (PP.allSo fs cs cl N)) N rfl rfl PassesOwn.never (fun k hk => ?_) fun k hk ht => ?_) ?_
    · refine et_ww (ew_and (et_cmp (ec_gt (ev_name 4) ev_int) (decide_eq_decide.mpr (by omega))) fun h1 => ew_and1 (et_cmp (ec_eq (ev_ixL (d := .bl (PP.allSo fs cs cl ((k : Int) - 1))) (ev_name 3) (ev_sub (ev_name 4) ev_int) ?_) (ev_ixL (ev_name 3) (ev_neg ev_int) (fnd_last _ (by omega)))) (dec_bl _ _)))
      have h1 := of_decide_eq_true h1
      have h := fnd_at (PP.allSo fs cs cl) (n := N) (r := (k : Int) - 1) (by omega) (by omega)
      rwa [show (k : Int) - 1 - 1 = (k : Int) - 2 by omega] at h
    · exact nxs_one (nx_set 4 (d := .int (k : Int)) ((ev_sub (ev_name 4) ev_int).is (by congr 1; omega)) sc_answer_of.nd)
    have hf1 := PP.firstOf_ge (PP.allSo fs cs cl) hL
    have hf2 := PP.firstOf_le (PP.allSo fs cs cl) hL
    have hf : PP.firstOf (PP.allSo fs cs cl) N = (PP.stopAt (PP.goesOn (PP.allSo fs cs cl) (PP.allSo fs cs cl N)) N : Int) := rfl
    have ha : PP.ansOf (PP.allSo fs cs cl) N = ⟨(PP.intsF 1 (PP.firstOf (PP.allSo fs cs cl) N - 1).toNat).filter (PP.allSo fs cs cl), PP.firstOf (PP.allSo fs cs cl) N, PP.allSo fs cs cl N⟩ := rfl
    rw [ha]
    rw [hf] at hf1 hf2 ⊢
    generalize PP.stopAt (PP.goesOn (PP.allSo fs cs cl) (PP.allSo fs cs cl N)) N = F at hf1 hf2
    refine rn_ret fun σ H1 E1 Q q => ofPE (pe_tup paW) (ofPA (pa_cons peW paW rfl) (lcIf_new (X := bodyCx P w K mg base nAO "answer_of" (topS 42) f cdv A outer s0 H E) (δ := fδ F) (j := 5) id (onInt (PP.allSo fs cs cl)) (ei_range2 T.b.range ev_int (ev_name 4) (by omega)) (by rw [rngD_len]; omega) rfl sc_answer_of.nd
        (blkOk_by (own := [("rows", 5)]) (N := nAO) (sc := defScope (topS 42)) (by decide +kernel)) (fun _ _ _ _ _ => pg_name (i := 5) sc_answer_of.nd rfl (Or.inl rfl)) (fun d hd p s' H0 Cc cl' fp => ?_) (fun d hd _ p s' H0 Cc cl' fp => ev_name 5) E1 fun x vs H2 l2 n2 h2 r2 => ?_))
    · rw [rngD_ints] at hd
      obtain ⟨r, hr', rfl⟩ := List.mem_map.mp hd
      have hr' := PP.mem_ints.mp hr'
      have h := fnd_at (PP.allSo fs cs cl) (n := N) (r := r) (by omega) (by omega)
      exact et_val (ev_ixL (ev_name 3) (ev_sub (ev_name 5) ev_int) h)
    · refine (ea_cons (ev_name 4) (ea_cons (ev_ixL (ev_name 3) (ev_neg ev_int) (fnd_last _ (by omega))) ea_nil)).go (E1.le l2) fun ws H3 l3 r3 => ?_
      obtain ⟨v1, v2, rfl, e1, e2⟩ := two_rp r3
      cases (show v1 = .int F from e1)
      cases (show v2 = .bl _ from e2)
      rw [rngD_ints, onInt_filter, List.map_id] at r2
      have e3 := r2.ints_eq
      have h3 := l3.keep _ _ h2 fun z => absurd n2 (E1.alloc x (.inl z))
      refine ⟨Nat.le_of_lt (small1000 (by simp)), fun p np => q p _ ((l2.trans l3).trans (.new np)) ⟨x, n2, E1.back (l2.trans l3) np, upd_same, ?_⟩⟩
      rw [upd_ne (ne_of_none h3 np), h3, e3]

def F_answer : List D → PP.Ans → Prop := fun ds a => ∃ (fs : Int) (cs : List Call) (c : PP.Claim), ds = [scD fs cs, clD c] ∧ ClOk fs cs c ∧ a = aOf fs cs [c]
theorem sc_answer : FnScope ["script", "claim"] ["script", "claim"] (defScope (topS 43)) := ⟨rfl, rfl, rfl, by decide +kernel, rfl, by decide +kernel, by decide +kernel⟩
theorem fx_answer (T : Txt K w mg C) : Nx P w K mg base C "answer" 10 2 F_answer :=
  nn_mk (k := 9) T.answer sc_answer rfl fun f cdv A outer s0 H E hr m ds a hn ⟨fs, cs, c, hd, ok, e⟩ => by
    subst e hd
    exact rn_cons (nx_expr (ec_f (fx_check_claim T) hr (ea_cons (ev_name 0) (ea_cons (ev_name 1) ea_nil)) ⟨fs, cs, c, rfl, ok, rfl⟩)) (rn_ret (en_f (fx_answer_of T) hr (ea_cons (ev_name 0) (ea_cons (ev_lst (ea_cons (ev_name 1) ea_nil)) ea_nil)) ⟨fs, cs, [c], rfl, fun d hd => by rw [List.mem_singleton.mp hd]; exact ok, by simp, rfl⟩))
def F_answer_all : List D → PP.Ans → Prop := fun ds a => ∃ (fs : Int) (cs : List Call) (cl : List PP.Claim), ds = [scD fs cs, .lst (cl.map clD)] ∧ cs.length ≤ 1000 ∧ (∀ c ∈ cl, ClOk fs cs c) ∧ cl.length ≤ 1000 ∧ a = aOf fs cs cl
theorem sc_answer_all : FnScope ["script", "claims", "claim"] ["script", "claims"] (defScope (topS 44)) := ⟨rfl, rfl, rfl, by decide +kernel, rfl, by decide +kernel, by decide +kernel⟩
theorem fx_answer_all (T : Txt K w mg C) : Nx P w K mg base C "answer_all" 10 2 F_answer_all :=
  nn_mk (k := 9) T.answer_all sc_answer_all rfl fun f cdv A outer s0 H E hr m ds a hn ⟨fs, cs, cl, hd, hcs, ok, hl, e⟩ => by
    subst e hd
    let fδ : Nat → Dl := fun i => [some (scD fs cs), some (.lst (cl.map clD)), if i = 0 then none else ((cl.map clD)[i - 1]?)]
    refine rn_cons (nx_expr (ec_f (fx_check_straight T) hr (ea_cons (ev_name 0) ea_nil) ⟨fs, cs, rfl, hcs, rfl⟩)) ?_
    refine rn_cons (nx_for (j := 2) fδ (ei_lst (ev_name 1)) rfl PassesOwn.never rfl sc_answer_all.nd fun i d hd => ?_) ?_
    · have e : (fδ i).set 2 (some d) = fδ (i + 1) := by
        show [_, _, some d] = [_, _, (cl.map clD)[i + 1 - 1]?]
        rw [show i + 1 - 1 = i by omega, hd]
      rw [← e]
      rw [List.getElem?_map] at hd
      cases hc : cl[i]? with
      | none => rw [hc] at hd; cases hd
      | some c =>
        rw [hc] at hd
        cases hd
        exact nxs_one (nx_expr (ec_f (fx_check_claim T) hr (ea_cons (ev_name 0) (ea_cons (ev_name 2) ea_nil)) ⟨fs, cs, c, rfl, ok c (List.mem_of_getElem? hc), rfl⟩))
    · exact rn_ret (en_f (fx_answer_of T) hr (ea_cons (ev_name 0) (ea_cons (ev_name 1) ea_nil)) ⟨fs, cs, cl, rfl, ok, hl, rfl⟩)
end
end PB

/-! what is drawn: sets of data -/
namespace PB
open PySem PySem.Spec PyProof.Rows L2
section
variable (X : Cx) (m : Md) (C : Addr) (δ : Dl)
/-- a test that comes to one of T -/
def EvTP (e : Expr) (T : Bool → Prop) : Prop := ∀ σ H, Sl X.K m C H σ δ → ∀ Q : Bool → Hp → Prop, (∀ b H2, T b → Le m H H2 → Q b H2) → wT X e σ H Q
def EvCP (op : CmpOp) (a b : Expr) (P : D → Prop) : Prop := ∀ σ H, Sl X.K m C H σ δ → ∀ Q : VK, (∀ d v H2, P d → Le m H H2 → Rp X.K m C H2 d v → Q v H2) → wC X op a b σ H Q
def EvWP (e : Expr) (T : Bool → Prop) : Prop := ∀ σ H, Sl X.K m C H σ δ → ∀ Q : Bool → Hp → Prop, (∀ b H2, T b → Le m H H2 → Q b H2) → wW X e σ H Q
/-- a statement, a block: runs through, the slots are one of Δ -/
def NxP (st : Stmt) (Δ : Dl → Prop) : Prop := ∀ σ H, Sl X.K m C H σ δ → ∀ Dn : Ends, (∀ δ' σ' H', Δ δ' → Le m H H' → Sl X.K m C H' σ' δ' → Dn.nx σ' H') → wS X st Dn σ H
def NxsP (sts : List Stmt) (Δ : Dl → Prop) : Prop := ∀ σ H, Sl X.K m C H σ δ → ∀ Dn : Ends, (∀ δ' σ' H', Δ δ' → Le m H H' → Sl X.K m C H' σ' δ' → Dn.nx σ' H') → wSs X sts Dn σ H
end
def IntP (A : Int → Prop) : D → Prop := fun d => ∃ i, d = .int i ∧ A i
section
variable {X : Cx} {m : Md} {C : Addr} {δ δ' : Dl} {a b c e : Expr} {es : List Expr} {pos p1 p2 p3 : Pos} {x y z d : D} {st : Stmt} {sts body els : List Stmt} {R : D → Prop} {Δ Δ' : Dl → Prop} {T : Bool → Prop} {PY PZ : D → Prop} {A B : Int → Prop}
theorem NxS.p (h : NxS X m C δ st δ') : NxP X m C δ st (fun z => z = δ') := fun σ H E Dn q => h σ H E Dn fun σ' H' l E' => q δ' σ' H' rfl l E'
theorem NxS.pp (h : NxS X m C δ st δ') (k : Δ δ') : NxP X m C δ st Δ := fun σ H E Dn q => h σ H E Dn fun σ' H' l E' => q δ' σ' H' k l E'
theorem Nxs.pp (h : Nxs X m C δ sts δ') (k : Δ δ') : NxsP X m C δ sts Δ := fun σ H E Dn q => h σ H E Dn fun σ' H' l E' => q δ' σ' H' k l E'
theorem NxP.imp (h : NxP X m C δ st Δ) (k : ∀ δ', Δ δ' → Δ' δ') : NxP X m C δ st Δ' := fun σ H E Dn q => h σ H E Dn fun δ' σ' H' p => q δ' σ' H' (k δ' p)
theorem NxsP.imp (h : NxsP X m C δ sts Δ) (k : ∀ δ', Δ δ' → Δ' δ') : NxsP X m C δ sts Δ' := fun σ H E Dn q => h σ H E Dn fun δ' σ' H' p => q δ' σ' H' (k δ' p)
theorem nxsp_nil (k : Δ δ) : NxsP X m C δ [] Δ := fun σ H E Dn q => ofPSs pss_nil (q δ σ H k (.refl m H) E)
theorem nxsp_cons (h : NxP X m C δ st Δ) (h2 : ∀ δ', Δ δ' → NxsP X m C δ' sts Δ') : NxsP X m C δ (st :: sts) Δ' := fun σ H E Dn q =>
  ofPSs (pss_cons psW pssW) (h σ H E _ fun δ' σ' H' p l E' => h2 δ' p σ' H' E' Dn fun δ2 σ2 H2 p2 l2 E2 => q δ2 σ2 H2 p2 (l.trans l2) E2)
theorem nxsp_one (h : NxP X m C δ st Δ) : NxsP X m C δ [st] Δ := nxsp_cons h fun _ p => nxsp_nil p
/-- a plain statement ahead -/
theorem nxsp_s (h : NxS X m C δ st δ') (h2 : NxsP X m C δ' sts Δ) : NxsP X m C δ (st :: sts) Δ := nxsp_cons h.p fun _ e => e ▸ h2
theorem rt_consP (h : NxP X m C δ st Δ) (h2 : ∀ δ', Δ δ' → Rt X m C δ' sts R) : Rt X m C δ (st :: sts) R := fun σ H E Dn q =>
  ofPSs (pss_cons psW pssW) (h σ H E _ fun δ' σ' H' p l E' => h2 δ' p σ' H' E' Dn fun d v H2 hd l2 r => q d v H2 hd (l.trans l2) r)
theorem nx_setP (i : Nat) {n : Str} (h : EvP X m C δ e R) (hN : X.N.Nodup) (hi : X.N[i]? = some n := by rfl) (hx : Loc X.env.scope n := by first | exact Or.inl rfl | exact Or.inr rfl) (hs : swapsWith e (some (.Name n p1)) pos.line X.env = pure false := by rfl)
    (hf : X.fn n = true ∨ X.env.scope.names.lookup n = some .local := by first | exact .inl rfl | exact .inr rfl) : NxP X m C δ (.Assign [.Name n p1] e pos) (fun δ' => ∃ d, R d ∧ δ' = δ.set i (some d)) := fun σ H E Dn q =>
  ofPS (ps_set hN hi hx peW hs hf) (h σ H E _ fun d v H1 hd l1 r1 => q _ _ H1 ⟨d, hd, rfl⟩ l1 ((E.le l1).set r1))
theorem nx_exprP (h : EvP X m C δ e R) (hs : swapsWith e none pos.line X.env = pure false := by rfl) : NxS X m C δ (.Expr e pos) δ := fun σ H E Dn q =>
  ofPS (ps_expr peW hs) (h σ H E _ fun d v H1 hd l1 r1 => q _ H1 l1 (E.le l1))
theorem nxp_if (hc : EvTP X m C δ c T) (h1 : T true → NxsP X m C δ body Δ) (h2 : T false → NxsP X m C δ els Δ) : NxP X m C δ (.If c body els pos) Δ := fun σ H E Dn q =>
  ofPS (ps_if ptW pssW pssW) (hc σ H E _ fun t H1 ht l1 => by
    cases t with
    | true => exact iteT (h1 ht σ H1 (E.le l1) _ fun δ' σ2 H2 p l2 E2 => q δ' σ2 H2 p (l1.trans l2) E2)
    | false => exact iteF (h2 ht σ H1 (E.le l1) _ fun δ' σ2 H2 p l2 E2 => q δ' σ2 H2 p (l1.trans l2) E2))
theorem rt_ifP (hc : EvTP X m C δ c T) (h1 : T true → Rt X m C δ body R) (h2 : T false → Rt X m C δ sts R) : Rt X m C δ (.If c body [] pos :: sts) R := fun σ H E Dn q =>
  ofPSs (pss_cons (ps_if ptW pssW pss_nil) pssW) (hc σ H E _ fun t H1 ht l1 => by
    cases t with
    | true => exact iteT (h1 ht σ H1 (E.le l1) _ fun d v H2 hd l2 r => q d v H2 hd (l1.trans l2) r)
    | false => exact iteF (h2 ht σ H1 (E.le l1) _ fun d v H2 hd l2 r => q d v H2 hd (l1.trans l2) r))
theorem EvT.p {t : Bool} (h : EvT X m C δ e t) : EvTP X m C δ e (fun z => z = t) := fun σ H E Q q => h σ H E Q fun H2 l => q t H2 rfl l
theorem EvTP.imp {T' : Bool → Prop} (h : EvTP X m C δ e T) (k : ∀ b, T b → T' b) : EvTP X m C δ e T' := fun σ H E Q q => h σ H E Q fun b H2 p l => q b H2 (k b p) l
theorem Ev.i {i : Int} (h : Ev X m C δ e (.int i)) (k : A i) : EvP X m C δ e (IntP A) := EvP.imp h fun d hd => ⟨i, hd, k⟩
/-- operators -/
theorem ev_opP {op : Operator} {r : R2} (ho : OpR X (binaryOp op) r) (ha : EvP X m C δ a PY) (hb : EvP X m C δ b PZ)
    (hr : ∀ x y, PY x → PZ y → ∀ u v σ H, Sl X.K m C H σ δ → Rp X.K m C H x u → Rp X.K m C H y v → ∀ Q : VK, (∀ d w H2, R d → Le m H H2 → Rp X.K m C H2 d w → Q w H2) → r u v H Q) : EvP X m C δ (.BinOp a op b pos) R := fun σ H E Q q =>
  ofPE (pe_op ho peW peW) (ha σ H E _ fun x u H1 hx l1 r1 => hb σ H1 (E.le l1) _ fun y v H2 hy l2 r2 => hr x y hx hy u v σ H2 (E.le (l1.trans l2)) (r1.le l2) r2 Q fun d w H3 hd l3 r3 => q d w H3 hd ((l1.trans l2).trans l3) r3)
theorem ec_opP {op : CmpOp} {r : R2} (ho : OpR X (compareOp op) r) (ha : EvP X m C δ a PY) (hb : EvP X m C δ b PZ)
    (hr : ∀ x y, PY x → PZ y → ∀ u v σ H, Sl X.K m C H σ δ → Rp X.K m C H x u → Rp X.K m C H y v → ∀ Q : VK, (∀ d w H2, R d → Le m H H2 → Rp X.K m C H2 d w → Q w H2) → r u v H Q) : EvCP X m C δ op a b R := fun σ H E Q q pins s I =>
  bin (R := fun u v H2 => r u v H2 Q) peW peW I (ha σ H E _ fun x u H1 hx l1 r1 => hb σ H1 (E.le l1) _ fun y v H2 hy l2 r2 => hr x y hx hy u v σ H2 (E.le (l1.trans l2)) (r1.le l2) r2 Q fun d w H3 hd l3 r3 => q d w H3 hd ((l1.trans l2).trans l3) r3)
    fun v u s2 x y H2 I2 rx ry h => ho pins s2 σ H2 x y v u Q I2 rx ry h
theorem ev_addP {Rr : Int → Prop} (ha : EvP X m C δ a (IntP A)) (hb : EvP X m C δ b (IntP B)) (k : ∀ i j, A i → B j → Rr (i + j)) : EvP X m C δ (.BinOp a .Add b pos) (IntP Rr) :=
  ev_opP op_add ha hb fun x y ⟨i, e1, h1⟩ ⟨j, e2, h2⟩ u v σ H E hu hv Q q => by
    subst e1 e2
    exact ⟨i, j, hu, hv, q (.int (i + j)) _ H ⟨_, rfl, k i j h1 h2⟩ (.refl m H) rfl⟩
theorem ev_subP {Rr : Int → Prop} (ha : EvP X m C δ a (IntP A)) (hb : EvP X m C δ b (IntP B)) (k : ∀ i j, A i → B j → Rr (i - j)) : EvP X m C δ (.BinOp a .Sub b pos) (IntP Rr) :=
  ev_opP op_sub ha hb fun x y ⟨i, e1, h1⟩ ⟨j, e2, h2⟩ u v σ H E hu hv Q q => by
    subst e1 e2
    exact ⟨i, j, hu, hv, q (.int (i - j)) _ H ⟨_, rfl, k i j h1 h2⟩ (.refl m H) rfl⟩
theorem ev_mulP {Rr : Int → Prop} (ha : EvP X m C δ a (IntP A)) (hb : EvP X m C δ b (IntP B)) (hc : ∀ i j, A i → B j → CMul i j) (k : ∀ i j, A i → B j → Rr (i * j)) : EvP X m C δ (.BinOp a .Mult b pos) (IntP Rr) :=
  ev_opP op_mul ha hb fun x y ⟨i, e1, h1⟩ ⟨j, e2, h2⟩ u v σ H E hu hv Q q => by
    subst e1 e2
    exact ⟨i, j, hu, hv, hc i j h1 h2, q (.int (i * j)) _ H ⟨_, rfl, k i j h1 h2⟩ (.refl m H) rfl⟩
theorem ev_modP {Rr : Int → Prop} (ha : EvP X m C δ a (IntP A)) (hb : EvP X m C δ b (IntP B)) (hc : ∀ j, B j → 0 < j) (k : ∀ i j, A i → B j → Rr (i % j)) : EvP X m C δ (.BinOp a .Mod b pos) (IntP Rr) :=
  ev_opP op_mod ha hb fun x y ⟨i, e1, h1⟩ ⟨j, e2, h2⟩ u v σ H E hu hv Q q => by
    subst e1 e2
    exact ⟨i, j, hu, hv, hc j h2, q (.int (i % j)) _ H ⟨_, rfl, k i j h1 h2⟩ (.refl m H) rfl⟩
theorem ev_fdivP {Rr : Int → Prop} (ha : EvP X m C δ a (IntP A)) (hb : EvP X m C δ b (IntP B)) (hc : ∀ i j, A i → B j → CDiv i j) (k : ∀ i j, A i → B j → Rr (i / j)) : EvP X m C δ (.BinOp a .FloorDiv b pos) (IntP Rr) :=
  ev_opP op_fdiv ha hb fun x y ⟨i, e1, h1⟩ ⟨j, e2, h2⟩ u v σ H E hu hv Q q => by
    subst e1 e2
    exact ⟨i, j, hu, hv, hc i j h1 h2, q (.int (i / j)) _ H ⟨_, rfl, k i j h1 h2⟩ (.refl m H) rfl⟩
def BlP (T : Bool → Prop) : D → Prop := fun d => ∃ t, d = .bl t ∧ T t
theorem ec_eqP {T : Bool → Prop} (ha : EvP X m C δ a (IntP A)) (hb : EvP X m C δ b (IntP B)) (k : ∀ i j, A i → B j → T (decide (i = j))) : EvCP X m C δ .Eq a b (BlP T) :=
  ec_opP op_eq ha hb fun x y ⟨i, e1, h1⟩ ⟨j, e2, h2⟩ u v σ H E hu hv Q q => by
    subst e1 e2
    cases (show u = .int i from hu)
    cases (show v = .int j from hv)
    refine ⟨by rfl, q (.bl (decide (i = j))) _ H ⟨_, rfl, k i j h1 h2⟩ (.refl m H) ?_⟩
    rw [← dec_int_iff]
    rfl
theorem ec_gtP {T : Bool → Prop} (ha : EvP X m C δ a (IntP A)) (hb : EvP X m C δ b (IntP B)) (k : ∀ i j, A i → B j → T (decide (j < i))) : EvCP X m C δ .Gt a b (BlP T) :=
  ec_opP op_gt ha hb fun x y ⟨i, e1, h1⟩ ⟨j, e2, h2⟩ u v σ H E hu hv Q q => by
    subst e1 e2
    exact ⟨i, j, hu, hv, q (.bl (decide (j < i))) _ H ⟨_, rfl, k i j h1 h2⟩ (.refl m H) rfl⟩
theorem ec_geP {T : Bool → Prop} (ha : EvP X m C δ a (IntP A)) (hb : EvP X m C δ b (IntP B)) (k : ∀ i j, A i → B j → T (decide (j ≤ i))) : EvCP X m C δ .GtE a b (BlP T) :=
  ec_opP op_ge ha hb fun x y ⟨i, e1, h1⟩ ⟨j, e2, h2⟩ u v σ H E hu hv Q q => by
    subst e1 e2
    exact ⟨i, j, hu, hv, q (.bl (decide (j ≤ i))) _ H ⟨_, rfl, k i j h1 h2⟩ (.refl m H) rfl⟩
theorem et_cmpP {op : CmpOp} {T : Bool → Prop} (h : EvCP X m C δ op a b (BlP T)) (h1 : behindInMarks op b = false := by first | exact nobehind _ (by decide) (by decide) | rfl) : EvTP X m C δ (.Compare a [op] [b] pos) T := fun σ H E Q q =>
  ofPT (pt_cmp pcW h1) (h σ H E _ fun d v H1 ⟨t, e, ht⟩ l1 r1 => by
    subst e
    exact ⟨t, r1, q t H1 ht l1⟩)
theorem ev_cmpP {op : CmpOp} (h : EvCP X m C δ op a b R) (h1 : behindInMarks op b = false := by first | exact nobehind _ (by decide) (by decide) | rfl) : EvP X m C δ (.Compare a [op] [b] pos) R := fun σ H E Q q => ofPE (pe_cmp pcW h1) (h σ H E Q q)
theorem ewp_and {rest : List Expr} {t : Bool} {T' : Bool → Prop} (h : EvT X m C δ a t) (h2 : t = true → EvWP X m C δ (.BoolOp .And (b :: rest) pos) T') (h3 : t = false → T' false) : EvWP X m C δ (.BoolOp .And (a :: b :: rest) pos) T' := fun σ H E Q q =>
  ofPW (pw_and ptW pwW) (h σ H E _ fun H1 l1 => by
    cases t with
    | true => exact iteT (h2 rfl σ H1 (E.le l1) Q fun t2 H2 p l2 => q t2 H2 p (l1.trans l2))
    | false => exact iteF (q false H1 (h3 rfl) l1))
theorem ewp_and1 (h : EvTP X m C δ a T) : EvWP X m C δ (.BoolOp .And [a] pos) T := fun σ H E Q q => ofPW (pw_and1 ptW) (h σ H E Q q)
theorem etp_ww (h : EvWP X m C δ e T) : EvTP X m C δ e T := fun σ H E Q q => ofPT (PW.pt pwW) (h σ H E Q q)
/-- a built-in type or function over one argument out of a set -/
theorem ev_callTyP {r : List V → Hp → VK → Prop} {id : String} {n : Str} {L : List D → Prop} (hc : CallR X (.type id) r) (hm : X.mg n = none) (hv : bootBuiltins n = some (.type id)) (ha : EvA X m C δ (e :: es) L)
    (hr : ∀ ds vs σ H, L ds → Sl X.K m C H σ δ → RpAll X.K m C H ds vs → ∀ Q : VK, (∀ d w H2, R d → Le m H H2 → Rp X.K m C H2 d w → Q w H2) → r vs H Q) (hg : Gl X n := by rfl) (hn : n ≠ "__name__" := by decide) (hdb : (n == ("__debug__" : Str)) = false := by decide)
    (he : starEach (e :: es) X.env = (false, eval e X.env) :: starEach es X.env := by rfl) (hpl : (backTo pos (starEach es X.env)).any (·.1) = false := by rfl) : EvP X m C δ (.Call (.Name n p1) (e :: es) [] pos) R := fun σ H E Q q =>
  ofPE (pe_callTy hc hg hm hv paW hn hdb he hpl) (ha σ H E _ fun ds vs H1 p l1 r1 => hr ds vs σ H1 p (E.le l1) r1 Q fun d w H2 hd l2 r2 => q d w H2 hd (l1.trans l2) r2)
theorem ev_callBP {r : List V → Hp → VK → Prop} {id : String} {n : Str} {L : List D → Prop} (hc : CallR X (.builtin id) r) (hm : X.mg n = none) (hv : bootBuiltins n = some (.builtin id)) (ha : EvA X m C δ (e :: es) L)
    (hr : ∀ ds vs σ H, L ds → Sl X.K m C H σ δ → RpAll X.K m C H ds vs → ∀ Q : VK, (∀ d w H2, R d → Le m H H2 → Rp X.K m C H2 d w → Q w H2) → r vs H Q) (hg : Gl X n := by rfl) (hn : n ≠ "__name__" := by decide) (hdb : (n == ("__debug__" : Str)) = false := by decide)
    (he : starEach (e :: es) X.env = (false, eval e X.env) :: starEach es X.env := by rfl) (hpl : (backTo pos (starEach es X.env)).any (·.1) = false := by rfl) : EvP X m C δ (.Call (.Name n p1) (e :: es) [] pos) R := fun σ H E Q q =>
  ofPE (pe_callB hc hg hm hv paW hn hdb he hpl) (ha σ H E _ fun ds vs H1 p l1 r1 => hr ds vs σ H1 p (E.le l1) r1 Q fun d w H2 hd l2 r2 => q d w H2 hd (l1.trans l2) r2)
/-- one argument -/
theorem ea_oneP {P : D → Prop} (h : EvP X m C δ e P) (hs : starEach [e] X.env = (false, eval e X.env) :: starEach [] X.env := by rfl) : EvA X m C δ [e] (fun z => ∃ d, z = [d] ∧ P d) := fun σ H E Q q =>
  ea_consP h ea_nil hs σ H E Q fun ds vs H2 ⟨d, ds', e1, p, e2⟩ l r => q ds vs H2 ⟨d, by rw [e1, e2], p⟩ l r
theorem ev_intP (hm : X.mg "int" = none) (h : EvP X m C δ e (IntP A)) (hg : Gl X "int" := by rfl) (he : starEach [e] X.env = (false, eval e X.env) :: starEach [] X.env := by rfl) : EvP X m C δ (.Call (.Name "int" p1) [e] [] pos) (IntP A) :=
  ev_callTyP call_int1 hm (by decide +kernel) (ea_oneP h he) (fun ds vs σ H ⟨d, e1, i, e2, hi⟩ E r0 Q q => by
    subst e1 e2
    obtain ⟨v, rfl, r⟩ := one_rp r0
    cases (show v = .int i from r)
    exact .inl ⟨i, rfl, q (.int i) _ H ⟨i, rfl, hi⟩ (.refl m H) rfl⟩) hg (by decide) (by decide) he
theorem ev_intBP (hm : X.mg "int" = none) (h : EvP X m C δ e (BlP T)) (hA : ∀ t, T t → A (if t then 1 else 0)) (hg : Gl X "int" := by rfl) (he : starEach [e] X.env = (false, eval e X.env) :: starEach [] X.env := by rfl) : EvP X m C δ (.Call (.Name "int" p1) [e] [] pos) (IntP A) :=
  ev_callTyP call_int1 hm (by decide +kernel) (ea_oneP h he) (fun ds vs σ H ⟨d, e1, t, e2, hi⟩ E r0 Q q => by
    subst e1 e2
    obtain ⟨v, rfl, r⟩ := one_rp r0
    cases (show v = .bl t from r)
    exact .inr ⟨t, rfl, q (.int _) _ H ⟨_, rfl, hA t hi⟩ (.refl m H) rfl⟩) hg (by decide) (by decide) he
/-- xs[i], i out of a set -/
theorem ev_ixLi {ds : List D} (ha : Ev X m C δ a (.lst ds)) (hb : EvP X m C δ b (IntP A)) (h : ∀ i, A i → ∃ d, atI ds i = some d ∧ R d) (hs : PlainIx b := by exact fun _ _ => rfl) : EvP X m C δ (.Subscript a b pos) R := fun σ H E Q q =>
  ofPE (pe_ix ix_list peW peW hs) (ha.go E fun u H1 l1 ⟨p, xs, e1, h1, h0, r1⟩ => hb σ H1 (E.le l1) _ fun d v H2 ⟨i, e2, hi⟩ l2 r2 => by
    subst e2
    obtain ⟨d, hd, hR⟩ := h i hi
    obtain ⟨w, h3, r3⟩ := atI_rp (r1.le l2) hd
    exact ⟨p, xs, i, w, e1, r2, SqL.of (l2.keep _ _ h1 fun z => absurd (.inl z) h0), h3, q d w H2 hR (l1.trans l2) r3⟩)
end
end PB

/-! the bag: reading, writing; _law_take -/
namespace PB
open PySem PySem.Spec PyProof.Rows L2
section
variable {X : Cx}
def rGetL (K : PySem.W.Frag) : V → V → Hp → VK → Prop := fun o i H Q => ∃ p xs k v, o = .ref p ∧ i = .int k ∧ 0 ≤ k ∧ SqL K H p xs ∧ xs[k.toNat]? = some v ∧ Q v H
theorem get_list : PGet X (rGetL X.K) := by
  intro pins s σ H o i ov iv Q I ro ri h
  obtain ⟨p, xs, k, v, rfl, rfl, h0, hq, he, q⟩ := h
  cases ro
  obtain ⟨t, rfl⟩ := ri
  obtain ⟨its, r, pl, hz⟩ := I.list hq
  obtain ⟨w, ew, rw'⟩ := r.get he
  have hl := r.length
  have hn := line63
  have hk : k.toNat < xs.length := (List.getElem?_eq_some_iff.mp he).1
  exact wpAny_getItem_list pl.isList h0 (by omega) (by simpa using ew) ⟨v, H, I, rw', q⟩
end
/-- what may stand at a place of the bag -/
def bagOk (j : Nat) (v : Int) : Prop := 0 ≤ v ∧ (j = 1 → v < 2147483647)
theorem bag_set {m : Md} {H : Hp} {p : Addr} {j : Nat} {v : Int} (hb : BagAt H m.more p) (hm : m.bag = some p) (hj : j < 3) (hv : bagOk j v) {xs : List V} (hp : H p = some (.lst xs)) : Le m H (upd H p (.lst (xs.set j (.int v)))) := by
  refine ⟨fun a o e n => ?_, fun q hq ll hs hb' => ?_⟩
  · by_cases h : a = p
    · subst h
      rw [hp] at e
      cases e
      exact absurd True.intro (n hm)
    · rw [upd_ne h]
      exact e
  · rw [hm] at hq
    cases hq
    obtain ⟨x, g, i, c, ns, h1, h2, h3, h4, h5, h6, h7, h8, h9, h10⟩ := hb'
    rw [hp] at h1
    cases h1
    have hc : (upd H p (.lst (([V.int x, .int g, .int i, .ref c] : List V).set j (.int v)))) c = some (.lst (ns.map V.int)) := by rw [upd_ne h2]; exact h5
    obtain ⟨v1, v2⟩ := hv
    match j, hj with
    | 0, _ => exact ⟨v, g, i, c, ns, upd_same, h2, h3, h4, hc, v1, h7, h8, h9, h10⟩
    | 1, _ => exact ⟨x, v, i, c, ns, upd_same, h2, h3, h4, hc, h6, v1, v2 rfl, h9, h10⟩
    | 2, _ => exact ⟨x, g, v, c, ns, upd_same, h2, h3, h4, hc, h6, h7, h8, v1, h10⟩
section
variable {X : Cx} {m : Md} {C : Addr} {δ : Dl} {e : Expr} {pos p1 p2 p3 : Pos} {j k : Nat} {n : Str} {A : Int → Prop}
theorem bag_at {K : PySem.W.Frag} {H : Hp} {σ : L2.St} (E : Sl K m C H σ δ) {i : Nat} (hδ : δ[i]? = some (some .bag)) : ∃ p, σ[i]? = some (some (.ref p)) ∧ m.bag = some p ∧ BagAt H m.more p := by
  obtain ⟨v, h1, p, rfl, h2⟩ := E.at_ i _ hδ
  exact ⟨p, h1, h2, E.bag p h2⟩
theorem bag_item {H : Hp} {l : List Addr} {p : Addr} (h : BagAt H l p) (hj : j < 3) : ∃ (xs : List V) (v : Int), H p = some (.lst xs) ∧ xs.length = 4 ∧ xs[j]? = some (.int v) ∧ bagOk j v := by
  obtain ⟨x, g, i, c, ns, h1, h2, h3, h4, h5, h6, h7, h8, h9, h10⟩ := h
  match j, hj with
  | 0, _ => exact ⟨_, x, h1, rfl, rfl, h6, fun z => by omega⟩
  | 1, _ => exact ⟨_, g, h1, rfl, rfl, h7, fun _ => h8⟩
  | 2, _ => exact ⟨_, i, h1, rfl, rfl, h9, fun z => by omega⟩
/-- bag[j] -/
theorem ev_bag (i : Nat) (hj : j < 3 := by decide) (hδ : δ[i]? = some (some .bag) := by rfl) (hN : X.N[i]? = some n := by rfl) (hv : Vis X.env.scope n := by first | exact Or.inl rfl | exact Or.inr (Or.inl rfl) | exact Or.inr (Or.inr rfl))
    (hd : (n == ("__debug__" : Str)) = false := by decide) (hcd : (n == ("__classdict__" : Str)) = false := by decide) : EvP X m C δ (.Subscript (.Name n p1) (.Constant (.int (j : Int)) k p2) pos) (IntP (bagOk j)) := fun σ H E Q q => by
  obtain ⟨p, h1, h2, h3⟩ := bag_at E hδ
  obtain ⟨xs, v, h4, h5, h6, h7⟩ := bag_item h3 hj
  exact ofPE (pe_ix ix_list (pe_var hN hv hd hcd) pe_int (fun _ _ => rfl)) ⟨_, h1, p, xs, (j : Int), .int v, rfl, rfl, SqL.of h4, atI_nat h6, q _ _ H ⟨v, rfl, h7⟩ (.refl m H) rfl⟩
/-- bag[j] = e -/
theorem nx_bag (i : Nat) (h : EvP X m C δ e (IntP (bagOk j))) (hj : j < 3 := by decide) (hδ : δ[i]? = some (some .bag) := by rfl) (hN : X.N[i]? = some n := by rfl) (hv : Vis X.env.scope n := by first | exact Or.inl rfl | exact Or.inr (Or.inl rfl) | exact Or.inr (Or.inr rfl))
    (hd : (n == ("__debug__" : Str)) = false := by decide) (hcd : (n == ("__classdict__" : Str)) = false := by decide)
    (hs : swapsWithSole [.Subscript (.Name n p1) (.Constant (.int (j : Int)) k p2) p3] e pos.line X.env = pure false := by rfl) (hw : swappedStores [.Subscript (.Name n p1) (.Constant (.int (j : Int)) k p2) p3] e X.env = pure none := by rfl)
    (h1 : (assignEach [.Subscript (.Name n p1) (.Constant (.int (j : Int)) k p2) p3] X.env).map (·.2) = [assign (.Subscript (.Name n p1) (.Constant (.int (j : Int)) k p2) p3) X.env] := by rfl) :
    NxS X m C δ (.Assign [.Subscript (.Name n p1) (.Constant (.int (j : Int)) k p2) p3] e pos) δ := fun σ H E Dn q =>
  ofPS (ps_asg peW (pg_sub (pe_var hN hv hd hcd) pe_int set_list) hs hw h1) (h σ H E _ fun d w H1 ⟨v, e1, hok⟩ l1 r1 => by
    subst e1
    cases (show w = .int v from r1)
    have E1 := E.le l1
    obtain ⟨p, g1, g2, g3⟩ := bag_at E1 hδ
    obtain ⟨xs, v0, g4, g5, g6, g7⟩ := bag_item g3 hj
    have l2 := bag_set g3 g2 hj hok g4
    refine ⟨_, g1, p, xs, (j : Int), j, rfl, rfl, g4, ?_, q σ _ (l1.trans l2) (E1.le l2)⟩
    rw [g5]
    match j, hj with
    | 0, _ => rfl
    | 1, _ => rfl
    | 2, _ => rfl)
/-- bag[2] += 1 -/
theorem nx_bagUp (i : Nat) {k2 : Nat} {p4 : Pos} (hδ : δ[i]? = some (some .bag) := by rfl) (hN : X.N[i]? = some n := by rfl) (hv : Vis X.env.scope n := by first | exact Or.inl rfl | exact Or.inr (Or.inl rfl) | exact Or.inr (Or.inr rfl))
    (hd : (n == ("__debug__" : Str)) = false := by decide) (hcd : (n == ("__classdict__" : Str)) = false := by decide) : NxS X m C δ (.AugAssign (.Subscript (.Name n p1) (.Constant (.int 2) k p2) p3) .Add (.Constant (.int 1) k2 p4) pos) δ := fun σ H E Dn q => by
  obtain ⟨p, g1, g2, g3⟩ := bag_at E hδ
  obtain ⟨xs, v0, g4, g5, g6, g7⟩ := bag_item (j := 2) g3 (by decide)
  have l2 := bag_set (v := v0 + 1) g3 g2 (j := 2) (by decide) ⟨by have := g7.1; omega, fun z => by omega⟩ g4
  refine ofPS (ps_augS (pe_var hN hv hd hcd) pe_int get_list pe_int ip_add set_list) ⟨_, g1, p, xs, 2, .int v0, rfl, rfl, by decide, SqL.of g4, g6, v0, 1, rfl, rfl, p, xs, 2, 2, rfl, rfl, g4, ?_, q σ _ l2 (E.le l2)⟩
  rw [g5]
  rfl
end
end PB

/-! _law_take -/
namespace PB
open PySem PySem.Spec PyProof.Rows L2
section
variable {P : Program} {w : World} {K : PySem.W.Frag} {mg : Str → Option Value} {base : Heap} {C : Addr}
/-- a number below n is drawn -/
def P_take : List D → (D → Prop) → Prop := fun ds R => ∃ n : Int, ds = [.bag, .int n] ∧ 0 < n ∧ n < 1000000000 ∧ R = IntP (fun r => 0 ≤ r ∧ r < n)
abbrev nTk : List Str := ["_law_bag_here", "_law_upto", "_law_begin", "_law_second", "_law_cell", "_law_mixed_here", "_law_drawn"]
theorem sc_take : FnScope nTk ["_law_bag_here", "_law_upto"] (defScope (topS 49)) := ⟨rfl, rfl, rfl, by decide +kernel, rfl, by decide +kernel, by decide +kernel⟩
theorem fx_take (T : Txt K w mg C) : Fx P w K mg base C "_law_take" 1 2 P_take :=
  fx_mk (k := 0) T.take sc_take rfl fun f cdv A outer s0 H E hr m ds R hn ⟨n, hd, hn0, hn1, e⟩ => by
    subst e hd
    refine rt_consP (Δ := fun δ' => ∃ a b, δ' = [some .bag, some (.int n), none, none, a, b, none]) ?_ ?_
    · refine nxp_if (et_cmpP (T := fun _ => True) (ec_eqP (ev_bag 0 (j := 0)) (ev_int.i (A := fun _ => True) True.intro) fun i j _ _ => True.intro)) (fun _ => ?_) fun _ => nxsp_nil ⟨none, none, rfl⟩
      refine nxsp_s (nx_set 4 (d := .int 0) ev_int sc_take.nd) ?_
      refine nxsp_cons (Δ := fun δ' => ∃ c : Int, 0 ≤ c ∧ δ' = [some .bag, some (.int n), none, none, some (.int c), none, none]) ?_ ?_
      · intro σ H1 E1 Dn q
        obtain ⟨p, g1, g2, x, g, i, c, ns, h1, h2, h3, h4, h5, h6, h7, h8, h9, h10⟩ := bag_at E1 (i := 0) rfl
        have gp : SqL K H1 p [V.int x, .int g, .int i, .ref c] := SqL.of h1
        have gc : SqL K H1 c (ns.map V.int) := SqL.of h5
        refine ofPS (ps_if (pt_cmpR op_lt (pe_ix ix_list (pe_var (i := 0) rfl (Or.inl rfl)) pe_int (fun _ _ => rfl)) (pe_callB call_len_seq (by rfl) T.b.len PySem.boot_len (pa_cons (pe_ix ix_list (pe_var (i := 0) rfl (Or.inl rfl)) pe_int (fun _ _ => rfl)) pa_nil)) (nomark _))
          (pss_one (ps_set (i := 4) sc_take.nd rfl (Or.inl rfl) (pe_ix ix_list (pe_ix ix_list (pe_var (i := 0) rfl (Or.inl rfl)) pe_int (fun _ _ => rfl)) (pe_ix ix_list (pe_var (i := 0) rfl (Or.inl rfl)) pe_int (fun _ _ => rfl)) (fun _ _ => rfl)))) pss_nil) ?_
        refine ⟨_, g1, p, _, 2, .int i, rfl, rfl, gp, rfl, _, g1, p, _, 3, .ref c, rfl, rfl, gp, rfl, c, _, rfl, .inl gc, i, _, rfl, rfl, _, rfl, ?_⟩
        rw [List.length_map]
        by_cases hlt : i < (ns.length : Int)
        · rw [decide_eq_true hlt]
          have hi : i.toNat < ns.length := by omega
          have hx : (ns.map V.int)[i.toNat]? = some (.int ns[i.toNat]) := by rw [List.getElem?_map, List.getElem?_eq_getElem hi]; rfl
          have hx2 := atI_nat (j := i.toNat) hx
          rw [show ((i.toNat : Nat) : Int) = i by omega] at hx2
          refine iteT ⟨_, g1, p, _, 3, .ref c, rfl, rfl, gp, rfl, _, g1, p, _, 2, .int i, rfl, rfl, gp, rfl, c, _, i, _, rfl, rfl, gc, hx2, ?_⟩
          exact q _ _ H1 ⟨ns[i.toNat], h10 _ (List.getElem_mem hi), rfl⟩ (.refl m H1) (Sl.set (i := 4) E1 (d := .int ns[i.toNat]) rfl)
        · rw [decide_eq_false hlt]
          exact iteF (q _ _ H1 ⟨0, by decide, rfl⟩ (.refl m H1) E1)
      · rintro δ' ⟨c, hc, rfl⟩
        refine nxsp_s (nx_bagUp 0) ?_
        refine nxsp_s (δ' := [some .bag, some (.int n), none, none, some (.int c), none, none]) ?_ ?_
        · by_cases hbig : (1000000000000000000 : Int) ≤ c
          · exact nx_ifT (et_cmp (ec_ge (ev_name 4) ev_int) (decide_eq_true hbig)) (nxs_one (nx_bag 0 (j := 0) ((ev_name 4).i ⟨hc, fun z => by omega⟩)))
          · exact nx_ifF (et_cmp (ec_ge (ev_name 4) ev_int) (decide_eq_false hbig))
        refine nxsp_cons (nx_setP 5 (ev_addP (Rr := fun _ => True) (ev_addP (Rr := fun _ => True) (ev_mulP (Rr := fun _ => True) (ev_bag 0 (j := 1)) (ev_int.i (A := fun j => j = 48271) rfl) (fun i j _ h => .inr (by subst h; decide)) fun _ _ _ _ => True.intro)
          (ev_modP (Rr := fun _ => True) (ev_intP T.b.int ((ev_name 4).i (A := fun _ => True) True.intro)) (ev_int.i (A := fun j => 0 < j) (by decide)) (fun _ h => h) fun _ _ _ _ => True.intro) fun _ _ _ _ => True.intro)
          (ev_mulP (Rr := fun _ => True) (ev_int.i (A := fun j => j = 7919) rfl) (ev_bag 0 (j := 2)) (fun i j h _ => .inl (by subst h; decide)) fun _ _ _ _ => True.intro) fun _ _ _ _ => True.intro) sc_take.nd) ?_
        rintro δ' ⟨d, ⟨v, rfl, _⟩, rfl⟩
        refine nxsp_s (nx_bag 0 (j := 1) (ev_modP (ev_intP T.b.int ((ev_name 5).i (A := fun _ => True) True.intro)) (ev_int.i (A := fun j => j = 2147483647) rfl) (fun j h => by omega) fun i j _ h => ?_)) (nxsp_nil ⟨_, _, rfl⟩)
        subst h
        exact ⟨Int.emod_nonneg _ (by decide), fun _ => Int.emod_lt_of_pos _ (by decide)⟩
    · rintro δ' ⟨a, b, rfl⟩
      refine rt_ifP (et_cmpP (T := fun _ => True) (ec_gtP (ev_bag 0 (j := 0)) (ev_int.i (A := fun _ => True) True.intro) fun i j _ _ => True.intro)) (fun _ => ?_) fun _ => ?_
      · refine rt_consP (nx_setP 6 (ev_modP (ev_intP T.b.int (ev_bag 0 (j := 0))) ((ev_name 1).i (A := fun j => j = n) rfl) (fun j h => by omega) (Rr := fun r => 0 ≤ r ∧ r < n) fun i j _ h => ?_) sc_take.nd) ?_
        · subst h
          exact ⟨Int.emod_nonneg _ (by omega), Int.emod_lt_of_pos _ hn0⟩
        rintro δ' ⟨d, ⟨v, rfl, hv⟩, rfl⟩
        refine rt_cons (nx_bag 0 (j := 0) (ev_fdivP (ev_intP T.b.int (ev_bag 0 (j := 0))) ((ev_name 1).i (A := fun j => j = n) rfl) (fun i j _ h => by subst h; exact ⟨hn0, by omega⟩) fun i j hi h => ?_)) (rt_ret ((ev_name 6).i hv))
        subst h
        exact ⟨Int.ediv_nonneg hi.1 (by omega), fun z => by omega⟩
      · refine rt_consP (nx_setP 2 (ev_modP (ev_intP T.b.int (ev_mulP (Rr := fun _ => True) (ev_addP (Rr := fun _ => True) (ev_bag 0 (j := 1)) (ev_int.i (A := fun _ => True) True.intro) fun _ _ _ _ => True.intro) (ev_int.i (A := fun j => j = 39373) rfl) (fun i j _ h => .inr (by subst h; decide)) fun _ _ _ _ => True.intro)) (ev_int.i (A := fun j => j = 1000000007) rfl) (fun j h => by omega)
          (Rr := fun r => 0 ≤ r ∧ r < 1000000007) fun i j _ h => ?_) sc_take.nd) ?_
        · subst h
          exact ⟨Int.emod_nonneg _ (by decide), Int.emod_lt_of_pos _ (by decide)⟩
        rintro δ' ⟨d, ⟨v, rfl, hv1, hv2⟩, rfl⟩
        refine rt_consP (nx_setP 3 (ev_modP (ev_intP T.b.int (ev_mulP (Rr := fun _ => True) (ev_modP (Rr := fun _ => True) (ev_intP T.b.int ((ev_mul (ev_name 2) (ev_name 2) (.inl ⟨by omega, by omega⟩)).i (A := fun _ => True) True.intro)) (ev_int.i (A := fun j => 0 < j) (by decide)) (fun _ h => h) fun _ _ _ _ => True.intro) (ev_int.i (A := fun j => j = 30011) rfl) (fun i j _ h => .inr (by subst h; decide)) fun _ _ _ _ => True.intro))
          (ev_int.i (A := fun j => 0 < j) (by decide)) (fun _ h => h) (Rr := fun _ => True) fun _ _ _ _ => True.intro) sc_take.nd) ?_
        rintro δ' ⟨d, ⟨v3, rfl, _⟩, rfl⟩
        refine rt_ret (ev_modP (ev_intP T.b.int (ev_fdivP (Rr := fun _ => True) ((ev_name 3).i (A := fun _ => True) True.intro) (ev_int.i (A := fun j => j = 7) rfl) (fun i j _ h => by subst h; exact ⟨by decide, by decide⟩) fun _ _ _ _ => True.intro)) ((ev_name 1).i (A := fun j => j = n) rfl) (fun j h => by omega) fun i j _ h => ?_)
        subst h
        exact ⟨Int.emod_nonneg _ (by omega), Int.emod_lt_of_pos _ hn0⟩
end
end PB

/-! a list of the def's own that is being filled -/
namespace PB
open PySem PySem.Spec PyProof.Rows L2
/-- what stands in the list at a -/
def Cont (K : PySem.W.Frag) (m : Md) (C : Addr) (H : Hp) (a : Addr) (es : List D) : Prop := ∃ acc, H a = some (.lst acc) ∧ RpAll K m C H es acc
section
variable {K : PySem.W.Frag} {m : Md} {C : Addr} {H H' : Hp} {a : Addr} {es es' : List D} {σ : L2.St} {δ : Dl}
theorem Cont.le (c : Cont K m C H a es) (E : Sl K m C H σ δ) (ha : a ∈ m.more) (l : Le m H H') : Cont K m C H' a es := by
  obtain ⟨acc, h1, h2⟩ := c
  exact ⟨acc, E.own ha h1 l, h2.le l⟩
theorem Cont.wr {ys : List V} (c : Cont K m C H a es) (E : Sl K m C H σ δ) (ha : a ∈ m.more) (r : ∀ acc, H a = some (.lst acc) → RpAll K m C H es acc → RpAll K m C H es' ys) :
    Lw m a H (upd H a (.lst ys)) ∧ Sl K m C (upd H a (.lst ys)) σ δ ∧ Cont K m C (upd H a (.lst ys)) a es' := by
  obtain ⟨acc, h1, h2⟩ := c
  have lw : Lw m a H (upd H a (.lst ys)) := .wr ha h1
  exact ⟨lw, E.lw ha lw (by rw [upd_same]; intro z; cases z), ys, upd_same, (r acc h1 h2).lw ha lw⟩
/-- a new empty list -/
theorem own_new {s : Nat} (E : Sl K m C H σ δ) (ha : H a = none) : Sl K (m.add a) C (upd H a (.lst [])) (σ.set s (some (.ref a))) (δ.set s (some (.own a))) ∧ Cont K (m.add a) C (upd H a (.lst [])) a [] := by
  have E2 := E.grow (o := .lst []) ha
  exact ⟨E2.set rfl, [], upd_same, rfl⟩
theorem Sl.shrink (E : Sl K (m.add a) C H σ δ) : Sl K m C H σ δ :=
  ⟨E.len, fun i d h => let ⟨v, h1, h2⟩ := E.at_ i d h; ⟨v, h1, h2.shrink⟩, fun p h => (E.bag p h).shrink, fun b h => E.more b (List.mem_cons_of_mem _ h)⟩
/-- the list is a list like others -/
theorem Cont.done (c : Cont K (m.add a) C H a es) (hm : ¬ m.mut a) : Rp K m C H (.lst es) (.ref a) := by
  obtain ⟨acc, h1, h2⟩ := c
  exact ⟨a, acc, rfl, h1, hm, h2.shrink⟩
end
section
variable (X : Cx) (m : Md) (C : Addr) (a : Addr) (δ : Dl) (es : List D)
def Nl (st : Stmt) (Δ : Dl → List D → Prop) : Prop := ∀ σ H, Sl X.K m C H σ δ → Cont X.K m C H a es → ∀ Dn : Ends, (∀ δ' es' σ' H', Δ δ' es' → Lw m a H H' → Sl X.K m C H' σ' δ' → Cont X.K m C H' a es' → Dn.nx σ' H') → wS X st Dn σ H
def Nls (sts : List Stmt) (Δ : Dl → List D → Prop) : Prop := ∀ σ H, Sl X.K m C H σ δ → Cont X.K m C H a es → ∀ Dn : Ends, (∀ δ' es' σ' H', Δ δ' es' → Lw m a H H' → Sl X.K m C H' σ' δ' → Cont X.K m C H' a es' → Dn.nx σ' H') → wSs X sts Dn σ H
def RtL (sts : List Stmt) (R : D → Prop) : Prop := ∀ σ H0 H, Sl X.K (m.add a) C H σ δ → Cont X.K (m.add a) C H a es → ¬ m.mut a → H0 a = none → Lw (m.add a) a (upd H0 a (.lst [])) H → ∀ Dn : Ends, (∀ d v H', R d → Le m H0 H' → Rp X.K m C H' d v → Dn.rt v H') → wSs X sts Dn σ H
/-- with the list read -/
def El (e : Expr) (P : D → Prop) : Prop := ∀ σ H, Sl X.K m C H σ δ → Cont X.K m C H a es → ∀ Q : VK, (∀ d v H2, P d → Le m H H2 → Rp X.K m C H2 d v → Q v H2) → wE X e σ H Q
end
def EvIP (X : Cx) (m : Md) (C : Addr) (δ : Dl) (tg iter : Expr) (L : List D → Prop) : Prop := ∃ wi, PI X tg iter wi ∧ ∀ σ H, Sl X.K m C H σ δ → ∀ (Rr : It → Hp → Prop), (∀ ds J H1, L ds → Le m H H1 → Walks X.K m C J ds H1 → Rr J H1) → wi σ H Rr
section
variable {X : Cx} {m : Md} {C : Addr} {a : Addr} {δ δ' : Dl} {es : List D} {e c tg iter b : Expr} {pos px p1 p2 apos : Pos} {st : Stmt} {sts body els : List Stmt} {Δ Δ' : Dl → List D → Prop} {D1 : Dl → Prop} {R Pr : D → Prop} {T : Bool → Prop} {n : Str} {s j : Nat} {A : Int → Prop}
theorem nl_p (h : NxP X m C δ st D1) (ha : a ∈ m.more) : Nl X m C a δ es st (fun δ' es' => D1 δ' ∧ es' = es) := fun σ H E c Dn q => h σ H E Dn fun δ' σ' H' p l E' => q δ' es σ' H' ⟨p, rfl⟩ (.of_le l) E' (c.le E ha l)
theorem nl_s (h : NxS X m C δ st δ') (ha : a ∈ m.more) : Nl X m C a δ es st (fun z es' => z = δ' ∧ es' = es) := nl_p h.p ha
theorem nls_nil (k : Δ δ es) : Nls X m C a δ es [] Δ := fun σ H E c Dn q => ofPSs pss_nil (q δ es σ H k .refl E c)
theorem nls_cons (h : Nl X m C a δ es st Δ) (h2 : ∀ δ' es', Δ δ' es' → Nls X m C a δ' es' sts Δ') : Nls X m C a δ es (st :: sts) Δ' := fun σ H E c Dn q =>
  ofPSs (pss_cons psW pssW) (h σ H E c _ fun δ' es' σ' H' p l E' c' => h2 δ' es' p σ' H' E' c' Dn fun δ2 es2 σ2 H2 p2 l2 E2 c2 => q δ2 es2 σ2 H2 p2 (l.trans l2) E2 c2)
theorem nls_one (h : Nl X m C a δ es st Δ) : Nls X m C a δ es [st] Δ := nls_cons h fun _ _ p => nls_nil p
theorem nl_imp (h : Nl X m C a δ es st Δ) (k : ∀ δ' es', Δ δ' es' → Δ' δ' es') : Nl X m C a δ es st Δ' := fun σ H E c Dn q => h σ H E c Dn fun δ' es' σ' H' p => q δ' es' σ' H' (k δ' es' p)
theorem nl_if (hc : EvTP X m C δ c T) (ha : a ∈ m.more) (h1 : T true → Nls X m C a δ es body Δ) (h2 : T false → Nls X m C a δ es els Δ) : Nl X m C a δ es (.If c body els pos) Δ := fun σ H E ct Dn q =>
  ofPS (ps_if ptW pssW pssW) (hc σ H E _ fun t H1 ht l1 => by
    cases t with
    | true => exact iteT (h1 ht σ H1 (E.le l1) (ct.le E ha l1) _ fun δ' es' σ2 H2 p l2 E2 c2 => q δ' es' σ2 H2 p ((Lw.of_le l1).trans l2) E2 c2)
    | false => exact iteF (h2 ht σ H1 (E.le l1) (ct.le E ha l1) _ fun δ' es' σ2 H2 p l2 E2 c2 => q δ' es' σ2 H2 p ((Lw.of_le l1).trans l2) E2 c2))
theorem own_at {K : PySem.W.Frag} {H : Hp} {σ : L2.St} (E : Sl K m C H σ δ) (hδ : δ[s]? = some (some (.own a))) : σ[s]? = some (some (.ref a)) := by
  obtain ⟨v, h1, h2⟩ := E.at_ s _ hδ
  rw [h1, show v = .ref a from h2]
/-- xs.append(e) -/
theorem nl_push (s : Nat) (h : El X m C a δ es e Pr) (ha : a ∈ m.more) (hz : es.length < 1000000) (hδ : δ[s]? = some (some (.own a)) := by rfl) (hN : X.N[s]? = some n := by rfl) (hv : Vis X.env.scope n := by first | exact Or.inl rfl | exact Or.inr (Or.inl rfl) | exact Or.inr (Or.inr rfl))
    (hd : (n == ("__debug__" : Str)) = false := by decide) (hcd : (n == ("__classdict__" : Str)) = false := by decide) (hbase : attributeBase (.Name n p1) "append" X.env (eval (.Name n p1) X.env) = eval (.Name n p1) X.env := by rfl) (hsw : swapsWith (.Call (.Attribute (.Name n p1) "append" apos) [e] [] p2) none pos.line X.env = pure false := by rfl)
    (hfew : ((backTo p2 (starEach [e] X.env)).all (fun x => !x.1) && (backToKw p2 (keywordEach [] X.env)).all (fun x => x.1.isSome)
      && decide (([e] : List Expr).length + ([] : List Keyword).length + (if ([] : List Keyword).isEmpty then 0 else 1) < 30)) = true := by rfl)
    (hline : (apos.endLine == p2.line) = true := by rfl) (hs : starEach [e] X.env = (false, eval e X.env) :: starEach [] X.env := by rfl) (hplain : (backTo p2 (starEach [] X.env)).any (·.1) = false := by rfl) :
    Nl X m C a δ es (.Expr (.Call (.Attribute (.Name n p1) "append" apos) [e] [] p2) pos) (fun δ' es' => δ' = δ ∧ ∃ d, Pr d ∧ es' = es ++ [d]) := fun σ H E ct Dn q => by
  have g := own_at E hδ
  obtain ⟨acc, hacc, _⟩ := id ct
  refine ofPS (ps_expr (pe_bm PySem.F.plainAttrs_list PySem.F.slot_list_append PySem.F.type_list_append mt_append (pe_var hN hv hd hcd) (pa_cons peW pa_nil hs) hbase hfew hline hs hplain) hsw) ⟨_, g, .inl ⟨rfl, _, SqL.of hacc⟩, ?_⟩
  refine h σ H E ct _ fun d v H2 hp l r => ?_
  have E2 := E.le l
  have c2 := ct.le E ha l
  obtain ⟨acc2, hacc2, r2⟩ := id c2
  obtain ⟨lw, E3, c3⟩ := c2.wr (es' := es ++ [d]) (ys := acc2 ++ [v]) E2 ha fun acc h1 h2 => by
    rw [hacc2] at h1
    cases h1
    exact r2.append (.one r)
  exact ⟨a, acc2, v, rfl, rfl, hacc2, by rw [r2.length, sizeLine_eq]; omega, q δ _ σ _ ⟨rfl, d, hp, rfl⟩ ((Lw.of_le l).trans lw) E3 c3⟩
/-- xs.insert(i, x) -/
theorem nl_insert {x : D} (s : Nat) (hi : El X m C a δ es e (IntP (fun i => 0 ≤ i ∧ i ≤ es.length))) (hx : Ev X m C δ b x) (ha : a ∈ m.more) (hz : es.length < 1000000) (hδ : δ[s]? = some (some (.own a)) := by rfl) (hN : X.N[s]? = some n := by rfl) (hv : Vis X.env.scope n := by first | exact Or.inl rfl | exact Or.inr (Or.inl rfl) | exact Or.inr (Or.inr rfl))
    (hd : (n == ("__debug__" : Str)) = false := by decide) (hcd : (n == ("__classdict__" : Str)) = false := by decide) (hbase : attributeBase (.Name n p1) "insert" X.env (eval (.Name n p1) X.env) = eval (.Name n p1) X.env := by rfl) (hsw : swapsWith (.Call (.Attribute (.Name n p1) "insert" apos) [e, b] [] p2) none pos.line X.env = pure false := by rfl)
    (hfew : ((backTo p2 (starEach [e, b] X.env)).all (fun x => !x.1) && (backToKw p2 (keywordEach [] X.env)).all (fun x => x.1.isSome)
      && decide (([e, b] : List Expr).length + ([] : List Keyword).length + (if ([] : List Keyword).isEmpty then 0 else 1) < 30)) = true := by rfl)
    (hline : (apos.endLine == p2.line) = true := by rfl) (hs : starEach [e, b] X.env = (false, eval e X.env) :: starEach [b] X.env := by rfl) (hs2 : starEach [b] X.env = (false, eval b X.env) :: starEach [] X.env := by rfl) (hplain : (backTo p2 (starEach [b] X.env)).any (·.1) = false := by rfl) :
    Nl X m C a δ es (.Expr (.Call (.Attribute (.Name n p1) "insert" apos) [e, b] [] p2) pos) (fun δ' es' => δ' = δ ∧ es'.Perm (x :: es)) := fun σ H E ct Dn q => by
  have g := own_at E hδ
  obtain ⟨acc, hacc, _⟩ := id ct
  refine ofPS (ps_expr (pe_bm PySem.F.plainAttrs_list PySem.F.slot_list_insert PySem.F.type_list_insert mt_insert (pe_var hN hv hd hcd) (pa_cons peW (pa_cons peW pa_nil hs2) hs) hbase hfew hline hs hplain) hsw) ⟨_, g, .inl ⟨rfl, _, SqL.of hacc⟩, ?_⟩
  refine hi σ H E ct _ fun d v H2 ⟨i, e1, h0, h1⟩ l r => ?_
  subst e1
  cases (show v = .int i from r)
  refine hx.go (E.le l) fun w H3 l3 r3 => ?_
  have l13 := l.trans l3
  have E3 := E.le l13
  have c3 := ct.le E ha l13
  obtain ⟨acc3, hacc3, r4⟩ := id c3
  obtain ⟨lw, E4, c4⟩ := c3.wr (es' := es.take i.toNat ++ [x] ++ es.drop i.toNat) (ys := acc3.take i.toNat ++ [w] ++ acc3.drop i.toNat) E3 ha fun acc h1 h2 => by
    rw [hacc3] at h1
    cases h1
    exact ((r4.take _).append (.one r3)).append (r4.drop _)
  refine ⟨a, acc3, i, w, rfl, rfl, hacc3, by rw [r4.length, sizeLine_eq]; omega, h0, by omega, q δ _ σ _ ⟨rfl, ?_⟩ ((Lw.of_le l13).trans lw) E4 c4⟩
  rw [List.append_assoc]
  have e : x :: (es.take i.toNat ++ es.drop i.toNat) = x :: es := by rw [List.take_append_drop]
  rw [← e]
  exact List.perm_middle
/-- for x in t -/
theorem nl_for (Pv : Nat → Dl → List D → Prop) {L : List D → Prop} (hi : EvIP X m C δ (.Name n px) iter L) (ha : a ∈ m.more) (h0 : Pv 0 δ es) (hp : PassesOwn (model X.prog X.w) X.A X.env X.xe) (hc : X.calm = true) (hN : X.N.Nodup)
    (hb : ∀ ds i d δ' es', L ds → ds[i]? = some d → Pv i δ' es' → Nls X m C a (δ'.set j (some d)) es' body (Pv (i + 1)))
    (hj : X.N[j]? = some n := by rfl) (hx : Loc X.env.scope n := by first | exact Or.inl rfl | exact Or.inr rfl) (hf : X.fn n = true ∨ X.env.scope.names.lookup n = some .local := by first | exact .inl rfl | exact .inr rfl)
    (hset : ∀ x, foldedSetIterable iter X.env x = pure x := by intro _; rfl) : Nl X m C a δ es (.For (.Name n px) iter body [] pos) (fun δ' es' => ∃ ds, L ds ∧ Pv ds.length δ' es') := fun σ H E ct Dn q => by
  obtain ⟨wi, pi, hiT⟩ := hi
  refine ofPS (ps_for hp hc pi (pg_name hN hj hx hf) pssW hset) (hiT σ H E _ fun ds J H1 hL l1 w => ?_)
  refine ⟨fun i k σ' H' => k = ds.length - i ∧ i ≤ ds.length ∧ Lw m a H1 H' ∧ ∃ δ' es', Pv i δ' es' ∧ Sl X.K m C H' σ' δ' ∧ Cont X.K m C H' a es', ⟨ds.length, by simp, Nat.zero_le _, .refl, δ, es, h0, E.le l1, ct.le E ha l1⟩, ?_⟩
  rintro i k σ' H' ⟨rfl, hi, lw, δ', es', p, E', c'⟩
  have per : Pers m H1 H' := Pers.of_lw ha lw
  by_cases hlt : i < ds.length
  · refine .inr ⟨w.go i H' per hlt, fun σ2 H2 => Lw m a H1 H2 ∧ ∃ δ' es', Pv (i + 1) δ' es' ∧ Sl X.K m C H2 σ2 δ' ∧ Cont X.K m C H2 a es', fun σ2 H2 ⟨lw2, z⟩ => ⟨ds.length - (i + 1), by omega, rfl, hlt, lw2, z⟩, fun x H2 y => ?_⟩
    obtain ⟨e1, d, hd', r⟩ := w.yld i H' x H2 per hlt y
    subst e1
    exact hb ds i d δ' es' hL hd' p _ _ (E'.set (r.pers per)) c' _ fun δ2 es2 σ3 H3 p2 l2 E2 c2 => ⟨lw.trans l2, δ2, es2, p2, E2, c2⟩
  · have e : i = ds.length := by omega
    subst e
    exact .inl ⟨w.stop H' per, q δ' es' σ' H' ⟨ds, hL, p⟩ ((Lw.of_le l1).trans lw) E' c'⟩
theorem EvI.p {ds : List D} (h : EvI X m C δ tg e ds) : EvIP X m C δ tg e (fun z => z = ds) := by
  obtain ⟨wi, pi, h⟩ := h
  exact ⟨wi, pi, fun σ H E Rr q => h σ H E Rr fun J H1 l w => q ds J H1 rfl l w⟩
/-- range(n), n drawn -/
theorem ei_rangeP (hm : X.mg "range" = none) (h : EvP X m C δ e (IntP A)) (hn : ∀ n, A n → 0 ≤ n ∧ n < 1000000) (hg : Gl X "range" := by rfl) (he : starEach [e] X.env = (false, eval e X.env) :: starEach [] X.env := by rfl) (hs : starEach [e] X.env = [(false, eval e X.env)] := by rfl) :
    EvIP X m C δ tg (.Call (.Name "range" p1) [e] [] pos) (fun ds => ∃ n, A n ∧ ds = rngD 0 n.toNat) := ⟨_, pi_range1 hg hm paW hs, fun σ H E Rr q => ea_oneP h he σ H E _ fun ds vs H1 ⟨d, e1, n, e2, hA⟩ l1 r1 => by
    subst e1 e2
    obtain ⟨v, e3, r⟩ := one_rp r1
    rw [show v = V.int n from r] at e3
    have := hn n hA
    exact ⟨n, e3, by omega, by omega, q _ _ H1 ⟨n, hA, rfl⟩ l1 walks_rng⟩⟩
/-! blocks that return -/
theorem rtl_cons (h : Nl X (m.add a) C a δ es st Δ) (h2 : ∀ δ' es', Δ δ' es' → RtL X m C a δ' es' sts R) : RtL X m C a δ es (st :: sts) R := fun σ H0 H E c hm n l Dn q =>
  ofPSs (pss_cons psW pssW) (h σ H E c _ fun δ' es' σ' H' p l' E' c' => h2 δ' es' p σ' H0 H' E' c' hm n (l.trans l') Dn q)
theorem rtl_ret (s : Nat) (hR : R (.lst es)) (hδ : δ[s]? = some (some (.own a)) := by rfl) (hN : X.N[s]? = some n := by rfl) (hv : Vis X.env.scope n := by first | exact Or.inl rfl | exact Or.inr (Or.inl rfl) | exact Or.inr (Or.inr rfl))
    (hd : (n == ("__debug__" : Str)) = false := by decide) (hcd : (n == ("__classdict__" : Str)) = false := by decide) : RtL X m C a δ es (.Return (some (.Name n p1)) pos :: sts) R := fun σ H0 H E c hm n l Dn q =>
  ofPSs (pss_cons (u := tNever) (ps_ret (pe_var hN hv hd hcd)) pss_never) ⟨_, own_at E hδ, q _ _ H hR (l.leave n) (c.done hm)⟩
/-- xs = [] -/
theorem rt_own (s : Nat) (h : ∀ a, RtL X m C a (δ.set s (some (.own a))) [] sts R) (hN : X.N.Nodup) (hi : X.N[s]? = some n := by rfl) (hx : Loc X.env.scope n := by first | exact Or.inl rfl | exact Or.inr rfl) (hs : swapsWith (.List [] p2) (some (.Name n p1)) pos.line X.env = pure false := by rfl)
    (hf : X.fn n = true ∨ X.env.scope.names.lookup n = some .local := by first | exact .inl rfl | exact .inr rfl) : Rt X m C δ (.Assign [.Name n p1] (.List [] p2) pos :: sts) R := fun σ H E Dn q =>
  ofPSs (pss_cons (ps_set hN hi hx (pe_lst pa_nil) hs hf) pssW) ⟨by decide, fun a na => by
    obtain ⟨E2, c2⟩ := own_new (s := s) E na
    exact h a _ H _ E2 c2 (E.new na) na .refl Dn q⟩
/-- y, xs = e, [] -/
theorem rt_own2 (i s : Nat) {y : Str} {k k2 : Nat} {d : D} {p3 p4 : Pos} (he : Ev X m C δ e d) (h : ∀ a, RtL X m C a ((δ.set i (some d)).set s (some (.own a))) [] sts R) (hc : X.calm = true) (hN : X.N.Nodup) (hij : i ≠ s := by decide) (hi : X.N[i]? = some y := by rfl) (hj : X.N[s]? = some n := by rfl)
    (hx : X.env.scope.names.lookup y = some .local := by rfl) (hy : X.env.scope.names.lookup n = some .local := by rfl) (hst : starEach [e, .List [] p4] X.env = (false, eval e X.env) :: starEach [.List [] p4] X.env := by rfl) (hst2 : starEach [.List [] p4] X.env = (false, eval (.List [] p4) X.env) :: starEach [] X.env := by rfl)
    (hw : swappedStores [.Tuple [.Name y p1, .Name n p2] k p3] (.Tuple [e, .List [] p4] k2 apos) X.env = pure (some [y, n]) := by rfl)
    (hs : swapsWithSole [.Tuple [.Name y p1, .Name n p2] k p3] (.Tuple [e, .List [] p4] k2 apos) pos.line X.env = pure false := by rfl) :
    Rt X m C δ (.Assign [.Tuple [.Name y p1, .Name n p2] k p3] (.Tuple [e, .List [] p4] k2 apos) pos :: sts) R := fun σ H E Dn q =>
  ofPSs (pss_cons (ps_par hc hN hi hj hij hx hy (pa_cons peW (pa_cons (pe_lst pa_nil) pa_nil hst2) hst) hw hs) pssW) (he.go E fun v H1 l1 r1 => ⟨by decide, fun a na => by
    obtain ⟨E2, c2⟩ := own_new (s := s) ((E.le l1).set (i := i) r1) na
    exact ⟨_, _, rfl, h a _ H1 _ E2 c2 ((E.le l1).new na) na .refl Dn fun d v H' hd l r => q d v H' hd (l1.trans l) r⟩⟩)
/-! reading the list -/
theorem EvP.l (h : EvP X m C δ e Pr) : El X m C a δ es e Pr := fun σ H E _ Q q => h σ H E Q q
theorem el_len (s : Nat) (hm : X.mg "len" = none) (hδ : δ[s]? = some (some (.own a)) := by rfl) (hN : X.N[s]? = some n := by rfl) (hv : Vis X.env.scope n := by first | exact Or.inl rfl | exact Or.inr (Or.inl rfl) | exact Or.inr (Or.inr rfl))
    (hd : (n == ("__debug__" : Str)) = false := by decide) (hcd : (n == ("__classdict__" : Str)) = false := by decide) (hg : Gl X "len" := by rfl) (hs : starEach [.Name n p1] X.env = (false, eval (.Name n p1) X.env) :: starEach [] X.env := by rfl) (hpl : (backTo pos (starEach [] X.env)).any (·.1) = false := by rfl) :
    El X m C a δ es (.Call (.Name "len" p2) [.Name n p1] [] pos) (fun d => d = .int es.length) := fun σ H E ⟨acc, h1, r⟩ Q q =>
  ofPE (pe_callB call_len_seq hg hm PySem.boot_len (pa_cons (pe_var hN hv hd hcd) pa_nil hs) (by decide) (by decide) hs hpl) ⟨_, own_at E hδ, a, acc, rfl, .inl (SqL.of h1), q (.int es.length) _ H rfl (.refl m H) (by rw [r.length]; rfl)⟩
end
end PB

/-! _law_one, _law_mixed -/
namespace PB
open PySem PySem.Spec PyProof.Rows L2
open PP (Call Spot Word)
section
variable {X : Cx} {m : Md} {C : Addr} {a : Addr} {δ : Dl} {es : List D} {e b : Expr} {args : List Expr} {pos p1 : Pos} {d : D} {ds : List D} {R : D → Prop} {k j n : Nat} {nm : Str} {Pr : List D → (D → Prop) → Prop}
def ElA (X : Cx) (m : Md) (C : Addr) (a : Addr) (δ : Dl) (es : List D) (args : List Expr) (ds : List D) : Prop := ∀ σ H, Sl X.K m C H σ δ → Cont X.K m C H a es → ∀ Q : List V → Hp → Prop, (∀ vs H2, Le m H H2 → RpAll X.K m C H2 ds vs → Q vs H2) → wA X args σ H Q
theorem la_nil : ElA X m C a δ es [] [] := fun σ H E c Q q => ofPA pa_nil (q [] H (.refl m H) rfl)
theorem la_cons (h : El X m C a δ es e (fun z => z = d)) (hr : ElA X m C a δ es args ds) (ha : a ∈ m.more) (hs : starEach (e :: args) X.env = (false, eval e X.env) :: starEach args X.env := by rfl) : ElA X m C a δ es (e :: args) (d :: ds) := fun σ H E c Q q =>
  ofPA (pa_cons peW paW hs) (h σ H E c _ fun d' v H1 e1 l1 r1 => hr σ H1 (E.le l1) (c.le E ha l1) _ fun vs H2 l2 r2 => q (v :: vs) H2 (l1.trans l2) ⟨v, vs, rfl, (e1 ▸ r1).le l2, r2⟩)
theorem el_f (G : Fx X.prog X.w X.K X.mg X.base C nm k n Pr) (hr : Room j X.A) (ha : ElA X m C a δ es (e :: args) ds) (hp : Pr ds R) (hk : k ≤ j := by decide) (hn : ds.length = n := by rfl)
    (hg : Gl X nm := by rfl) (hdb : (nm == ("__debug__" : Str)) = false := by decide) (he : starEach (e :: args) X.env = (false, eval e X.env) :: starEach args X.env := by rfl) (hpl : (backTo pos (starEach args X.env)).any (·.1) = false := by rfl) : El X m C a δ es (.Call (.Name nm p1) (e :: args) [] pos) R := fun σ H E c Q q =>
  at_f G hr E (fun Q q => ha σ H E c Q q) hp q hk hn hg hdb he hpl
theorem el_imp {R' : D → Prop} (h : El X m C a δ es e R) (k : ∀ d, R d → R' d) : El X m C a δ es e R' := fun σ H E c Q q => h σ H E c Q fun d v H2 p => q d v H2 (k d p)
theorem el_addI {x y : Int} (h : El X m C a δ es e (fun z => z = .int x)) (hb : Ev X m C δ b (.int y)) : El X m C a δ es (.BinOp e .Add b pos) (fun z => z = .int (x + y)) := fun σ H E c Q q =>
  ofPE (pe_op op_add peW peW) (h σ H E c _ fun d u H1 e1 l1 r1 => hb.go (E.le l1) fun v H2 l2 r2 => by
    subst e1
    exact ⟨x, y, r1, r2, q (.int (x + y)) _ H2 rfl (l1.trans l2) rfl⟩)
theorem more_add {m : Md} {a : Addr} : a ∈ (m.add a).more := List.mem_cons_self
end
section
variable {P : Program} {w : World} {K : PySem.W.Frag} {mg : Str → Option Value} {base : Heap} {C : Addr}
def P_one : List D → (D → Prop) → Prop := fun ds R => ∃ es : List D, ds = [.bag, .lst es] ∧ 0 < es.length ∧ es.length < 1000000 ∧ R = fun d => d ∈ es
theorem sc_one : FnScope ["_law_bag_here", "_law_some"] ["_law_bag_here", "_law_some"] (defScope (topS 50)) := ⟨rfl, rfl, rfl, by decide +kernel, rfl, by decide +kernel, by decide +kernel⟩
theorem fx_one (T : Txt K w mg C) : Fx P w K mg base C "_law_one" 2 2 P_one :=
  fx_mk (k := 1) T.one sc_one rfl fun f cdv A outer s0 H E hr m ds R hn ⟨es, hd, h0, h1, e⟩ => by
    subst e hd
    refine rt_ret (ev_ixLi (ev_name 1) (ec_fP (fx_take T) hr (ea_cons (ev_name 0) (ea_cons (ev_lenL T.b.len (ev_name 1)) ea_nil)) ⟨es.length, rfl, by omega, by omega, rfl⟩) fun i ⟨i0, i1⟩ => ?_)
    have hi : i.toNat < es.length := by omega
    have := atI_nat (j := i.toNat) (List.getElem?_eq_getElem hi)
    rw [show ((i.toNat : Nat) : Int) = i by omega] at this
    exact ⟨_, this, List.getElem_mem hi⟩
def P_mixed : List D → (D → Prop) → Prop := fun ds R => ∃ es : List D, ds = [.bag, .lst es] ∧ es.length ≤ 1000 ∧ R = fun d => ∃ es' : List D, d = .lst es' ∧ es'.Perm es
abbrev nMx : List Str := ["_law_bag_here", "_law_things", "_law_found", "_law_thing"]
theorem sc_mixed : FnScope nMx ["_law_bag_here", "_law_things"] (defScope (topS 51)) := ⟨rfl, rfl, rfl, by decide +kernel, rfl, by decide +kernel, by decide +kernel⟩
theorem fx_mixed (T : Txt K w mg C) : Fx P w K mg base C "_law_mixed" 2 2 P_mixed :=
  fx_mk (k := 1) T.mixed sc_mixed rfl fun f cdv A outer s0 H E hr m ds R hn ⟨es, hd, hl, e⟩ => by
    subst e hd
    refine rt_own 2 (fun a => ?_) sc_mixed.nd
    refine rtl_cons (nl_for (j := 3) (fun i δ' es' => (∃ o, δ' = [some .bag, some (.lst es), some (.own a), o]) ∧ es'.Perm (es.take i) ∧ es'.length ≤ 1000) (ei_lst (ev_name 1)).p more_add ⟨⟨none, rfl⟩, by simp, by simp⟩ PassesOwn.never rfl sc_mixed.nd ?_) ?_
    · rintro ds i d δ' es' rfl hd ⟨⟨o, rfl⟩, hp, hl'⟩
      have hi : i < ds.length := (List.getElem?_eq_some_iff.mp hd).1
      have hl2 := hp.length_eq
      rw [List.length_take] at hl2
      refine nls_one (nl_imp (nl_insert 2 (el_imp (el_f (fx_take T) hr (la_cons ((ev_name 0).l) (la_cons (el_addI (el_len 2 T.b.len) ev_int) la_nil more_add) more_add) ⟨(es'.length : Int) + 1, rfl, by omega, by omega, rfl⟩) ?_) (ev_name 3) more_add (by omega)) ?_)
      · rintro d' ⟨r, rfl, h0, h1⟩
        exact ⟨r, rfl, h0, by omega⟩
      · rintro δ' es2 ⟨rfl, hp2⟩
        have e : ds.take (i + 1) = ds.take i ++ [d] := by rw [List.take_add_one, hd]; rfl
        refine ⟨⟨_, rfl⟩, ?_, ?_⟩
        · rw [e]
          exact hp2.trans ((hp.cons d).trans (List.perm_append_singleton d _).symm)
        · rw [hp2.length_eq, List.length_cons]
          omega
    · rintro δ' es' ⟨ds, rfl, ⟨o, rfl⟩, hp, _⟩
      rw [List.take_length] at hp
      exact rtl_ret 2 ⟨es', rfl, hp⟩
end
end PB

/-! _law_call, _law_size, _law_calls -/
namespace PB
open PySem PySem.Spec PyProof.Rows L2
open PP (Call Spot Word)
section
variable {X : Cx} {m : Md} {C : Addr} {a : Addr} {δ : Dl} {es es' : List D} {e b : Expr} {args : List Expr} {pos p1 p2 p3 : Pos} {d : D} {ds : List D} {R : D → Prop} {A : List D → Prop} {k j : Nat}
theorem EvA.imp {L L' : List D → Prop} (h : EvA X m C δ args L) (q : ∀ ds, L ds → L' ds) : EvA X m C δ args L' := fun σ H E Q k => h σ H E Q fun ds vs H2 p => k ds vs H2 (q ds p)
def LstP (A : List D → Prop) : D → Prop := fun d => ∃ es, d = .lst es ∧ A es
theorem ev_slLP {lo hi : Option Expr} {l u : Option Int} (ha : EvP X m C δ e (LstP A)) (hl : EvO X m C δ lo l) (hh : EvO X m C δ hi u) : EvP X m C δ (.Subscript e (.Slice lo hi none p2) pos) (LstP fun z => ∃ es, A es ∧ z = cutD es l u) := fun σ H E Q q => by
  obtain ⟨tl, pl, el⟩ := hl
  obtain ⟨th, ph, eh⟩ := hh
  refine ofPE (pe_slice sl_list peW pl ph) (ha σ H E _ fun d v H1 ⟨ds, e0, hA⟩ l1 r1 => ?_)
  subst e0
  obtain ⟨p, xs, e1, h1, h0, r1⟩ := r1
  refine el σ H1 (E.le l1) _ fun H2 l2 => eh σ H2 (E.le (l1.trans l2)) _ fun H3 l3 => ?_
  have l23 := l2.trans l3
  exact ⟨p, xs, e1, SqL.of (l23.keep _ _ h1 fun z => absurd (.inl z) h0), fun p' np => q (.lst (cutD ds l u)) _ _ ⟨_, rfl, ds, hA, rfl⟩ ((l1.trans l23).trans (.new np)) ⟨p', _, rfl, upd_same, (E.le (l1.trans l23)).new np, cut_rp ((r1.le l23).le (.new np))⟩⟩
theorem nx_parP (i j : Nat) {n1 n2 : Str} {k k2 : Nat} {pt2 : Pos} {L : List D → Prop} (h : EvA X m C δ [e, b] L) (hL : ∀ ds, L ds → ds.length = 2) (hc : X.calm = true) (hN : X.N.Nodup) (hij : i ≠ j := by decide) (hi : X.N[i]? = some n1 := by rfl) (hj : X.N[j]? = some n2 := by rfl)
    (hx : X.env.scope.names.lookup n1 = some .local := by rfl) (hy : X.env.scope.names.lookup n2 = some .local := by rfl)
    (hw : swappedStores [.Tuple [.Name n1 p1, .Name n2 p2] k p3] (.Tuple [e, b] k2 pt2) X.env = pure (some [n1, n2]) := by rfl)
    (hs : swapsWithSole [.Tuple [.Name n1 p1, .Name n2 p2] k p3] (.Tuple [e, b] k2 pt2) pos.line X.env = pure false := by rfl) :
    NxP X m C δ (.Assign [.Tuple [.Name n1 p1, .Name n2 p2] k p3] (.Tuple [e, b] k2 pt2) pos) (fun δ' => ∃ x y, L [x, y] ∧ δ' = (δ.set i (some x)).set j (some y)) := fun σ H E Dn q =>
  ofPS (ps_par hc hN hi hj hij hx hy paW hw hs) (h σ H E _ fun ds vs H1 p l1 r1 => by
    have hl := hL ds p
    match ds, hl with
    | [x, y], _ =>
      obtain ⟨u, w, e2, r2, r3⟩ := two_rp r1
      exact ⟨u, w, e2, q _ _ H1 ⟨x, y, p, rfl⟩ l1 (((E.le l1).set r2).set r3)⟩)
theorem rgV_ints (lo hi : Int) : rgV lo hi = (PP.intsF lo (hi - lo).toNat).map V.int := by
  unfold rgV PP.intsF
  rw [List.map_map]
  rfl
/-- list(range(n)), list(range(a, b)) -/
theorem ev_listR1 {n : Int} (hc : X.calm = true) (hm1 : X.mg "list" = none) (hm : X.mg "range" = none) (h : Ev X m C δ e (.int n)) (hn : 0 ≤ n ∧ n < 1000000) (hg1 : Gl X "list" := by rfl) (hg : Gl X "range" := by rfl) (he : starEach [e] X.env = (false, eval e X.env) :: starEach [] X.env := by rfl)
    (he2 : starEach [.Call (.Name "range" p1) [e] [] p2] X.env = (false, eval (.Call (.Name "range" p1) [e] [] p2) X.env) :: starEach [] X.env := by rfl) : Ev X m C δ (.Call (.Name "list" p3) [.Call (.Name "range" p1) [e] [] p2] [] pos) (.lst ((PP.intsF 0 n.toNat).map D.int)) := .mk fun σ H E Q q =>
  ofPE (pe_listRg hc hg1 hm1 (prg_1 hg hm peW he) he2) (h.go E fun v H1 l1 r1 => ⟨n, r1, .of_le (by omega) (by omega) (by omega) (by omega), fun p np => q _ _ (l1.trans (.new np)) ⟨p, _, rfl, upd_same, (E.le l1).new np, by
    rw [rgV_ints, Int.sub_zero]
    exact .ints⟩⟩)
theorem ev_listR2 {lo hi : Int} (hc : X.calm = true) (hm1 : X.mg "list" = none) (hm : X.mg "range" = none) (h : Ev X m C δ e (.int lo)) (h2 : Ev X m C δ b (.int hi)) (hn : 0 ≤ lo ∧ lo < 1000000 ∧ 0 ≤ hi ∧ hi < 1000000) (hg1 : Gl X "list" := by rfl) (hg : Gl X "range" := by rfl) (he : starEach [e, b] X.env = (false, eval e X.env) :: starEach [b] X.env := by rfl)
    (hb : starEach [b] X.env = (false, eval b X.env) :: starEach [] X.env := by rfl) (hp : (backTo p2 (starEach [b] X.env)).any (·.1) = false := by rfl)
    (he2 : starEach [.Call (.Name "range" p1) [e, b] [] p2] X.env = (false, eval (.Call (.Name "range" p1) [e, b] [] p2) X.env) :: starEach [] X.env := by rfl) : Ev X m C δ (.Call (.Name "list" p3) [.Call (.Name "range" p1) [e, b] [] p2] [] pos) (.lst ((PP.intsF lo (hi - lo).toNat).map D.int)) := .mk fun σ H E Q q =>
  ofPE (pe_listRg hc hg1 hm1 (prg_2 hg hm peW peW he hb hp) he2) (h.go E fun v H1 l1 r1 => h2.go (E.le l1) fun u H2 l2 r2 => ⟨lo, hi, r1, r2, .of_le (by omega) (by omega) (by omega) (by omega), fun p np => q _ _ ((l1.trans l2).trans (.new np)) ⟨p, _, rfl, upd_same, (E.le (l1.trans l2)).new np, by
    rw [rgV_ints]
    exact .ints⟩⟩)
end
/-- two of the files, mixed -/
theorem two_of {fs : Int} (hfs : fs = 2 ∨ fs = 3) {es : List D} (hp : es.Perm ((PP.intsF 0 fs.toNat).map D.int)) : ∃ f g : Int, cutD es none (some 2) = [.int f, .int g] ∧ 0 ≤ f ∧ f < fs ∧ 0 ≤ g ∧ g < fs ∧ f ≠ g ∧ atI es 0 = some (.int f) ∧ atI es 1 = some (.int g) := by
  have hl : es.length = fs.toNat := by rw [hp.length_eq, List.length_map, PP.ints_len]
  have hnd : es.Nodup := by
    refine hp.nodup_iff.mpr ?_
    unfold PP.intsF
    rw [List.map_map]
    refine List.Pairwise.map _ ?_ List.nodup_range
    intro a b h z
    have := D.int.inj (show D.int (0 + (a : Int)) = D.int (0 + (b : Int)) from z)
    exact h (by omega)
  have hm : ∀ d ∈ es, ∃ f : Int, d = .int f ∧ 0 ≤ f ∧ f < fs := fun d hd => by
    obtain ⟨f, hf, e⟩ := List.mem_map.mp (hp.mem_iff.mp hd)
    have := PP.mem_ints.mp hf
    exact ⟨f, e.symm, by omega, by omega⟩
  match es, hl, hnd, hm with
  | x :: y :: r, hl, hnd, hm =>
    obtain ⟨f, rfl, f0, f1⟩ := hm x (by simp)
    obtain ⟨g, rfl, g0, g1⟩ := hm _ (List.mem_cons_of_mem _ List.mem_cons_self)
    have hne : f ≠ g := fun z => by
      subst z
      exact (List.nodup_cons.mp hnd).1 List.mem_cons_self
    have e0 : atI ((.int f : D) :: .int g :: r) 0 = some (.int f) := atI_nat (j := 0) rfl
    have e1 : atI ((.int f : D) :: .int g :: r) 1 = some (.int g) := atI_nat (j := 1) rfl
    have e2 : cutD ((.int f : D) :: .int g :: r) none (some 2) = [.int f, .int g] := by
      have h1 : HT.sIx (r.length + 2) 0 none = 0 := rfl
      have h2 : HT.sIx (r.length + 2) (r.length + 2) (some 2) = 2 := by
        simp only [HT.sIx]
        first
          | omega
          | (split <;> omega)
          | simp
      unfold cutD
      rw [List.length_cons, List.length_cons, h1, h2]
      rfl
    exact ⟨f, g, e2, f0, f1, g0, g1, hne, e0, e1⟩
  | [x], hl, _, _ => exfalso; rw [List.length_singleton] at hl; omega
  | [], hl, _, _ => exfalso; rw [List.length_nil] at hl; omega
section
variable {P : Program} {w : World} {K : PySem.W.Frag} {mg : Str → Option Value} {base : Heap} {C : Addr}
/-! ### _law_call -/
abbrev kinds0 : List Str := ["all", "up", "up", "wheel", "swap", "about", "front"]
def P_call : List D → (D → Prop) → Prop := fun ds R => ∃ (fs most : Int), ds = [.bag, .int fs, .lst (kinds0.map D.str), .int most] ∧ (fs = 2 ∨ fs = 3) ∧ 0 < most ∧ most < 1000 ∧ R = fun d => ∃ c : Call, d = cD c ∧ c.ok fs
abbrev nCa : List Str := ["_law_bag_here", "_law_files", "_law_kinds", "_law_most", "_law_k", "_law_word", "_law_pair"]
theorem sc_lcall : FnScope nCa ["_law_bag_here", "_law_files", "_law_kinds", "_law_most"] (defScope (topS 53)) := ⟨rfl, rfl, rfl, by decide +kernel, rfl, by decide +kernel, by decide +kernel⟩
theorem fx_lcall (T : Txt K w mg C) : Fx P w K mg base C "_law_call" 3 4 P_call :=
  fx_mk (k := 2) T.call sc_lcall rfl fun f cdv A outer s0 H E hr m ds R hn ⟨fs, most, hd, hfs, h0, h1, e⟩ => by
    subst e hd
    refine rt_consP (nx_parP 5 6 (ea_consP (ec_fP (fx_one T) hr (ea_cons (ev_name 0) (ea_cons (ev_name 2) ea_nil)) ⟨_, rfl, by decide, by decide, rfl⟩) (ea_oneP (ev_slLP (A := fun es => es.Perm ((PP.intsF 0 fs.toNat).map D.int)) (ec_fP (fx_mixed T) hr (ea_cons (ev_name 0) (ea_cons (ev_listR1 rfl T.b.list T.b.range (ev_name 1) (by omega)) ea_nil)) ⟨_, rfl, by rw [List.length_map, PP.ints_len]; omega, rfl⟩) eo_none (eo_some ev_int)))) ?_ rfl sc_lcall.nd) ?_
    · rintro ds ⟨d, ds', rfl, _, d2, rfl, _⟩
      rfl
    rintro δ' ⟨x, y, ⟨d, ds', e1, hw, d2, e2, es, rfl, es', hp, rfl⟩, rfl⟩
    cases e1
    cases e2
    obtain ⟨fi, g, hcut, f0, f1, g0, g1, hne, _, _⟩ := two_of hfs hp
    rw [hcut]
    obtain ⟨wd, hwd, rfl⟩ := List.mem_map.mp hw
    have hk : EvP (bodyCx P w K mg base nCa "_law_call" (topS 53) f cdv A outer s0 H E) m C [some .bag, some (.int fs), some (.lst (kinds0.map D.str)), some (.int most), none, some (.str wd), some (.lst [.int fi, .int g])] (rhsOf (.Constant .none 0 ⟨0, 0, 0, 0⟩) ((defBody (topS 53)).getD 1 (.Pass ⟨0, 0, 0, 0⟩))) (IntP fun k => k ≠ 0) :=
      ev_mulP (ev_addP (Rr := fun i => 1 ≤ i ∧ i ≤ most) (ev_int.i (A := fun i => i = 1) rfl) (ec_fP (fx_take T) hr (ea_cons (ev_name 0) (ea_cons (ev_name 3) ea_nil)) ⟨most, rfl, h0, by omega, rfl⟩) (fun i j e hj => by subst e; omega))
        (ev_subP (Rr := fun i => i = 1 ∨ i = -1) (ev_int.i (A := fun i => i = 1) rfl) (ev_mulP (Rr := fun i => i = 0 ∨ i = 2) (ev_int.i (A := fun i => i = 2) rfl) (ec_fP (fx_take T) hr (ea_cons (ev_name 0) (ea_cons ev_int ea_nil)) ⟨2, rfl, by decide, by decide, rfl⟩) (fun i j e _ => .inl (by subst e; decide)) (fun i j e hj => by subst e; omega)) (fun i j e hj => by subst e; omega))
        (fun i j _ hj => .inr (by rcases hj with e | e <;> subst e <;> decide)) (fun i j hi hj => by rcases hj with e | e <;> subst e <;> omega)
    refine rt_consP (nx_setP 4 hk sc_lcall.nd) ?_
    rintro δ' ⟨d, ⟨k, rfl, hk0⟩, rfl⟩
    simp only [kinds0, List.mem_cons, List.not_mem_nil, or_false] at hwd
    rcases hwd with rfl | rfl | rfl | rfl | rfl | rfl | rfl
    · exact rt_ifT (et_cmp (ec_eq (ev_name 5) ev_str) (by decide +kernel)) (rt_ret (EvP.imp (ev_tup (ea_cons (ev_name 5) (ea_cons (ev_name 4) ea_nil))) fun z e => ⟨.all k, e, hk0⟩))
    · exact rt_ifF (et_cmp (ec_eq (ev_name 5) ev_str) (by decide +kernel)) (rt_ifT (et_cmp (ec_eq (ev_name 5) ev_str) (by decide +kernel)) (rt_ret (EvP.imp (ev_tup (ea_cons (ev_name 5) (ea_cons (ev_ixL (ev_name 6) ev_int) (ea_cons (ev_name 4) ea_nil)))) fun z e => ⟨.up fi k, e, f0, f1, hk0⟩)))
    · exact rt_ifF (et_cmp (ec_eq (ev_name 5) ev_str) (by decide +kernel)) (rt_ifT (et_cmp (ec_eq (ev_name 5) ev_str) (by decide +kernel)) (rt_ret (EvP.imp (ev_tup (ea_cons (ev_name 5) (ea_cons (ev_ixL (ev_name 6) ev_int) (ea_cons (ev_name 4) ea_nil)))) fun z e => ⟨.up fi k, e, f0, f1, hk0⟩)))
    · exact rt_ifF (et_cmp (ec_eq (ev_name 5) ev_str) (by decide +kernel)) (rt_ifF (et_cmp (ec_eq (ev_name 5) ev_str) (by decide +kernel)) (rt_ifF (et_cmp (ec_inT (ev_name 5) (ev_tup (ea_cons ev_str (ea_cons ev_str ea_nil)))) (by decide +kernel)) (rt_ifT (et_cmp (ec_eq (ev_name 5) ev_str) (by decide +kernel))
        (rt_ret (EvP.imp (ev_tup (ea_cons (ev_name 5) (ea_cons (ev_ixL (ev_name 6) ev_int) (ea_cons (ev_ixL (ev_name 6) ev_int) (ea_cons (ev_name 4) ea_nil))))) fun z e => ⟨.wheel fi g k, e, f0, f1, g0, g1, hne, hk0⟩)))))
    · exact rt_ifF (et_cmp (ec_eq (ev_name 5) ev_str) (by decide +kernel)) (rt_ifF (et_cmp (ec_eq (ev_name 5) ev_str) (by decide +kernel)) (rt_ifT (et_cmp (ec_inT (ev_name 5) (ev_tup (ea_cons ev_str (ea_cons ev_str ea_nil)))) (by decide +kernel))
        (rt_ret (EvP.imp (ev_tup (ea_cons (ev_name 5) (ea_cons (ev_ixL (ev_name 6) ev_int) (ea_cons (ev_ixL (ev_name 6) ev_int) ea_nil)))) fun z e => ⟨.swap fi g, e, f0, f1, g0, g1, hne⟩))))
    · exact rt_ifF (et_cmp (ec_eq (ev_name 5) ev_str) (by decide +kernel)) (rt_ifF (et_cmp (ec_eq (ev_name 5) ev_str) (by decide +kernel)) (rt_ifF (et_cmp (ec_inT (ev_name 5) (ev_tup (ea_cons ev_str (ea_cons ev_str ea_nil)))) (by decide +kernel)) (rt_ifF (et_cmp (ec_eq (ev_name 5) ev_str) (by decide +kernel))
        (rt_ret (EvP.imp (ev_tup (ea_cons (ev_name 5) ea_nil)) fun z e => ⟨.about, e, True.intro⟩)))))
    · exact rt_ifF (et_cmp (ec_eq (ev_name 5) ev_str) (by decide +kernel)) (rt_ifF (et_cmp (ec_eq (ev_name 5) ev_str) (by decide +kernel)) (rt_ifT (et_cmp (ec_inT (ev_name 5) (ev_tup (ea_cons ev_str (ea_cons ev_str ea_nil)))) (by decide +kernel))
        (rt_ret (EvP.imp (ev_tup (ea_cons (ev_name 5) (ea_cons (ev_ixL (ev_name 6) ev_int) (ea_cons (ev_ixL (ev_name 6) ev_int) ea_nil)))) fun z e => ⟨.front fi g, e, f0, f1, g0, g1, hne⟩))))
/-! ### _law_size -/
def F_lsize : List D → D → Prop := fun ds d => ∃ (fs : Int) (cs : List Call), ds = [.lst (cs.map cD)] ∧ (∀ c ∈ cs, c.ok fs) ∧ cs.length ≤ 1000 ∧ d = .int (PP.sizes cs)
theorem sc_lsize : FnScope ["_law_calls_here", "_law_call_here"] ["_law_calls_here"] (defScope (topS 54)) := ⟨rfl, rfl, rfl, by decide +kernel, rfl, by decide +kernel, by decide +kernel⟩
theorem fx_lsize (T : Txt K w mg C) : Fx P w K mg base C "_law_size" 1 1 (det F_lsize) :=
  fx_mk (k := 0) T.size sc_lsize rfl fun f cdv A outer s0 H E hr m ds R hn ⟨d, ⟨fs, cs, hd, hok, hl, e⟩, hR⟩ => by
    subst hR e hd
    refine rt_ret ((ev_sum rfl T.b.sum (ev_lcMI (X := bodyCx P w K mg base _ _ (topS 54) f cdv A outer s0 H E) (j := 1) (L := cs) cD Call.size (ei_lst (ev_name 0)) (by omega) rfl sc_lsize.nd
        (blkOk_by (own := [("_law_call_here", 1)]) (N := ["_law_calls_here", "_law_call_here"]) (sc := defScope (topS 54)) (by decide +kernel)) (fun _ _ _ _ _ => pg_name (i := 1) sc_lsize.nd rfl (Or.inl rfl)) ?_)).is (by rw [sum_sizes]))
    intro c hc p s' H0 Cc cl fp
    have hin : ∀ b, numW c = b → inV (.str (cWord c)) [.str "all", .str "up", .str "wheel"] = b := fun b h => h
    rcases num_last (hok c hc) with ⟨h1, k, h2, h4, _, h3⟩ | ⟨h1, h4, _⟩
    · rw [h4]
      exact ev_ifT ((et_cmp (ec_inT (ev_ixT (ev_name 1) ev_int (item0 c)) (ev_tup (ea_cons ev_str (ea_cons ev_str (ea_cons ev_str ea_nil)))))).is (hin true h1)) (ev_abs T.b.abs (ev_ixT (ev_name 1) (ev_neg ev_int) h3))
    · rw [h4]
      exact ev_ifF ((et_cmp (ec_inT (ev_ixT (ev_name 1) ev_int (item0 c)) (ev_tup (ea_cons ev_str (ea_cons ev_str (ea_cons ev_str ea_nil)))))).is (hin false h1)) ev_int
end
end PB

/-! _law_calls -/
namespace PB
open PySem PySem.Spec PyProof.Rows L2
open PP (Call Spot Word)
section
variable {X : Cx} {m : Md} {C : Addr} {a : Addr} {δ : Dl} {es es' : List D} {e b c : Expr} {args body els : List Stmt} {pos p1 p2 p3 : Pos} {d : D} {Δ : Dl → List D → Prop} {s : Nat} {n : Str}
def ElT (X : Cx) (m : Md) (C : Addr) (a : Addr) (δ : Dl) (es : List D) (e : Expr) (t : Bool) : Prop := ∀ σ H, Sl X.K m C H σ δ → Cont X.K m C H a es → ∀ Q : Bool → Hp → Prop, (∀ H2, Le m H H2 → Q t H2) → wT X e σ H Q
theorem nl_ifE {t : Bool} (hc : ElT X m C a δ es c t) (ha : a ∈ m.more) (h1 : t = true → Nls X m C a δ es body Δ) (h2 : t = false → Nls X m C a δ es els Δ) : Nl X m C a δ es (.If c body els pos) Δ := fun σ H E ct Dn q =>
  ofPS (ps_if ptW pssW pssW) (hc σ H E ct _ fun H1 l1 => by
    cases t with
    | true => exact iteT (h1 rfl σ H1 (E.le l1) (ct.le E ha l1) _ fun δ' es' σ2 H2 p l2 E2 c2 => q δ' es' σ2 H2 p ((Lw.of_le l1).trans l2) E2 c2)
    | false => exact iteF (h2 rfl σ H1 (E.le l1) (ct.le E ha l1) _ fun δ' es' σ2 H2 p l2 E2 c2 => q δ' es' σ2 H2 p ((Lw.of_le l1).trans l2) E2 c2))
theorem elt_le {i j : Int} (h : El X m C a δ es e (fun z => z = .int i)) (hb : Ev X m C δ b (.int j)) (h1 : behindInMarks .LtE b = false := by first | exact nobehind _ (by decide) (by decide) | rfl) : ElT X m C a δ es (.Compare e [.LtE] [b] pos) (decide (i ≤ j)) := fun σ H E ct Q q =>
  ofPT (pt_cmp (pcW (X := X)) h1) (fun pins s I => bin (R := fun u v H2 => u = .int i ∧ v = .int j ∧ Le m H H2) peW peW I (h σ H E ct _ fun d u H1 e1 l1 r1 => hb.go (E.le l1) fun v H2 l2 r2 => ⟨by rw [e1] at r1; exact r1, r2, l1.trans l2⟩)
    fun v u s2 x y H2 I2 rx ry ⟨e1, e2, l⟩ => op_le pins s2 σ H2 x y v u _ I2 rx ry ⟨i, j, e1, e2, _, rfl, q H2 l⟩)
/-- xs + ys, xs the own list -/
theorem el_cat (s : Nat) (hb : Ev X m C δ b (.lst es')) (ha : a ∈ m.more) (hz : es.length + es'.length ≤ 1000000) (hδ : δ[s]? = some (some (.own a)) := by rfl) (hN : X.N[s]? = some n := by rfl) (hv : Vis X.env.scope n := by first | exact Or.inl rfl | exact Or.inr (Or.inl rfl) | exact Or.inr (Or.inr rfl))
    (hd : (n == ("__debug__" : Str)) = false := by decide) (hcd : (n == ("__classdict__" : Str)) = false := by decide) : El X m C a δ es (.BinOp (.Name n p1) .Add b pos) (fun z => z = .lst (es ++ es')) := fun σ H E ct Q q =>
  ofPE (pe_op op_cat (pe_var hN hv hd hcd) peW) ⟨_, own_at E hδ, hb.go E fun v H1 l1 ⟨p', ys, e2, h2, _, r2⟩ => by
    obtain ⟨xs, h1, r1⟩ := ct.le E ha l1
    exact ⟨a, p', xs, ys, rfl, e2, h1, h2, by rw [r1.length, r2.length, sizeLine_eq]; omega, fun n np => q (.lst (es ++ es')) _ _ rfl (l1.trans (.new np)) ⟨n, _, rfl, upd_same, (E.le l1).new np, (r1.append r2).le (.new np)⟩⟩⟩
/-- three plain arguments and one out of a set -/
theorem ea_cons4 {x y z : D} {e1 e2 e3 e4 : Expr} {R : D → Prop} (h1 : Ev X m C δ e1 x) (h2 : Ev X m C δ e2 y) (h3 : Ev X m C δ e3 z) (h4 : EvP X m C δ e4 R) (hs1 : starEach [e1, e2, e3, e4] X.env = (false, eval e1 X.env) :: starEach [e2, e3, e4] X.env := by rfl) (hs2 : starEach [e2, e3, e4] X.env = (false, eval e2 X.env) :: starEach [e3, e4] X.env := by rfl)
    (hs3 : starEach [e3, e4] X.env = (false, eval e3 X.env) :: starEach [e4] X.env := by rfl) (hs4 : starEach [e4] X.env = (false, eval e4 X.env) :: starEach [] X.env := by rfl) : EvA X m C δ [e1, e2, e3, e4] (fun ds => ∃ d, ds = [x, y, z, d] ∧ R d) :=
  EvA.imp (ea_consP h1 (ea_consP h2 (ea_consP h3 (ea_oneP h4 hs4) hs3) hs2) hs1) fun ds ⟨_, _, e1, e2, _, _, e3, e4, _, _, e5, e6, d, e7, hR⟩ => ⟨d, by rw [e1, e2, e3, e4, e5, e6, e7], hR⟩
end
section
variable {P : Program} {w : World} {K : PySem.W.Frag} {mg : Str → Option Value} {base : Heap} {C : Addr}
/-- calls of a script, few and small -/
structure CsOk (fs : Int) (cs : List Call) : Prop where
  ok : ∀ c ∈ cs, c.ok fs
  few : cs.length ≤ 5
  small : PP.sizes cs ≤ 16
theorem sizes_snoc (cs : List Call) (c : Call) : PP.sizes (cs ++ [c]) = PP.sizes cs + c.size := by
  induction cs with
  | nil =>
    show c.size + 0 = 0 + c.size
    omega
  | cons d cs ih =>
    show d.size + PP.sizes (cs ++ [c]) = d.size + PP.sizes cs + c.size
    rw [ih]
    omega
def P_calls : List D → (D → Prop) → Prop := fun ds R => ∃ fs : Int, ds = [.bag, .int fs, .int 4, .bl false] ∧ (fs = 2 ∨ fs = 3) ∧ R = fun d => ∃ cs : List Call, d = .lst (cs.map cD) ∧ CsOk fs cs
abbrev nCs : List Str := ["_law_bag_here", "_law_files", "_law_many", "_law_is_open", "_law_k", "_law_kinds", "_law_found", "_law_call_here"]
theorem sc_lcalls : FnScope nCs ["_law_bag_here", "_law_files", "_law_many", "_law_is_open"] (defScope (topS 55)) := ⟨rfl, rfl, rfl, by decide +kernel, rfl, by decide +kernel, by decide +kernel⟩
theorem fx_lcalls (T : Txt K w mg C) : Fx P w K mg base C "_law_calls" 4 4 P_calls :=
  fx_mk (k := 3) T.calls sc_lcalls rfl fun f cdv A outer s0 H E hr m ds R hn ⟨fs, hd, hfs, e⟩ => by
    subst e hd
    refine rt_own2 5 6 (d := .lst (kinds0.map D.str)) (ev_lst (ea_cons ev_str (ea_cons ev_str (ea_cons ev_str (ea_cons ev_str (ea_cons ev_str (ea_cons ev_str (ea_cons ev_str ea_nil)))))))) (fun a => ?_) rfl sc_lcalls.nd
    refine rtl_cons (nl_s (nx_ifF (et_val (ev_name 3))) more_add) ?_
    rintro δ' es' ⟨rfl, rfl⟩
    refine rtl_cons (nl_for (j := 4) (fun i δ' es' => (∃ o o', δ' = [some .bag, some (.int fs), some (.int 4), some (.bl false), o, some (.lst (kinds0.map D.str)), some (.own a), o']) ∧ ∃ cs : List Call, es' = cs.map cD ∧ (∀ c ∈ cs, c.ok fs) ∧ cs.length ≤ i ∧ PP.sizes cs ≤ 16)
      (ei_rangeP T.b.range (ec_fP (fx_take T) hr (ea_cons (ev_name 0) (ea_cons (ev_add (ev_name 2) ev_int) ea_nil)) ⟨5, rfl, by decide, by decide, rfl⟩) fun n h => by omega) more_add ⟨⟨none, none, rfl⟩, [], rfl, by simp, by simp, by decide⟩ PassesOwn.never rfl sc_lcalls.nd ?_) ?_
    · rintro ds i d δ' es' ⟨n, hn5, rfl⟩ hd ⟨⟨o, o', rfl⟩, cs, rfl, hok, hl, hsz⟩
      have hi : i < 5 := by
        have := (List.getElem?_eq_some_iff.mp hd).1
        rw [rngD_len] at this
        omega
      refine nls_cons (nl_p (nx_setP 7 (R := fun d => ∃ c : Call, d = cD c ∧ c.ok fs) (ec_fR (fx_lcall T) hr (ea_cons4 (ev_name 0) (ev_name 1) (ev_name 5) (ec_fP (fx_one T) hr (ea_cons (ev_name 0) (ea_cons (ev_lst (ea_cons ev_int (ea_cons ev_int (ea_cons ev_int (ea_cons ev_int ea_nil))))) ea_nil)) ⟨_, rfl, by decide, by decide, rfl⟩)) ?_) sc_lcalls.nd) more_add) ?_
      · rintro ds ⟨z, rfl, hz⟩
        refine ⟨rfl, _, ⟨fs, ?_⟩, fun d h => h⟩
        simp only [List.mem_cons, List.not_mem_nil, or_false] at hz
        rcases hz with rfl | rfl | rfl | rfl
        · exact ⟨2, rfl, hfs, by decide, by decide, rfl⟩
        · exact ⟨4, rfl, hfs, by decide, by decide, rfl⟩
        · exact ⟨4, rfl, hfs, by decide, by decide, rfl⟩
        · exact ⟨9, rfl, hfs, by decide, by decide, rfl⟩
      rintro δ' es' ⟨⟨z, ⟨c, rfl, hc⟩, rfl⟩, rfl⟩
      have hok2 : ∀ x ∈ cs ++ [c], x.ok fs := fun x hx => (List.mem_append.mp hx).elim (hok x) fun h => by rw [List.mem_singleton.mp h]; exact hc
      refine nls_one (nl_ifE (elt_le (el_f (fx_lsize T) hr (la_cons (el_cat 6 (ev_lst (ea_cons (ev_name 7) ea_nil)) more_add (by rw [List.length_map, List.length_singleton]; omega)) la_nil more_add) ⟨_, ⟨fs, cs ++ [c], by rw [List.map_append]; rfl, hok2, by rw [List.length_append, List.length_singleton]; omega, rfl⟩, rfl⟩) ev_int) more_add (fun ht => ?_) fun _ => ?_)
      · have ht := of_decide_eq_true ht
        refine nls_one (nl_imp (nl_push 6 ((ev_name 7).l) more_add (by rw [List.length_map]; omega)) ?_)
        rintro δ' es' ⟨rfl, z, rfl, rfl⟩
        exact ⟨⟨_, _, rfl⟩, cs ++ [c], by rw [List.map_append]; rfl, hok2, by rw [List.length_append, List.length_singleton]; omega, ht⟩
      · exact nls_nil ⟨⟨_, _, rfl⟩, cs, rfl, hok, by omega, hsz⟩
    · rintro δ' es' ⟨ds, ⟨n, hn5, rfl⟩, ⟨o, o', rfl⟩, cs, rfl, hok, hl, hsz⟩
      rw [rngD_len] at hl
      exact rtl_ret 6 ⟨cs, rfl, hok, by omega, hsz⟩
end
end PB

/-! _law_spot, _law_claim, _law_in -/
namespace PB
open PySem PySem.Spec PyProof.Rows L2
open PP (Call Spot Word)
section
variable {P : Program} {w : World} {K : PySem.W.Frag} {mg : Str → Option Value} {base : Heap} {C : Addr}
def P_spot : List D → (D → Prop) → Prop := fun ds R => ∃ fs : Int, ds = [.bag, .int fs] ∧ (fs = 2 ∨ fs = 3) ∧ R = fun d => ∃ s : Spot, d = sD s ∧ s.ok fs
abbrev nSp : List Str := ["_law_bag_here", "_law_files", "_law_row"]
theorem sc_spot : FnScope nSp ["_law_bag_here", "_law_files"] (defScope (topS 56)) := ⟨rfl, rfl, rfl, by decide +kernel, rfl, by decide +kernel, by decide +kernel⟩
theorem fx_spot (T : Txt K w mg C) : Fx P w K mg base C "_law_spot" 3 2 P_spot :=
  fx_mk (k := 2) T.spot sc_spot rfl fun f cdv A outer s0 H E hr m ds R hn ⟨fs, hd, hfs, e⟩ => by
    subst e hd
    refine rt_consP (nx_setP 2 (R := IntP fun r => 0 ≤ r ∧ r < 10) (ec_fR (fx_one T) hr (ea_consP (ev_name 0) (ea_oneP (ev_lstP (ea_consP ev_int (ea_consP ev_int (ea_consP ev_int (ea_consP ev_int (ea_oneP (ec_fP (fx_take T) hr (ea_cons (ev_name 0) (ea_cons ev_int ea_nil)) ⟨10, rfl, by decide, by decide, rfl⟩)))))) ?_))) ?_) sc_spot.nd) ?_
    · rintro ds ⟨_, _, rfl, rfl, _, _, rfl, rfl, _, _, rfl, rfl, _, _, rfl, rfl, _, rfl, _⟩
      simp
    · rintro ds ⟨_, _, rfl, rfl, _, rfl, _, rfl, _, _, rfl, rfl, _, _, rfl, rfl, _, _, rfl, rfl, _, _, rfl, rfl, _, rfl, r, rfl, h0, h1⟩
      refine ⟨rfl, _, ⟨_, rfl, by simp, by simp, rfl⟩, fun d hd => ?_⟩
      simp only [List.mem_cons, List.not_mem_nil, or_false] at hd
      rcases hd with rfl | rfl | rfl | rfl | rfl
      · exact ⟨0, rfl, by decide, by decide⟩
      · exact ⟨0, rfl, by decide, by decide⟩
      · exact ⟨1, rfl, by decide, by decide⟩
      · exact ⟨2, rfl, by decide, by decide⟩
      · exact ⟨r, rfl, h0, h1⟩
    rintro δ' ⟨d, ⟨r, rfl, h0, h1⟩, rfl⟩
    refine rt_ret (EvP.imp (ev_tupP (ea_consP (ec_fP (fx_one T) hr (ea_cons (ev_name 0) (ea_cons (ev_lst (ea_cons ev_str (ea_cons ev_str ea_nil))) ea_nil)) ⟨_, rfl, by decide, by decide, rfl⟩) (ea_consP (ev_name 2) (ea_oneP (ec_fP (fx_take T) hr (ea_cons (ev_name 0) (ea_cons (ev_name 1) ea_nil)) ⟨fs, rfl, by omega, by omega, rfl⟩)))) ?_) ?_)
    · rintro ds ⟨_, _, rfl, _, _, _, rfl, rfl, _, rfl, _⟩
      simp
    · rintro z ⟨ds, rfl, _, _, rfl, hend, _, _, rfl, rfl, _, rfl, g, rfl, g0, g1⟩
      simp only [List.mem_cons, List.not_mem_nil, or_false] at hend
      rcases hend with rfl | rfl
      · exact ⟨⟨false, r, g⟩, rfl, h0, h1, g0, g1⟩
      · exact ⟨⟨true, r, g⟩, rfl, h0, h1, g0, g1⟩
/-! ### _law_claim -/
def P_lclaim : List D → (D → Prop) → Prop := fun ds R => ∃ (fs : Int) (cs : List Call), ds = [.bag, .int fs, .lst (cs.map cD)] ∧ (fs = 2 ∨ fs = 3) ∧ CsOk fs cs ∧ R = fun d => ∃ c : PP.Claim, d = clD c ∧ ClOk fs cs c
theorem claim_ok {fs : Int} {cs : List Call} {c : PP.Claim} (hfs : fs = 2 ∨ fs = 3) (hcs : CsOk fs cs) (h1 : c.ok fs) (h2 : (c.k.natAbs : Int) * PP.sizes cs ≤ 90) : ClOk fs cs c :=
  ⟨hfs, hcs.ok, by have := hcs.few; omega, by have := hcs.small; omega, h1, h2⟩
abbrev nCl : List Str := ["_law_bag_here", "_law_files", "_law_calls_here", "_law_most", "_law_k", "_law_word", "_law_spot_here"]
theorem sc_lclaim : FnScope nCl ["_law_bag_here", "_law_files", "_law_calls_here"] (defScope (topS 57)) := ⟨rfl, rfl, rfl, by decide +kernel, rfl, by decide +kernel, by decide +kernel⟩
theorem cut_mul {a k s : Int} (hs : 0 < s) (h : k ≤ a / s) : k * s ≤ a := Int.le_trans (Int.mul_le_mul_of_nonneg_right h (by omega)) (Int.ediv_mul_le a (by omega))
theorem fx_lclaim (T : Txt K w mg C) : Fx P w K mg base C "_law_claim" 4 3 P_lclaim :=
  fx_mk (k := 3) T.claim sc_lclaim rfl fun f cdv A outer s0 H E hr m ds R hn ⟨fs, cs, hd, hfs, hcs, e⟩ => by
    subst e hd
    have hs0 := PP.sizes_nn cs
    have hs1 := hcs.small
    have hfew := hcs.few
    refine rt_cons (nx_set 3 (ev_fdiv (j := if PP.sizes cs > 1 then PP.sizes cs else 1) ev_int (ev_max2 rfl T.b.max (ea_cons ev_int (ea_cons (ec_f (fx_lsize T) hr (ea_cons (ev_name 2) ea_nil) ⟨fs, cs, rfl, hcs.ok, by omega, rfl⟩) ea_nil))) ?_) sc_lclaim.nd) ?_
    · constructor <;> split <;> omega
    generalize hs : (if PP.sizes cs > 1 then PP.sizes cs else 1) = s
    have sB : 1 ≤ s ∧ s ≤ 16 ∧ PP.sizes cs ≤ s := by rw [← hs]; split <;> omega
    have m0 : 0 ≤ (90 : Int) / s := Int.ediv_nonneg (by decide) (by omega)
    have m1 : (90 : Int) / s ≤ 90 := Int.ediv_le_self _ (by decide)
    generalize hmost : (90 : Int) / s = most at m0 m1
    refine rt_consP (nx_setP 4 (R := IntP fun r => 0 ≤ r) (ec_fR (fx_one T) hr (ea_consP (ev_name 0) (ea_oneP (ev_lstP (ea_consP ev_int (ea_consP ev_int (ea_consP ev_int (ea_consP ev_int (ea_consP ev_int (ea_consP (ec_fP (fx_take T) hr (ea_cons (ev_name 0) (ea_cons (ev_add (ev_name 3) ev_int) ea_nil)) ⟨most + 1, rfl, by omega, by omega, rfl⟩) (ea_oneP (ev_name 3)))))))) ?_))) ?_) sc_lclaim.nd) ?_
    · rintro ds ⟨_, _, rfl, rfl, _, _, rfl, rfl, _, _, rfl, rfl, _, _, rfl, rfl, _, _, rfl, rfl, _, _, rfl, _, _, rfl, _⟩
      simp
    · rintro ds ⟨_, _, rfl, rfl, _, rfl, _, rfl, _, _, rfl, rfl, _, _, rfl, rfl, _, _, rfl, rfl, _, _, rfl, rfl, _, _, rfl, rfl, _, _, rfl, ⟨r, rfl, h0, h1⟩, _, rfl, rfl⟩
      refine ⟨rfl, _, ⟨_, rfl, by simp, by simp, rfl⟩, fun d hd => ?_⟩
      simp only [List.mem_cons, List.not_mem_nil, or_false] at hd
      rcases hd with rfl | rfl | rfl | rfl | rfl | rfl | rfl
      · exact ⟨0, rfl, by decide⟩
      · exact ⟨1, rfl, by decide⟩
      · exact ⟨1, rfl, by decide⟩
      · exact ⟨2, rfl, by decide⟩
      · exact ⟨3, rfl, by decide⟩
      · exact ⟨r, rfl, h0⟩
      · exact ⟨most, rfl, m0⟩
    rintro δ' ⟨d, ⟨k, rfl, hk0⟩, rfl⟩
    refine rt_consP (nx_setP 4 (R := IntP fun r => (r.natAbs : Int) ≤ most) (ev_mulP (A := fun i => 0 ≤ i ∧ i ≤ most) (B := fun i => i = 1 ∨ i = -1) ((ev_min2 rfl T.b.min (ea_cons (ev_name 4) (ea_cons (ev_name 3) ea_nil))).i (by constructor <;> split <;> omega))
      (ev_subP (ev_int.i (A := fun i => i = 1) rfl) (ev_mulP (Rr := fun i => i = 0 ∨ i = 2) (ev_int.i (A := fun i => i = 2) rfl) (ev_intBP (A := fun i => i = 0 ∨ i = 1) T.b.int (ev_cmpP (ec_eqP (T := fun _ => True) (ec_fP (fx_take T) hr (ea_cons (ev_name 0) (ea_cons ev_int ea_nil)) ⟨3, rfl, by decide, by decide, rfl⟩) (ev_int.i (A := fun _ => True) True.intro) fun _ _ _ _ => True.intro)) fun t _ => by cases t <;> simp)
        (fun i j e _ => .inl (by subst e; decide)) (fun i j e hj => by subst e; omega)) (fun i j e hj => by subst e; omega)) (fun i j _ hj => .inr (by rcases hj with e | e <;> subst e <;> decide)) (fun i j hi hj => by rcases hj with e | e <;> subst e <;> omega)) sc_lclaim.nd) ?_
    rintro δ' ⟨d, ⟨k2, rfl, hk2⟩, rfl⟩
    have hturn : (k2.natAbs : Int) * PP.sizes cs ≤ 90 := by
      have h1 := cut_mul (a := 90) (k := (k2.natAbs : Int)) (s := s) (by omega) (by omega)
      exact Int.le_trans (Int.mul_le_mul_of_nonneg_left sB.2.2 (by omega)) h1
    refine rt_consP (nx_parP 5 6 (ea_consP (ec_fP (fx_one T) hr (ea_cons (ev_name 0) (ea_cons (ev_lst (ea_cons ev_str (ea_cons ev_str (ea_cons ev_str (ea_cons ev_str ea_nil))))) ea_nil)) ⟨_, rfl, by decide, by decide, rfl⟩) (ea_oneP (ec_fP (fx_spot T) hr (ea_cons (ev_name 0) (ea_cons (ev_name 1) ea_nil)) ⟨fs, rfl, hfs, rfl⟩))) ?_ rfl sc_lclaim.nd) ?_
    · rintro ds ⟨d, ds', rfl, _, d2, rfl, _⟩
      rfl
    rintro δ' ⟨x, y, ⟨d, ds', e1, hw, d2, e2, s1, rfl, hs1'⟩, rfl⟩
    cases e1
    cases e2
    have two : ∀ (wd : Word), wd ≠ .leads → ∀ d, d = D.str (wD wd) → Rt (bodyCx P w K mg base nCl "_law_claim" (topS 57) f cdv A outer s0 H E) m C [some .bag, some (.int fs), some (.lst (cs.map cD)), some (.int most), some (.int k2), some d, some (sD s1)] ((defBody (topS 57)).drop 5) (fun d => ∃ c : PP.Claim, d = clD c ∧ ClOk fs cs c) := by
      intro wd hwd d hd
      subst hd
      refine rt_ret (EvP.imp (ev_tupP (ea_consP (ev_name 5) (ea_consP (ev_name 4) (ea_consP (ev_name 6) (ea_oneP (ec_fP (fx_spot T) hr (ea_cons (ev_name 0) (ea_cons (ev_name 1) ea_nil)) ⟨fs, rfl, hfs, rfl⟩))))) ?_) ?_)
      · rintro ds ⟨_, _, rfl, _, _, _, rfl, rfl, _, _, rfl, rfl, _, rfl, _⟩
        simp
      · rintro z ⟨ds, rfl, _, _, rfl, rfl, _, _, rfl, rfl, _, _, rfl, rfl, _, rfl, s2, rfl, hs2⟩
        refine ⟨⟨wd, k2, s1, s2⟩, ?_, claim_ok hfs hcs ⟨hs1', fun _ => hs2⟩ hturn⟩
        unfold clD spotsD
        cases wd with
        | leads => exact absurd rfl hwd
        | at_ => rfl
        | beside => rfl
    simp only [List.mem_cons, List.not_mem_nil, or_false] at hw
    rcases hw with rfl | rfl | rfl | rfl
    · exact rt_ifF (et_cmp (ec_eq (ev_name 5) ev_str) (by decide +kernel)) (two .at_ (by decide) _ rfl)
    · exact rt_ifF (et_cmp (ec_eq (ev_name 5) ev_str) (by decide +kernel)) (two .beside (by decide) _ rfl)
    · refine rt_ifT (et_cmp (ec_eq (ev_name 5) ev_str) (by decide +kernel)) (rt_ret (EvP.imp (ev_tup (ea_cons (ev_name 5) (ea_cons (ev_name 4) (ea_cons (ev_name 6) ea_nil)))) fun z e => ⟨⟨.leads, k2, s1, s1⟩, e, claim_ok hfs hcs ⟨hs1', fun h => absurd rfl h⟩ hturn⟩))
    · exact rt_ifF (et_cmp (ec_eq (ev_name 5) ev_str) (by decide +kernel)) (two .beside (by decide) _ rfl)
end
end PB

/-! _law_towards, _law_in -/
namespace PB
open PySem PySem.Spec PyProof.Rows L2
open PP (Call Spot Word)
section
variable {X : Cx} {m : Md} {C : Addr} {δ : Dl} {e elt iter : Expr} {scope : Scope} {pos px p1 p2 p3 py spos : Pos} {d : D} {ds : List D} {n y : Str} {j : Nat}
theorem nx_unP (i j : Nat) {n1 n2 : Str} {k : Nat} {L : D → D → Prop} (h : EvP X m C δ e (fun z => ∃ x y, z = .tup [x, y] ∧ L x y)) (hc : X.calm = true) (hN : X.N.Nodup) (hi : X.N[i]? = some n1 := by rfl) (hj : X.N[j]? = some n2 := by rfl)
    (hx : Loc X.env.scope n1 := by first | exact Or.inl rfl | exact Or.inr rfl) (hy : Loc X.env.scope n2 := by first | exact Or.inl rfl | exact Or.inr rfl)
    (hfx : X.fn n1 = true ∨ X.env.scope.names.lookup n1 = some .local := by first | exact .inl rfl | exact .inr rfl) (hfy : X.fn n2 = true ∨ X.env.scope.names.lookup n2 = some .local := by first | exact .inl rfl | exact .inr rfl)
    (hs : swapsWithSole [.Tuple [.Name n1 p1, .Name n2 p2] k p3] e pos.line X.env = pure false := by rfl) (hw : swappedStores [.Tuple [.Name n1 p1, .Name n2 p2] k p3] e X.env = pure none := by rfl)
    (h1 : (assignEach [.Tuple [.Name n1 p1, .Name n2 p2] k p3] X.env).map (·.2) = [assign (.Tuple [.Name n1 p1, .Name n2 p2] k p3) X.env] := by rfl)
    (hl : (assignEach [.Name n1 p1, .Name n2 p2] X.env).length = 2 := by rfl) (hst : (assignEach [.Name n1 p1, .Name n2 p2] X.env).findIdx? (·.1) = none := by rfl)
    (he1 : (assignEach [.Name n1 p1, .Name n2 p2] X.env).map (·.2) = assign (.Name n1 p1) X.env :: (assignEach [.Name n2 p2] X.env).map (·.2) := by rfl)
    (he2 : (assignEach [.Name n2 p2] X.env).map (·.2) = assign (.Name n2 p2) X.env :: (assignEach [] X.env).map (·.2) := by rfl) :
    NxP X m C δ (.Assign [.Tuple [.Name n1 p1, .Name n2 p2] k p3] e pos) (fun δ' => ∃ x y, L x y ∧ δ' = (δ.set i (some x)).set j (some y)) := fun σ H E Dn q =>
  ofPS (ps_asg peW (pg_tup hc (pgs_cons (pg_name hN hi hx hfx) (pgs_cons (pg_name hN hj hy hfy) pgs_nil he2) he1) hl hst) hs hw h1) (h σ H E _ fun d v H1 ⟨x, y, e0, hL⟩ l1 r0 => by
    subst e0
    obtain ⟨p, xs, e1, h1, r1⟩ := r0
    obtain ⟨u, w, e2, r2, r3⟩ := two_rp r1
    subst e2
    exact ⟨p, _, e1, h1, rfl, u, [w], rfl, w, [], rfl, rfl, q _ _ H1 ⟨x, y, hL, rfl⟩ l1 (((E.le l1).set r2).set r3)⟩)
theorem nxp_lcP {R : Nat → D → Prop} (i : Nat) (hi : EvI X m C δ (.Name n px) iter ds) (hlen : ds.length < 100000) (hc : X.calm = true) (hN : X.N.Nodup) (ok : BlkOk X.N X.env.scope scope [(n, j)]) (hg : BEvI X scope n j px)
    (he : ∀ i d, ds[i]? = some d → BEv X m C scope (δ.set j (some d)) elt (R i)) (hsw : swapsWith (.ListComp elt [⟨.Name n px, iter, [], 0⟩] scope p1) (some (.Name y py)) spos.line X.env = pure true) (hy : X.N[i]? = some y := by rfl) (hyl : X.env.scope.names.lookup y = some .local := by rfl) (hs : ∀ x, foldedSetIterable iter X.env x = pure x := by intro _; rfl) :
    NxP X m C δ (.Assign [.Name y py] (.ListComp elt [⟨.Name n px, iter, [], 0⟩] scope p1) spos) (fun δ' => ∃ es, es.length = ds.length ∧ (∀ i d, es[i]? = some d → R i d) ∧ δ' = δ.set i (some (.lst es))) := fun σ H E Dn q =>
  nx_lcP (R := R) i hi hlen hc hN ok hg he E (fun es v H1 p l r => q _ _ H1 ⟨es, p.1, p.2, rfl⟩ l ((E.le l).set r)) hsw hy hyl hs
end
theorem ends_of {es : List D} (hp : es.Perm [.str "front", .str "back"]) {i : Int} (h0 : 0 ≤ i) (h1 : i < 2) : ∃ b : Bool, atI es i = some (.str (if b then "back" else "front")) := by
  have hl : es.length = 2 := hp.length_eq
  have hi : i.toNat < es.length := by omega
  have e := atI_nat (j := i.toNat) (List.getElem?_eq_getElem hi)
  rw [show ((i.toNat : Nat) : Int) = i by omega] at e
  have hm := hp.mem_iff.mp (List.getElem_mem hi)
  simp only [List.mem_cons, List.not_mem_nil, or_false] at hm
  rcases hm with h | h
  · exact ⟨false, by rw [e, h]; rfl⟩
  · exact ⟨true, by rw [e, h]; rfl⟩
section
variable {P : Program} {w : World} {K : PySem.W.Frag} {mg : Str → Option Value} {base : Heap} {C : Addr}
def P_towards : List D → (D → Prop) → Prop := fun ds R => ∃ fs : Int, ds = [.bag, .int fs, .int 70] ∧ (fs = 2 ∨ fs = 3) ∧ R = fun d => ∃ (cs : List Call) (c : PP.Claim), d = .tup [.lst (cs.map cD), clD c] ∧ CsOk fs cs ∧ ClOk fs cs c
abbrev nTo : List Str := ["_law_bag_here", "_law_files", "_law_most", "_law_many", "_law_k", "_law_spots", "_law_sides", "_law_ends", "_law_at"]
theorem sc_towards : FnScope nTo ["_law_bag_here", "_law_files", "_law_most"] (defScope (topS 58)) := ⟨rfl, rfl, rfl, by decide +kernel, rfl, by decide +kernel, by decide +kernel⟩
theorem fx_towards (T : Txt K w mg C) : Fx P w K mg base C "_law_towards" 3 3 P_towards :=
  fx_mk (k := 2) T.towards sc_towards rfl fun f cdv A outer s0 H E hr m ds R hn ⟨fs, hd, hfs, e⟩ => by
    subst e hd
    refine rt_consP (nx_unP (L := fun x y => LstP (fun es => es.Perm ((PP.intsF 0 fs.toNat).map D.int)) x ∧ LstP (fun es => es.Perm [.str "front", .str "back"]) y) 6 7
      (EvP.imp (ev_tupP (ea_consP (ec_fP (fx_mixed T) hr (ea_cons (ev_name 0) (ea_cons (ev_listR1 rfl T.b.list T.b.range (ev_name 1) (by omega)) ea_nil)) ⟨_, rfl, by rw [List.length_map, PP.ints_len]; omega, rfl⟩) (ea_oneP (ec_fP (fx_mixed T) hr (ea_cons (ev_name 0) (ea_cons (ev_lst (ea_cons ev_str (ea_cons ev_str ea_nil))) ea_nil)) ⟨_, rfl, by decide, rfl⟩))) ?_) ?_) rfl sc_towards.nd) ?_
    · rintro ds ⟨_, _, rfl, _, _, rfl, _⟩
      simp
    · rintro z ⟨ds, rfl, d, _, rfl, h1, d2, rfl, h2⟩
      exact ⟨d, d2, rfl, h1, h2⟩
    rintro δ' ⟨x, y, ⟨⟨es, rfl, hp⟩, en, rfl, hp2⟩, rfl⟩
    obtain ⟨fi, g, _, f0, f1, g0, g1, hne, hi0, hi1⟩ := two_of hfs hp
    refine rt_consP (nx_setP 3 (R := IntP fun i => i ≠ 0 ∧ (i.natAbs : Int) ≤ 15) (EvP.imp (ec_fP (fx_one T) hr (ea_cons (ev_name 0) (ea_cons (ev_lst (ea_cons ev_int (ea_cons ev_int (ea_cons ev_int (ea_cons (ev_neg ev_int) (ea_cons ev_int (ea_cons (ev_neg ev_int) (ea_cons ev_int ea_nil)))))))) ea_nil)) ⟨_, rfl, by decide, by decide, rfl⟩) ?_) sc_towards.nd) ?_
    · intro d hd
      simp only [List.mem_cons, List.not_mem_nil, or_false] at hd
      rcases hd with rfl | rfl | rfl | rfl | rfl | rfl | rfl
      · exact ⟨1, rfl, by decide⟩
      · exact ⟨2, rfl, by decide⟩
      · exact ⟨3, rfl, by decide⟩
      · exact ⟨-1, rfl, by decide⟩
      · exact ⟨5, rfl, by decide⟩
      · exact ⟨-2, rfl, by decide⟩
      · exact ⟨15, rfl, by decide⟩
    rintro δ' ⟨d, ⟨many, rfl, hm0, hm1⟩, rfl⟩
    have ha : 0 < (many.natAbs : Int) := by omega
    have m0 : 4 ≤ (70 : Int) / (many.natAbs : Int) := (Int.le_ediv_iff_mul_le ha).mpr (by omega)
    have m1 : (70 : Int) / (many.natAbs : Int) ≤ 70 := Int.ediv_le_self _ (by decide)
    refine rt_consP (nx_setP 4 (R := IntP fun k => 0 ≤ k ∧ k * (many.natAbs : Int) ≤ 70) (ec_fR (fx_one T) hr (ea_consP (ev_name 0) (ea_oneP (ev_lstP (ea_consP (ev_fdiv (ev_name 2) (ev_abs T.b.abs (ev_name 3)) ⟨ha, by omega⟩)
      (ea_oneP (ev_addP (Rr := fun r => 1 ≤ r ∧ r ≤ (70 : Int) / (many.natAbs : Int)) (ev_int.i (A := fun i => i = 1) rfl) (ec_fP (fx_take T) hr (ea_cons (ev_name 0) (ea_cons (ev_fdiv (ev_name 2) (ev_abs T.b.abs (ev_name 3)) ⟨ha, by omega⟩) ea_nil)) ⟨_, rfl, by omega, by omega, rfl⟩) fun i j e hj => by subst e; omega))) ?_))) ?_) sc_towards.nd) ?_
    · rintro ds ⟨_, _, rfl, _, _, rfl, _⟩
      simp
    · rintro ds ⟨_, _, rfl, rfl, _, rfl, _, rfl, _, _, rfl, rfl, _, rfl, r, rfl, h0, h1⟩
      refine ⟨rfl, _, ⟨_, rfl, by simp, by simp, rfl⟩, fun d hd => ?_⟩
      simp only [List.mem_cons, List.not_mem_nil, or_false] at hd
      rcases hd with rfl | rfl
      · exact ⟨_, rfl, by omega, cut_mul ha (Int.le_refl _)⟩
      · exact ⟨_, rfl, by omega, cut_mul ha h1⟩
    rintro δ' ⟨d, ⟨k, rfl, hk0, hk⟩, rfl⟩
    refine rt_consP (nxp_lcP (R := fun _ d => ∃ s : Spot, d = sD s ∧ s.ok fs) (j := 8) 5 (ei_range1 T.b.range ev_int (by decide)) (by rw [rngD_len]; decide) rfl sc_towards.nd
      (blkOk_by (own := [("_law_at", 8)]) (N := nTo) (sc := defScope (topS 58)) (by decide +kernel)) (fun _ _ _ _ _ => pg_name (i := 8) sc_towards.nd rfl (Or.inl rfl)) (fun i d hd p s' H0 Cc cl fp => ?_) (sw_true rfl rfl rfl (by decide +kernel))) ?_
    · have hi : i < 2 := by
        have := (List.getElem?_eq_some_iff.mp hd).1
        rw [rngD_len] at this
        exact this
      rw [rngD_get (by exact hi)] at hd
      cases hd
      obtain ⟨b, hb⟩ := ends_of hp2 (i := 0 + (i : Int)) (by omega) (by omega)
      obtain ⟨q, hq, q0, q1⟩ : ∃ q : Int, atI es (0 + (i : Int)) = some (.int q) ∧ 0 ≤ q ∧ q < fs := by
        match i, hi with
        | 0, _ => exact ⟨fi, hi0, f0, f1⟩
        | 1, _ => exact ⟨g, hi1, g0, g1⟩
      refine EvP.imp (ev_tupP (ea_consP (ev_ixL (ev_name 7) (ev_name 8) hb) (ea_consP (ec_fP (fx_take T) hr (ea_cons (ev_name 0) (ea_cons ev_int ea_nil)) ⟨10, rfl, by decide, by decide, rfl⟩) (ea_oneP (ev_ixL (ev_name 6) (ev_name 8) hq)))) ?_) ?_
      · rintro ds ⟨_, _, rfl, _, _, _, rfl, _, _, rfl, _⟩
        simp
      · rintro z ⟨ds, rfl, _, _, rfl, rfl, _, _, rfl, ⟨r, rfl, r0, r1⟩, _, rfl, rfl⟩
        exact ⟨⟨b, r, q⟩, rfl, r0, r1, q0, q1⟩
    rintro δ' ⟨sp, hlen, hsp, rfl⟩
    have hl2 : sp.length = 2 := by rw [hlen, rngD_len]; rfl
    obtain ⟨s1, e1, ok1⟩ := hsp 0 _ (List.getElem?_eq_getElem (show 0 < sp.length by omega))
    obtain ⟨s2, e2, ok2⟩ := hsp 1 _ (List.getElem?_eq_getElem (show 1 < sp.length by omega))
    have g1' : atI sp 0 = some (sD s1) := by
      rw [← e1]
      exact atI_nat (j := 0) (List.getElem?_eq_getElem (show 0 < sp.length by omega))
    have g2' : atI sp 1 = some (sD s2) := by
      rw [← e2]
      exact atI_nat (j := 1) (List.getElem?_eq_getElem (show 1 < sp.length by omega))
    have hcs : CsOk fs [.wheel fi g many] := ⟨fun c hc => by rw [List.mem_singleton.mp hc]; exact ⟨f0, f1, g0, g1, hne, hm0⟩, by simp, by show (many.natAbs : Int) + 0 ≤ 16; omega⟩
    refine rt_ret (EvP.imp (ev_tup (ea_cons (ev_lst (ea_cons (ev_tup (ea_cons ev_str (ea_cons (ev_ixL (ev_name 6) ev_int hi0) (ea_cons (ev_ixL (ev_name 6) ev_int hi1) (ea_cons (ev_name 3) ea_nil))))) ea_nil)) (ea_cons (ev_tup (ea_cons ev_str (ea_cons (ev_name 4) (ea_cons (ev_ixL (ev_name 5) ev_int g1') (ea_cons (ev_ixL (ev_name 5) ev_int g2') ea_nil))))) ea_nil))) fun z e => ?_)
    refine ⟨[.wheel fi g many], ⟨.beside, k, s1, s2⟩, e, hcs, claim_ok hfs hcs ⟨ok1, fun _ => ok2⟩ ?_⟩
    show (k.natAbs : Int) * ((many.natAbs : Int) + 0) ≤ 90
    rw [Int.add_zero, show (k.natAbs : Int) = k by omega]
    omega
/-! ### _law_in -/
theorem inV_ints (x : Int) : ∀ ns : List Int, inV (.int x) (ns.map V.int) = ns.contains x
  | [] => rfl
  | n :: ns => by
    have ih := inV_ints x ns
    rw [List.map_cons, List.contains_cons]
    show (eqV (.int n) (.int x) || inV (.int x) (ns.map V.int)) = _
    rw [ih]
    congr 1
    show decide (n = x) = (x == n)
    rw [Bool.eq_iff_iff, decide_eq_true_iff, beq_iff_eq]
    exact eq_comm
def F_in : List D → D → Prop := fun ds d => ∃ (a : PP.Ans) (rows : Int), ds = [tD a, .int rows] ∧ d = .bl (a.in_ rows)
theorem sc_in : FnScope ["_law_told", "_law_rows"] ["_law_told", "_law_rows"] (defScope (topS 59)) := ⟨rfl, rfl, rfl, by decide +kernel, rfl, by decide +kernel, by decide +kernel⟩
theorem fx_in (T : Txt K w mg C) : Fx P w K mg base C "_law_in" 1 2 (det F_in) :=
  fx_mk (k := 0) T.in_ sc_in rfl fun f cdv A outer s0 H E hr m ds R hn ⟨d, ⟨a, rows, hd, e⟩, hR⟩ => by
    subst hR e hd
    unfold PP.Ans.in_
    by_cases h : rows ≥ a.first
    · rw [if_pos h]
      exact rt_ret (ev_ifT (et_cmp (ec_ge (ev_name 1) (ev_ixT (ev_name 0) ev_int)) (decide_eq_true h)) (ev_ixT (ev_name 0) ev_int))
    · rw [if_neg h]
      exact rt_ret (ev_ifF (et_cmp (ec_ge (ev_name 1) (ev_ixT (ev_name 0) ev_int)) (decide_eq_false h)) (Ev.is (ev_cmp (ec_inL (ev_name 1) (ev_ixT (ev_name 0) ev_int) (flats_ints _))) (by rw [inV_ints])))
end
end PB

/-! which data may be compared; == of equal data; == [] -/
namespace PB
open PySem PySem.Spec PyProof.Rows L2
open PP (Call Spot Word)
structure Fine (n : Nat) (d : D) : Prop where
  ok : pyOk d = true
  lay : (toPy d).canLay0 = true
  dep : (toPy d).depth ≤ n
theorem Fine.eq {n : Nat} {d : D} (h : Fine n d) (hn : n ≤ 64 := by decide) : eqOk d = true := eqOk_of h.ok h.lay (Nat.le_trans h.dep hn)
theorem Fine.mono {n k : Nat} {d : D} (h : Fine n d) (hn : n ≤ k) : Fine k d := ⟨h.ok, h.lay, Nat.le_trans h.dep hn⟩
theorem fine_int {n : Nat} {i : Int} : Fine n (.int i) := ⟨rfl, by simp [toPy, PyData.canLay0], by simp [toPy, PyData.depth]⟩
theorem fine_bl {n : Nat} {i : Bool} : Fine n (.bl i) := ⟨rfl, by simp [toPy, PyData.canLay0], by simp [toPy, PyData.depth]⟩
theorem fine_str {n : Nat} {i : Str} (h : (PyData.str i).canLay0 = true := by decide +kernel) : Fine n (.str i) := ⟨rfl, by rw [toPy]; exact h, by simp [toPy, PyData.depth]⟩
theorem fine_all {n : Nat} : ∀ {ds : List D}, (∀ d ∈ ds, Fine n d) → pyOks ds = true ∧ PyData.canLayAll0 (toPys ds) = true ∧ PyData.depthAll (toPys ds) ≤ n
  | [], _ => ⟨rfl, by simp [toPys, PyData.canLayAll0], by simp [toPys, PyData.depthAll]⟩
  | d :: ds, h => by
    obtain ⟨h1, h2, h3⟩ := fine_all fun x hx => h x (List.mem_cons_of_mem _ hx)
    have hd := h d List.mem_cons_self
    rw [pyOks, toPys, PyData.canLayAll0, PyData.depthAll]
    exact ⟨by rw [hd.ok, h1]; rfl, by rw [hd.lay, h2]; rfl, by have := hd.dep; omega⟩
theorem fine_lst {n : Nat} {ds : List D} (h : ∀ d ∈ ds, Fine n d) : Fine (n + 1) (.lst ds) := by
  obtain ⟨h1, h2, h3⟩ := fine_all h
  exact ⟨by rw [pyOk]; exact h1, by rw [toPy, PyData.canLay0]; exact h2, by rw [toPy, PyData.depth]; omega⟩
theorem fine_tup {n : Nat} {ds : List D} (h : ∀ d ∈ ds, Fine n d) : Fine (n + 1) (.tup ds) := by
  obtain ⟨h1, h2, h3⟩ := fine_all h
  exact ⟨by rw [pyOk]; exact h1, by rw [toPy, PyData.canLay0]; exact h2, by rw [toPy, PyData.depth]; omega⟩
theorem fine_ints {n : Nat} {ns : List Int} : Fine (n + 1) (.lst (ns.map D.int)) := fine_lst fun d hd => by
  obtain ⟨i, _, rfl⟩ := List.mem_map.mp hd
  exact fine_int
theorem fine_tD (a : PP.Ans) : Fine 2 (tD a) := fine_tup fun d hd => by
  simp only [List.mem_cons, List.not_mem_nil, or_false] at hd
  rcases hd with rfl | rfl | rfl
  · exact fine_ints
  · exact fine_int
  · exact fine_bl
theorem fine_sD (s : Spot) : Fine 1 (sD s) := fine_tup fun d hd => by
  simp only [List.mem_cons, List.not_mem_nil, or_false] at hd
  rcases hd with rfl | rfl | rfl
  · cases s.back
    · exact fine_str
    · exact fine_str
  · exact fine_int
  · exact fine_int
theorem fine_clD (c : PP.Claim) : Fine 2 (clD c) := fine_tup fun d hd => by
  rcases List.mem_cons.mp hd with rfl | hd
  · cases c.word
    · exact fine_str
    · exact fine_str
    · exact fine_str
  rcases List.mem_cons.mp hd with rfl | hd
  · exact fine_int
  rw [spots_eq] at hd
  obtain ⟨s, _, rfl⟩ := List.mem_map.mp hd
  exact fine_sD s
theorem Fine.same {n : Nat} {d : D} (h : Fine n d) : PyData.eqv (toPy d) (toPy d) = true := SeqAt.eqv_refl _ h.lay
theorem eqv_nil (ds : List D) : PyData.eqv (toPy (.lst ds)) (toPy (.lst [])) = ds.isEmpty := by
  cases ds with
  | nil => simp [toPy, toPys, PyData.eqv, PyData.eqvAll]
  | cons d ds => simp [toPy, toPys, PyData.eqv, PyData.eqvAll]
theorem fine_nil : Fine 1 (.lst []) := fine_lst fun d hd => by cases hd
section
variable {X : Cx} {m : Md} {C : Addr} {δ : Dl} {a b : Expr} {x : D} {j n : Nat} {p1 : Pos}
/-- xs == [], xs != [] -/
theorem ec_nil {ds : List D} (hr : Room j X.A) (ha : Ev X m C δ a (.lst ds)) (hf : ∀ d ∈ ds, Fine 5 d) : EvC X m C δ .Eq a (.List [] p1) (.bl ds.isEmpty) := ec_eqD hr ha (ev_lst ea_nil) (fine_lst hf).eq fine_nil.eq (eqv_nil ds)
theorem ec_nnil {ds : List D} (hr : Room j X.A) (ha : Ev X m C δ a (.lst ds)) (hf : ∀ d ∈ ds, Fine 5 d) : EvC X m C δ .NotEq a (.List [] p1) (.bl (!ds.isEmpty)) := ec_neD hr ha (ev_lst ea_nil) (fine_lst hf).eq fine_nil.eq (eqv_nil ds)
end
end PB

/-! _law_lines_right -/
namespace PB
open PySem PySem.Spec PyProof.Rows L2
open PP (Call Spot Word)
/-! the plain law -/
theorem all_settled {fs : Int} {cs : List Call} {cl : List PP.Claim} (h : ∀ c ∈ cl, ClOk fs cs c) {r r' : Int} (h1 : PP.lastOf cs cl ≤ r) (h2 : PP.lastOf cs cl ≤ r') : PP.allSo fs cs cl r = PP.allSo fs cs cl r' := by
  have key : ∀ c ∈ cl, PP.isSo fs r cs c = PP.isSo fs r' cs c := fun c hc => by
    have hs := PP.lastOf_settled cs hc
    have ok := h c hc
    rw [PP.isSo_settled ok.calls ok.spots (Int.le_trans hs h1), PP.isSo_settled ok.calls ok.spots (Int.le_trans hs h2)]
  unfold PP.allSo
  rw [Bool.eq_iff_iff, List.all_eq_true, List.all_eq_true]
  exact ⟨fun z c hc => by rw [← key c hc]; exact z c hc, fun z c hc => by rw [key c hc]; exact z c hc⟩
/-- the answer to claims tells each line -/
theorem in_all {fs : Int} {cs : List Call} {cl : List PP.Claim} (h : ∀ c ∈ cl, ClOk fs cs c) {rows : Int} (h1 : 1 ≤ rows) : (aOf fs cs cl).in_ rows = PP.allSo fs cs cl rows := by
  unfold aOf
  rw [PP.ans_in (PP.lastOf_pos cs cl) h1]
  by_cases hr : rows ≤ PP.lastOf cs cl
  · rw [if_pos hr]
  · rw [if_neg hr]
    exact all_settled h (Int.le_refl _) (by omega)
theorem in_one {fs : Int} {cs : List Call} {c : PP.Claim} (h : ClOk fs cs c) {rows : Int} (h1 : 1 ≤ rows) : (aOf fs cs [c]).in_ rows = PP.isSo fs rows cs c := by
  rw [in_all (fun d hd => by rw [List.mem_singleton.mp hd]; exact h) h1]
  show (PP.isSo fs rows cs c && true) = _
  rw [Bool.and_true]
theorem aOf_first {fs : Int} {cs : List Call} {cl : List PP.Claim} (h : ∀ c ∈ cl, ClOk fs cs c) : 1 ≤ (aOf fs cs cl).first ∧ (aOf fs cs cl).first ≤ 205 := by
  have h1 := PP.lastOf_pos cs cl
  have h2 := lastOf_le h
  have h3 := PP.firstOf_ge (PP.allSo fs cs cl) h1
  have h4 := PP.firstOf_le (PP.allSo fs cs cl) h1
  exact ⟨h3, Int.le_trans h4 h2⟩
theorem aOf_some {fs : Int} {cs : List Call} {cl : List PP.Claim} (h : ∀ c ∈ cl, ClOk fs cs c) : (aOf fs cs cl).some_.length ≤ 205 := by
  have h1 := aOf_first h
  have h2 : (aOf fs cs cl).some_ = (PP.intsF 1 ((aOf fs cs cl).first - 1).toNat).filter (PP.allSo fs cs cl) := rfl
  rw [h2]
  refine Nat.le_trans (List.length_filter_le _ _) ?_
  rw [PP.ints_len]
  omega
theorem max_ex : ∀ (L : List Int), L ≠ [] → ∃ k ∈ L, ∀ y ∈ L, y ≤ k
  | [], h => absurd rfl h
  | [x], _ => ⟨x, List.mem_cons_self, fun y hy => by rw [List.mem_singleton.mp hy]; exact Int.le_refl _⟩
  | x :: y :: L, _ => by
    obtain ⟨k, h1, h2⟩ := max_ex (y :: L) (by simp)
    by_cases h : k ≤ x
    · exact ⟨x, List.mem_cons_self, fun z hz => (List.mem_cons.mp hz).elim (fun e => by rw [e]; exact Int.le_refl _) fun e => Int.le_trans (h2 z e) h⟩
    · exact ⟨k, List.mem_cons_of_mem _ h1, fun z hz => (List.mem_cons.mp hz).elim (fun e => by rw [e]; omega) fun e => h2 z e⟩
section
variable {X : Cx} {m : Md} {C : Addr} {δ : Dl} {elt iter cnd : Expr} {scope : Scope} {pos px py spos : Pos} {n y : Str} {j : Nat} {ds : List D} {body : List Stmt}
theorem lcIfM_core {α : Type} {L : List α} (g h : α → D) (p : α → Bool) {wi : TI} (hiT : ∀ σ H, Sl X.K m C H σ δ → ∀ (Rr : It → Hp → Prop), (∀ J H1, Le m H H1 → Walks X.K m C J (L.map g) H1 → Rr J H1) → wi σ H Rr) (hlen : L.length < 100000)
    (ht : ∀ x, x ∈ L → BEvT X m C scope (δ.set j (some (g x))) cnd (p x)) (he : ∀ x, x ∈ L → p x = true → BEv X m C scope (δ.set j (some (g x))) elt (fun z => z = h x)) {σ : L2.St} {H : Hp} (E : Sl X.K m C H σ δ) {Q : VK} (q : ∀ v H', Le m H H' → Rp X.K m C H' (.lst ((L.filter p).map h)) v → Q v H') :
    tLc wi (gName j) (bT X scope cnd) (bE X scope elt) [j] σ H Q := by
  refine hiT σ H E _ fun J H1 l1 w D hD => ?_
  have E1 := E.le l1
  refine lc_walk (fun i H' => Got X.K m C H1 D (fun es => es = ((L.take i).filter p).map h) H') w (fun i H' g => g.pers) (.start hD rfl) (fun i d x H' hd rd gg => ?_) fun H' gg => ?_
  · rw [List.getElem?_map] at hd
    cases hLi : L[i]? with
    | none => rw [hLi] at hd; cases hd
    | some u =>
    rw [hLi] at hd
    cases hd
    have hm : u ∈ L := List.mem_of_getElem? hLi
    have hi : i < L.length := (List.getElem?_eq_some_iff.mp hLi).1
    have E2 := E1.slot (j := j) rd
    have tk : L.take (i + 1) = L.take i ++ [u] := by rw [List.take_add_one, hLi]; rfl
    refine ⟨wipe_slot, fun s H0 Cc cl fp => ht u hm D s H0 Cc cl fp _ H' (gg.sl E2) _ fun H3 l3 => ?_⟩
    have g3 := gg.le E2 l3
    cases hp : p u with
    | true =>
      refine iteT ?_
      refine got_turn (R := fun z => z = h u) (fun es e => ?_) E2 (he u hm hp) (fun es z e1 e2 => ?_) g3
      · rw [e, List.length_map]
        have h1 := List.length_filter_le p (L.take i)
        have h2 : (L.take i).length ≤ i := by rw [List.length_take]; omega
        omega
      · rw [e1, e2, tk, List.filter_append, List.map_append, List.filter_cons, if_pos hp]
        rfl
    | false =>
      refine iteF (g3.imp fun es e => ?_)
      rw [e, tk, List.filter_append, List.map_append, List.filter_cons, if_neg (by rw [hp]; decide)]
      simp
  · obtain ⟨es, e, l, r⟩ := gg.end_ E1
    rw [List.length_map, List.take_length] at e
    rw [e] at r
    exact q _ H' (l1.trans l) r
/-- [h x for g x in t if p x] -/
theorem ev_lcIfM {α : Type} {L : List α} (g h : α → D) (p : α → Bool) (hi : EvI X m C δ (.Name n px) iter (L.map g)) (hlen : L.length < 100000) (hc : X.calm = true) (hN : X.N.Nodup) (ok : BlkOk X.N X.env.scope scope [(n, j)]) (hg : BEvI X scope n j px)
    (ht : ∀ x, x ∈ L → BEvT X m C scope (δ.set j (some (g x))) cnd (p x)) (he : ∀ x, x ∈ L → p x = true → BEv X m C scope (δ.set j (some (g x))) elt (fun z => z = h x)) (hs : ∀ x, foldedSetIterable iter X.env x = pure x := by intro _; rfl) :
    Ev X m C δ (.ListComp elt [⟨.Name n px, iter, [cnd], 0⟩] scope pos) (.lst ((L.filter p).map h)) := .mk fun σ H E Q q => by
  obtain ⟨wi, pi, hiT⟩ := hi
  refine ofPE (pe_lc (own := [(n, j)]) (tt := bT X scope cnd) (te := bE X scope elt) hc hN pi ok hg (fun s H Cc cl fp => pts_one ⟨fun pins s' σ' H' Q' I h => h s H Cc cl fp pins s' I⟩) (fun s H Cc cl fp => ⟨fun pins s' σ' H' Q' I h => h s H Cc cl fp pins s' I⟩) hs) ?_
  exact lcIfM_core g h p hiT hlen ht he E fun v H' l r => q v H' l r
/-- y = [h x for g x in t if p x] -/
theorem nx_lcIfM {α : Type} {L : List α} (i : Nat) (g h : α → D) (p : α → Bool) (hi : EvI X m C δ (.Name n px) iter (L.map g)) (hlen : L.length < 100000) (hc : X.calm = true) (hN : X.N.Nodup) (ok : BlkOk X.N X.env.scope scope [(n, j)]) (hg : BEvI X scope n j px)
    (ht : ∀ x, x ∈ L → BEvT X m C scope (δ.set j (some (g x))) cnd (p x)) (he : ∀ x, x ∈ L → p x = true → BEv X m C scope (δ.set j (some (g x))) elt (fun z => z = h x))
    (hsw : swapsWith (.ListComp elt [⟨.Name n px, iter, [cnd], 0⟩] scope pos) (some (.Name y py)) spos.line X.env = pure true) (hy : X.N[i]? = some y := by rfl) (hyl : X.env.scope.names.lookup y = some .local := by rfl) (hs : ∀ x, foldedSetIterable iter X.env x = pure x := by intro _; rfl) :
    NxS X m C δ (.Assign [.Name y py] (.ListComp elt [⟨.Name n px, iter, [cnd], 0⟩] scope pos) spos) (δ.set i (some (.lst ((L.filter p).map h)))) := fun σ H E Dn q => by
  obtain ⟨wi, pi, hiT⟩ := hi
  refine ofPS (ps_setLc (i := i) (own := [(n, j)]) (tt := bT X scope cnd) (te := bE X scope elt) hc hN hy hyl hsw pi ok hg (fun s H Cc cl fp => pts_one ⟨fun pins s' σ' H' Q' I h => h s H Cc cl fp pins s' I⟩) (fun s H Cc cl fp => ⟨fun pins s' σ' H' Q' I h => h s H Cc cl fp pins s' I⟩) hs) ?_
  exact lcIfM_core g h p hiT hlen ht he E fun v H' l r => q _ H' l ((E.le l).set r)
/-- for x in t, the slots out of a set -/
theorem nxp_for (Pv : Nat → Dl → Prop) {L : List D → Prop} (hi : EvIP X m C δ (.Name n px) iter L) (h0 : Pv 0 δ) (hp : PassesOwn (model X.prog X.w) X.A X.env X.xe) (hc : X.calm = true) (hN : X.N.Nodup) (hb : ∀ ds i d δ', L ds → ds[i]? = some d → Pv i δ' → NxsP X m C (δ'.set j (some d)) body (Pv (i + 1)))
    (hj : X.N[j]? = some n := by rfl) (hx : Loc X.env.scope n := by first | exact Or.inl rfl | exact Or.inr rfl) (hf : X.fn n = true ∨ X.env.scope.names.lookup n = some .local := by first | exact .inl rfl | exact .inr rfl)
    (hs : ∀ x, foldedSetIterable iter X.env x = pure x := by intro _; rfl) : NxP X m C δ (.For (.Name n px) iter body [] pos) (fun δ' => ∃ ds, L ds ∧ Pv ds.length δ') := fun σ H E Dn q => by
  obtain ⟨wi, pi, hiT⟩ := hi
  refine ofPS (ps_for hp hc pi (pg_name hN hj hx hf) pssW hs) (hiT σ H E _ fun ds J H1 hL l1 w => ?_)
  refine ⟨fun i k σ' H' => k = ds.length - i ∧ i ≤ ds.length ∧ Le m H1 H' ∧ ∃ δ', Pv i δ' ∧ Sl X.K m C H' σ' δ', ⟨ds.length, by simp, Nat.zero_le _, .refl m H1, δ, h0, E.le l1⟩, ?_⟩
  rintro i k σ' H' ⟨rfl, hi, l, δ', p, E'⟩
  by_cases hlt : i < ds.length
  · refine .inr ⟨w.go i H' (.of_le l) hlt, fun σ2 H2 => Le m H1 H2 ∧ ∃ δ', Pv (i + 1) δ' ∧ Sl X.K m C H2 σ2 δ', fun σ2 H2 ⟨l2, z⟩ => ⟨ds.length - (i + 1), by omega, rfl, hlt, l2, z⟩, fun x H2 y => ?_⟩
    obtain ⟨e1, d, hd, r⟩ := w.yld i H' x H2 (.of_le l) hlt y
    subst e1
    exact hb ds i d δ' hL hd p _ _ (E'.set (r.le l)) _ fun δ2 σ3 H3 p2 l3 E3 => ⟨l.trans l3, δ2, p2, E3⟩
  · have e : i = ds.length := by omega
    subst e
    exact .inl ⟨w.stop H' (.of_le l), q δ' σ' H' ⟨ds, hL, p⟩ (l1.trans l) E'⟩
end
end PB

/-! _law_lines_right -/
namespace PB
open PySem PySem.Spec PyProof.Rows L2
open PP (Call Spot Word)
theorem due_all {α : Type} (p : α → Bool) (h : α → D) : ∀ L : List α, ((L.filter fun c => !p c).map h).isEmpty = L.all p
  | [] => rfl
  | c :: L => by
    have ih := due_all p h L
    rw [List.filter_cons, List.all_cons]
    cases hp : p c with
    | true =>
      rw [if_neg (by simp), ih]
      rfl
    | false =>
      rw [if_pos (by simp)]
      rfl
theorem inV_bls (bs : List Bool) : (!inV (.bl false) (bs.map V.bl)) = bs.all id := by
  induction bs with
  | nil => rfl
  | cons b bs ih =>
    rw [List.map_cons, List.all_cons, ← ih]
    show (!(eqV (.bl b) (.bl false) || inV (.bl false) (bs.map V.bl))) = _
    cases b
    · rfl
    · rfl
theorem EvIP.imp {X : Cx} {m : Md} {C : Addr} {δ : Dl} {tg e : Expr} {L L' : List D → Prop} (h : EvIP X m C δ tg e L) (q : ∀ ds, L ds → L' ds) : EvIP X m C δ tg e L' := by
  obtain ⟨wi, pi, h⟩ := h
  exact ⟨wi, pi, fun σ H E Rr k => h σ H E Rr fun ds J H1 hL l w => k ds J H1 (q ds hL) l w⟩
section
variable {P : Program} {w : World} {K : PySem.W.Frag} {mg : Str → Option Value} {base : Heap} {C : Addr}
def oneD (fs : Int) (cs : List Call) (c : PP.Claim) : D := tD (aOf fs cs [c])
def F_lines : List D → D → Prop := fun ds d => ∃ (fs : Int) (cs : List Call) (cl : List PP.Claim), ds = [.bag, scD fs cs, .lst (cl.map clD), tD (aOf fs cs cl), .lst (cl.map (oneD fs cs))] ∧ (∀ c ∈ cl, ClOk fs cs c) ∧ cl.length ≤ 1000 ∧ d = .bl true
abbrev nLi : List Str := ["_law_bag_here", "_law_rule", "_law_some", "_law_told", "_law_single", "_law_near", "_law_high", "_law_rows", "_law_due", "_law_truths", "_law_one_here"]
theorem sc_lines : FnScope nLi ["_law_bag_here", "_law_rule", "_law_some", "_law_told", "_law_single"] (defScope (topS 60)) := ⟨rfl, rfl, rfl, by decide +kernel, rfl, by decide +kernel, by decide +kernel⟩
theorem fx_lines (T : Txt K w mg C) : Fx P w K mg base C "_law_lines_right" 10 5 (det F_lines) :=
  fx_mk (k := 9) T.lines_right sc_lines rfl fun f cdv A outer s0 H E hr m ds R hn ⟨d, ⟨fs, cs, cl, hd, ok, hl, e⟩, hR⟩ => by
    subst hR e hd
    have hf := aOf_first ok
    have hsm := aOf_some ok
    generalize ha : aOf fs cs cl = a at hf hsm
    refine rt_consP (nx_setP 5 (R := fun d => ∃ ns : List Int, d = .lst (ns.map D.int)) (EvP.imp (ev_lstP (ea_consP ev_int (ea_consP ev_int (ea_consP ev_int (ea_consP ev_int (ea_consP (ev_sub (ev_ixT (ev_name 3) ev_int) ev_int) (ea_consP (ev_ixT (ev_name 3) ev_int)
      (ea_oneP (ec_fP (fx_one T) hr (ea_cons (ev_name 0) (ea_cons (ev_catL (ev_ixT (ev_name 3) ev_int) (ev_lst (ea_cons ev_int ea_nil)) (by rw [List.length_map, List.length_singleton]; omega)) ea_nil)) ⟨_, rfl, by simp, by rw [List.length_append, List.length_map, List.length_singleton]; omega, rfl⟩)))))))) ?_) ?_) sc_lines.nd) ?_
    · rintro ds ⟨_, _, rfl, _, _, _, rfl, _, _, _, rfl, _, _, _, rfl, _, _, _, rfl, _, _, _, rfl, _, _, rfl, _⟩
      simp
    · rintro z ⟨ds, rfl, _, _, rfl, rfl, _, _, rfl, rfl, _, _, rfl, rfl, _, _, rfl, rfl, _, _, rfl, rfl, _, _, rfl, rfl, x, rfl, hx⟩
      have hx2 : ∃ i : Int, x = .int i := by
        rcases List.mem_append.mp hx with h | h
        · obtain ⟨i, _, rfl⟩ := List.mem_map.mp h
          exact ⟨i, rfl⟩
        · exact ⟨5, List.mem_singleton.mp h⟩
      obtain ⟨i, rfl⟩ := hx2
      exact ⟨[1, 2, 3, 4, a.first - 1, a.first, i], rfl⟩
    rintro δ' ⟨d, ⟨near, rfl⟩, rfl⟩
    obtain ⟨mx, hm1, hm2⟩ := max_ex (cl.map (fun c => (aOf fs cs [c]).first) ++ [a.first]) (by simp)
    have hmx : 1 ≤ mx ∧ mx ≤ 205 := by
      rcases List.mem_append.mp hm1 with h | h
      · obtain ⟨c, hc, rfl⟩ := List.mem_map.mp h
        exact aOf_first fun d hd => by rw [List.mem_singleton.mp hd]; exact ok c hc
      · rw [List.mem_singleton.mp h]
        exact hf
    refine rt_cons (nx_set 6 (d := .int (mx + 2)) (ev_add (ev_maxL (ns := cl.map (fun c => (aOf fs cs [c]).first) ++ [a.first]) rfl T.b.max ((ev_catL (ev_lcMI (L := cl) (j := 10) (oneD fs cs) (fun c => (aOf fs cs [c]).first) (ei_lst (ev_name 4)) (by omega) rfl sc_lines.nd
        (blkOk_by (own := [("_law_one_here", 10)]) (N := nLi) (sc := defScope (topS 60)) (by decide +kernel)) (fun _ _ _ _ _ => pg_name (i := 10) sc_lines.nd rfl (Or.inl rfl)) (fun c hc p s' H0 Cc cl' fp => ev_ixT (ev_name 10) ev_int)) (ev_lst (ea_cons (ev_ixT (ev_name 3) ev_int) ea_nil)) (by rw [List.length_map, List.length_map, List.length_singleton]; omega)).is (by rw [List.map_append]; rfl)) hm1 hm2) ev_int) sc_lines.nd) ?_
    refine rt_consP (nxp_for (j := 7) (fun _ δ' => ∃ o1 o2 o3 : Option D, δ' = [some .bag, some (scD fs cs), some (.lst (cl.map clD)), some (tD a), some (.lst (cl.map (oneD fs cs))), some (.lst (near.map D.int)), some (.int (mx + 2)), o1, o2, o3, none]) (L := fun ds => ∀ d ∈ ds, ∃ r : Int, d = .int r ∧ 1 ≤ r) ?_ ⟨none, none, none, rfl⟩ PassesOwn.never rfl sc_lines.nd ?_) ?_
    · refine EvIP.imp (EvI.p (ei_lst (ev_catL (ev_listR2 rfl T.b.list T.b.range ev_int (ev_add (ev_name 6) ev_int) (by omega)) (ev_lst (ea_cons (ev_add (ev_pow ev_int ev_int ⟨by decide, by decide, by decide⟩) ev_int) ea_nil)) (by rw [List.length_map, PP.ints_len, List.length_singleton]; omega)))) ?_
      rintro ds rfl d hd
      rcases List.mem_append.mp hd with h | h
      · obtain ⟨r, hr', rfl⟩ := List.mem_map.mp h
        exact ⟨r, rfl, (PP.mem_ints.mp hr').1⟩
      · exact ⟨_, List.mem_singleton.mp h, by decide +kernel⟩
    · rintro ds i d δ' hds hd ⟨o1, o2, o3, rfl⟩
      obtain ⟨rows, rfl, hrows⟩ := hds d (List.mem_of_getElem? hd)
      have hin : a.in_ rows = PP.allSo fs cs cl rows := by
        rw [← ha]
        exact in_all ok hrows
      refine nxsp_s (nx_set 8 (d := .bl (PP.allSo fs cs cl rows)) ?_ sc_lines.nd) ?_
      · refine (ev_cmp (ec_nil (ds := (cl.filter fun c => !PP.isSo fs rows cs c).map (oneD fs cs)) hr (ev_lcIfM (L := cl) (j := 10) (oneD fs cs) (oneD fs cs) (fun c => !PP.isSo fs rows cs c) (ei_lst (ev_name 4)) (by omega) rfl sc_lines.nd
          (blkOk_by (own := [("_law_one_here", 10)]) (N := nLi) (sc := defScope (topS 60)) (by decide +kernel)) (fun _ _ _ _ _ => pg_name (i := 10) sc_lines.nd rfl (Or.inl rfl)) (fun c hc p s' H0 Cc cl' fp => ?_) (fun c hc _ p s' H0 Cc cl' fp => ev_name 10)) ?_)).is ?_
        · exact (et_not (et_val (ec_f (fx_in T) hr (ea_cons (ev_name 10) (ea_cons (ev_name 7) ea_nil)) ⟨aOf fs cs [c], rows, rfl, rfl⟩))).is (by rw [in_one (ok c hc) hrows])
        · intro d hd
          obtain ⟨c, _, rfl⟩ := List.mem_map.mp hd
          exact (fine_tD _).mono (by decide)
        · rw [due_all]
          rfl
      refine nxsp_s (nx_ifF (et_cmp (ec_ne (ec_f (fx_in T) hr (ea_cons (ev_name 3) (ea_cons (ev_name 7) ea_nil)) ⟨a, rows, rfl, rfl⟩) (ev_name 8)) (by rw [hin]; simp))) ?_
      refine nxsp_s (nx_lcIfM (L := cl) (j := 10) 9 clD (fun c => .bl (PP.isSo fs rows cs c)) (fun _ => inV (.int rows) (near.map V.int)) (ei_lst (ev_name 2)) (by omega) rfl sc_lines.nd
          (blkOk_by (own := [("_law_one_here", 10)]) (N := nLi) (sc := defScope (topS 60)) (by decide +kernel)) (fun _ _ _ _ _ => pg_name (i := 10) sc_lines.nd rfl (Or.inl rfl)) (fun c hc p s' H0 Cc cl' fp => et_cmp (ec_inL (ev_name 7) (ev_name 5) (flats_ints _))) (fun c hc _ p s' H0 Cc cl' fp => ?_) (sw_true rfl rfl rfl (by decide +kernel))) ?_
      · exact ec_f (fx_holds T) hr (ea_cons (ev_name 1) (ea_cons (ev_name 7) (ea_cons (ev_name 10) ea_nil))) ⟨fs, rows, cs, c, rfl, ok c hc, rfl⟩
      refine nxsp_s (nx_ifF (et_ww ?_)) (nxsp_nil ⟨_, _, _, rfl⟩)
      cases hb : inV (.int rows) (near.map V.int) with
      | false => exact ew_andF (et_cmp (ec_inL (ev_name 7) (ev_name 5) (flats_ints _)) hb)
      | true =>
        refine ew_andT (et_cmp (ec_inL (ev_name 7) (ev_name 5) (flats_ints _)) hb) (ew_and1 (et_cmp (ec_ne (ev_name 8) (y := .bl (PP.allSo fs cs cl rows)) ?_) (by simp)))
        have e : (cl.filter fun _ => true) = cl := by simp
        rw [e]
        refine (ev_cmp (ec_niL (us := (cl.map (fun c => PP.isSo fs rows cs c)).map V.bl) ev_bl (ev_name 9) ?_)).is ?_
        · rw [← flats_bls, List.map_map]
          rfl
        · rw [inV_bls, List.all_map]
          rfl
    · rintro δ' ⟨_, _, _, _, _, rfl⟩
      exact rt_ret ev_bl
end
end PB

/-! sorted(set(xs)), xs a list of intsF of any length up to 4000 -/
namespace PB
open PySem PySem.Spec PyProof.Rows L2
/-- the empty set as it is laid, and the heap that has it last -/
abbrev eSet (w : World) : Obj := { cls := .type "set", dict := none, data := .set #[] 0 (.fresh 0 0 (!w.params.followText "set-order")) }
abbrev hSet (w : World) (s : Shared) : Heap := s.heap.push (eSet w)
section
variable {P : Program} {w : World} {A : Around} {E : Value → Shared → Prop} {s : Shared}
/-- what set.__init__ over the list does -/
theorem fill_set {l : Addr} {us : Array Value} (ns : List Int) (hh : A.handled = none) (hl : s.heap.IsList l us) (hit : IntsAre us.toList ns) (hn : us.size = ns.length) (hb : ns.length + 1 < scanBound) {R : Result → Shared → Prop}
    (hR : ∀ s' c, Moved (s.heap.objs.size :: [(hSet w s).objs.size]) (fun g g' => g' = g) { s with heap := (hSet w s).push { cls := .type "list_iterator", data := .fields #[.ref l, .int 0 0] } } s' → c ≤ us.size → SetR w s'.heap s.heap.objs.size (fun j => decide (j ∈ ns)) c → R (.ok (.ret .none)) s') :
    codeAny (model P w) A (.builtin "set.update.loop" ⟨[.ref s.heap.objs.size, .ref (hSet w s).objs.size], []⟩) R { s with heap := (hSet w s).push { cls := .type "list_iterator", data := .fields #[.ref l, .int 0 0] } } := by
  obtain ⟨o, ho, _⟩ := id hl
  have small : l < s.heap.objs.size := Heap.lt_size ho
  have big : (hSet w s).objs.size = s.heap.objs.size + 1 := Heap.size_push ..
  have apart : l ≠ (hSet w s).objs.size := Nat.ne_of_lt (by rw [big]; exact Nat.lt_succ_of_lt small)
  have hl1 : (hSet w s).IsList l us := hl.push _
  have get : (hSet w s).get? s.heap.objs.size = some (eSet w) := Heap.get?_push_size _ rfl
  have outside : s.heap.objs.size ∉ [(hSet w s).objs.size, l] := by
    intro z
    rcases List.mem_cons.mp z with z | z
    · exact Nat.ne_of_lt (Nat.lt_succ_self _) (z.trans big)
    · exact Nat.ne_of_gt small (List.mem_singleton.mp z)
  have val : ∀ (i : Nat) (v : Value), us[i]? = some v → ∃ k t, ns[i]? = some k ∧ v = .int k t := fun i v hv => by
    have hi : i < ns.length := by
      have := (Array.getElem?_eq_some_iff.mp hv).1
      omega
    obtain ⟨t, e⟩ := PyProof.Rows.IntsAre.int_at hit i v (by rw [Array.getElem?_toList]; exact hv)
    rw [List.getD_eq_getElem?_getD, List.getElem?_eq_getElem hi] at e
    exact ⟨ns[i], t, List.getElem?_eq_getElem hi, e⟩
  exact set_update_ints ((Walks.list (A := A.in1) hh (hSet w s).objs.size l apart us).toS) s.heap.objs.size outside ns hn hb val us.size 0 _ (by omega) (Nat.zero_le _) ⟨⟨_, Heap.get?_push_size _ rfl, rfl, rfl⟩, hl1.push _⟩
    ⟨0, Nat.le_refl 0, setR_new_at (Heap.get?_push_of_some _ get)⟩ hR
set_option maxHeartbeats 3200000 in
theorem call_set_lstI {l : Addr} {us : Array Value} (ns : List Int) {Q : Value → Shared → Prop} (hh : A.handled = none) (hl : s.heap.IsList l us) (hit : IntsAre us.toList ns) (hb : ns.length + 1 < scanBound)
    (q : ∀ (h' : Heap) (tk c : Nat), SetR w h' s.heap.objs.size (fun j => decide (j ∈ ns)) c → c ≤ ns.length → (∀ b o, s.heap.get? b = some o → h'.get? b = some o) → Q (.ref s.heap.objs.size) { s with heap := h', toks := tk }) :
    wpAny (model P w) A (call (.type "set") [.ref l]) Q E s := by
  have hn : us.size = ns.length := by
    rw [← Array.length_toList]
    exact IntsAre.length hit
  obtain ⟨m1, m2, mro⟩ := F.called_set.mro
  have made := F.called_set.made
  have sub := F.called_set.sub
  have notT := F.called_set.notType
  have canC := F.called_set.canCreate
  have tc := F.typeCall_set_1 (.ref l)
  refine wpAny_call (codeAny_of_tree ?_)
  show wpAny _ _ (callAny (.type "set") _) _ _ _
  refine wpAny_pure ⟨Code.quiet_builtin _ (by decide +kernel), codeAny_builtin F.entry_type_call ?_⟩
  rw [Around.under_plain (weight_type_call_type "set" [.ref l] []) rfl]
  repeat (any_goals (first | assumption | wp_step))
  refine codeAny_mono (code_set_led1 (.ref l) (E := E) (Q₁ := fun obj s₁ => obj = .ref s.heap.objs.size ∧ s₁ = { s with heap := hSet w s }) ⟨rfl, rfl⟩) fun r s₁ hr => ?_
  cases r with
  | error e => exact hr
  | ok fl =>
  cases fl with
  | next => exact hr.elim
  | brk => exact hr.elim
  | cont => exact hr.elim
  | ret obj =>
    obtain ⟨rfl, rfl⟩ := hr
    have get : (hSet w s).get? s.heap.objs.size = some (eSet w) := Heap.get?_push_size _ rfl
    have ty : Shared.TypeIs { s with heap := hSet w s } (.ref s.heap.objs.size) "set" := ⟨_, get, rfl⟩
    have li := F.called_set.init.lookup
    have bi := F.called_set.init.bind (.ref s.heap.objs.size)
    repeat (any_goals (first | assumption | wp_step))
    refine codeAny_mono (codeAny_call_builtin (R := wants (fun r s₂ => r = .none ∧ ∃ h' tk c, s₂ = { s with heap := h', toks := tk } ∧ SetR w h' s.heap.objs.size (fun j => decide (j ∈ ns)) c ∧ c ≤ ns.length ∧ (∀ b o, s.heap.get? b = some o → h'.get? b = some o)) E)
      F.called_set.init.plain F.entry_set_init (check_set_init_1 ty ?_)) fun r₂ s₂ hr₂ => ?_
    · obtain ⟨⟨c0, d0, data, sl⟩, ho, hc, nl, hd⟩ := id hl
      simp only at hc hd
      subst hc hd
      have ho' : (hSet w s).get? l = some { cls := .type "list", dict := d0, data := .seq us nl, slots := sl } := Heap.get?_push_of_some _ ho
      have s1 := F.sub_list_set
      have s2 := F.sub_list_frozenset
      have s3 : (Value.type "list" == Value.type "dict") = false := by decide
      have hl1 : (hSet w s).IsList l us := hl.push _
      unfold Builtin.«set.__init__» noKeywords Builtin.Frozenset.updateFrom
      generalize hPI : pyIter = PI
      wp_walk
      subst hPI
      refine wpAny_pyIter_list hl1 (wpAny_bind (wpAny_runValue (fill_set ns (by simp [hh]) hl hit hn hb fun s' c mv hc hS => ?_)))
      obtain ⟨h', g', d', tk', os'⟩ := s'
      obtain ⟨rfl, rfl, rfl⟩ : g' = s.gens ∧ d' = s.drawn ∧ os' = s.os := ⟨mv.gens, mv.drawn, mv.os⟩
      show wpAny _ _ (pure ()) _ _ _
      refine wpAny_pure ?_
      show wpAny _ _ (ret Value.none) _ _ _
      refine wpAny_pure ⟨rfl, h', tk', c, rfl, hS, by rw [← hn]; exact hc, fun b o e => mv.heap b o (fun z => ?_) (Heap.get?_push_of_some _ (Heap.get?_push_of_some _ e))⟩
      have lt : b < s.heap.objs.size := Heap.lt_size e
      rcases List.mem_cons.mp z with z | z
      · exact Nat.ne_of_lt lt z
      · exact Nat.ne_of_lt (Nat.lt_succ_of_lt lt) ((List.mem_singleton.mp z).trans (Heap.size_push ..))
    · cases r₂ with
      | error e => exact hr₂
      | ok fl₂ =>
        cases fl₂ with
        | next => exact hr₂.elim
        | brk => exact hr₂.elim
        | cont => exact hr₂.elim
        | ret r =>
          obtain ⟨rfl, h', tk, c', rfl, hS, hc, hk⟩ := hr₂
          repeat (any_goals (first | assumption | wp_step))
          exact q _ _ _ hS hc hk
theorem sorted_setN {a : Addr} {S : Int → Bool} {n : Nat} {Q : Value → Shared → Prop} (R : SetR w s.heap a S n) (hh : A.handled = none)
    (q : ∀ s' p (out : List Value) (c : Nat) (ns : List Int), (∀ b o, s.heap.get? b = some o → s'.heap.get? b = some o) → s'.gens = s.gens → s'.os = s.os → s.heap.objs.size ≤ p →
      s'.heap.get? p = some (seqObj "list" out.toArray c) → IntsAre out ns → ns.Pairwise (· < ·) → (∀ k, k ∈ ns ↔ S k = true) → ns.length ≤ 4096 → Q (.ref p) s') : wpAny (model P w) A (call (.builtin "sorted") [.ref a]) Q E s := by
  obtain ⟨o, es, ep, t, ho, hex, hd, good, nd, mem, few, fit, hn, ris, led⟩ := R
  refine Calls.call_function_entry kind_sorted plain_sorted entry_sorted (args_sorted1 _) (by
    unfold Builtin.«sorted»
    refine wpAny_bind (m := checkCount "sorted" 1 1 _) (wpAny_pure (wpAny_bind (collect_set (A := A.in1) hh ⟨o, ho, hex.1, hd⟩ fit few ris led fun s1 vs k1 big g1 o1 pm => ?_)))
    have hI : IntsAre vs (vs.map Builtin.Re.reRawOf) := L2.ints_of vs fun v hv => by
      obtain ⟨e, he, rfl⟩ := List.mem_map.mp (pm.mem_iff.mp hv)
      exact let ⟨k, tk, h1, _⟩ := good e he; ⟨k, tk, h1⟩
    have pk : (vs.map Builtin.Re.reRawOf).Perm (es.toList.map keyOf) := by
      rw [show es.toList.map keyOf = (es.toList.map (·.2)).map Builtin.Re.reRawOf by rw [List.map_map]; rfl]
      exact pm.map _
    have len : vs.length ≤ 4096 := by
      rw [pm.length_eq, List.length_map, Array.length_toList]
      exact Nat.le_of_lt few
    have line : vs.length ≤ sizeLine := by rw [sizeLine_eq]; omega
    refine wpAny_bind (wpAny_newList ?_ line)
    have laid : (s1.heap.push (seqObj "list" vs.toArray 0)).get? s1.heap.objs.size = some (seqObj "list" vs.toArray 0) := Heap.get?_push_size _ rfl
    refine wpAny_bind (wpAny_holding (wpAny_call_entry slot_list_sort ⟨_, laid, rfl⟩ entry_list_sort (SrtO.list_sort_ord SrtO.swo_int laid line (fun h2 => SrtO.ints_sortable hI h2) fun out u1 u2 => ⟨_, rfl, ?_⟩) (args_list_sort _)))
    obtain ⟨i1, i2, i3⟩ := SrtO.ints_out hI u1 u2
    obtain ⟨c, hc⟩ := sortedHeap_at (vs := vs) (out := out.toArray) laid
    have pn := i2.trans pk
    refine wpAny_pure ⟨_, rfl, q _ s1.heap.objs.size out c _ (fun b u e => ?_) g1 o1 big hc i1 (lt_of_le_nodup _ i3 (pn.nodup_iff.mpr nd)) (fun k => by rw [pn.mem_iff, ← mem k]) (by rw [i2.length_eq, List.length_map]; exact len)⟩
    have lt := Heap.lt_size (k1 b u e)
    exact (sortedHeap_old (Nat.ne_of_lt lt) (by rw [size_push']; exact Nat.lt_succ_of_lt lt)).trans (Heap.get?_push_of_some _ (k1 b u e)))
end
section
variable {X : Cx}
theorem cr_setL (hc : X.calm = true) : CallR X (.type "set") (fun vs H Q => ∃ (l : Addr) (ns : List Int), vs = [.ref l] ∧ SqL X.K H l (ns.map V.int) ∧ ns.length ≤ 4000 ∧ ∀ p c, H p = none → Q (.ref p) (upd H p (SetO X.w p (fun j => decide (j ∈ ns)) c))) := by
  intro pins s σ H vs us Q I r h
  obtain ⟨l, ns, rfl, hq, hl, q⟩ := h
  obtain ⟨its, rv, pl, hz⟩ := I.list hq
  rw [Vals.ref1 r]
  refine call_set_lstI ns (I.ok.hd hc) pl.isList (by simpa using rv.ints) (by unfold scanBound; omega) fun h' tk c hS _ hk => ?_
  exact ⟨.ref s.heap.objs.size, upd H s.heap.objs.size (SetO X.w s.heap.objs.size (fun j => decide (j ∈ ns)) c), I.laid hk (Nat.le_refl _) (setO_new hS), rfl, q _ c (I.hok.fresh (Nat.le_refl _))⟩
theorem cr_sortedN (hc : X.calm = true) : CallR X (.builtin "sorted") (fun vs H Q => ∃ (a : Addr) (S : Int → Bool) (n : Nat), vs = [.ref a] ∧ H a = some (SetO X.w a S n) ∧
    ∀ (ns : List Int) (p : Addr), ns.Pairwise (· < ·) → (∀ k : Int, k ∈ ns ↔ S k = true) → H p = none → Q (.ref p) (upd H p (.lst (ns.map V.int)))) := by
  intro pins s σ H vs us Q I r h
  obtain ⟨a, S, n, rfl, ha, q⟩ := h
  rw [Vals.ref1 r]
  refine sorted_setN (setO_get I ha) (I.ok.hd hc) fun s' p out c ns k g o big hg hi hs hm hl => ?_
  have line : (ns.map V.int).length ≤ sizeLine := by rw [List.length_map, sizeLine_eq]; omega
  have free : H p = none := I.hok.fresh big
  have J : Inv X pins σ (upd H p (.lst (ns.map V.int))) { s with heap := s'.heap, gens := s'.gens, drawn := s'.drawn, toks := s'.toks } :=
    I.call (ch := []) (Un.laid k big free) (I.hok.laid k big ⟨line, out, c, vals_of_ints hi, hg⟩) (by rw [g]; exact I.bare) (fun _ z => nomatch z)
  obtain ⟨h1, h2, h3, h4, h5⟩ := s'
  obtain rfl : h5 = s.os := o
  exact ⟨.ref p, _, J, rfl, q ns p hs hm free⟩
end
/-- the members in order: one list only -/
theorem ord_unique : ∀ {xs ys : List Int}, xs.Pairwise (· < ·) → ys.Pairwise (· < ·) → (∀ k, k ∈ xs ↔ k ∈ ys) → xs = ys
  | [], [], _, _, _ => rfl
  | [], y :: ys, _, _, h => absurd ((h y).mpr List.mem_cons_self) (by simp)
  | x :: xs, [], _, _, h => absurd ((h x).mp List.mem_cons_self) (by simp)
  | x :: xs, y :: ys, hx, hy, h => by
    obtain ⟨x1, x2⟩ := List.pairwise_cons.mp hx
    obtain ⟨y1, y2⟩ := List.pairwise_cons.mp hy
    have e : x = y := by
      rcases List.mem_cons.mp ((h x).mp List.mem_cons_self) with a | a
      · exact a
      · rcases List.mem_cons.mp ((h y).mpr List.mem_cons_self) with b | b
        · exact b.symm
        · have := x1 y b
          have := y1 x a
          omega
    subst e
    congr 1
    refine ord_unique x2 y2 fun k => ⟨fun hk => ?_, fun hk => ?_⟩
    · rcases List.mem_cons.mp ((h k).mp (List.mem_cons_of_mem _ hk)) with a | a
      · have := x1 k hk
        omega
      · exact a
    · rcases List.mem_cons.mp ((h k).mpr (List.mem_cons_of_mem _ hk)) with a | a
      · have := y1 k hk
        omega
      · exact a
section
variable {X : Cx} {m : Md} {C : Addr} {δ : Dl} {e : Expr} {pos p1 p2 p3 : Pos}
/-- sorted(set(xs)), xs in order already -/
theorem ev_sortedSet {ns : List Int} (hc : X.calm = true) (hm : X.mg "sorted" = none) (hm2 : X.mg "set" = none) (h : Ev X m C δ e (.lst (ns.map D.int))) (hs : ns.Pairwise (· < ·)) (hl : ns.length ≤ 4000) (hg : Gl X "sorted" := by rfl) (hg2 : Gl X "set" := by rfl)
    (he : starEach [e] X.env = (false, eval e X.env) :: starEach [] X.env := by rfl) (he2 : starEach [.Call (.Name "set" p1) [e] [] p2] X.env = (false, eval (.Call (.Name "set" p1) [e] [] p2) X.env) :: starEach [] X.env := by rfl) :
    Ev X m C δ (.Call (.Name "sorted" p3) [.Call (.Name "set" p1) [e] [] p2] [] pos) (.lst (ns.map D.int)) := .mk fun σ H E Q q =>
  ofPE (pe_callB (cr_sortedN hc) hg hm (by decide +kernel) (pa_cons (pe_callTy (cr_setL hc) hg2 hm2 (by decide +kernel) (pa_cons peW pa_nil he) (by decide) (by decide) he) pa_nil he2) (by decide) (by decide) he2) (h.go E fun v H1 l1 r => by
    obtain ⟨l, rfl, hq⟩ := ints_of r
    refine ⟨l, ns, rfl, hq, hl, fun p c np => ⟨p, _, c, rfl, upd_same, fun ns' p' h1 h2 np' => ?_⟩⟩
    have e : ns' = ns := ord_unique h1 hs fun k => (h2 k).trans decide_eq_true_iff
    subst e
    have l2 := l1.trans (.new (m := m) (o := SetO X.w p (fun j => decide (j ∈ ns')) c) np)
    exact q _ _ (l2.trans (.new np')) ⟨p', _, rfl, upd_same, (E.le l2).new np', .ints⟩)
end
end PB

/-! repr of data; defs that use it: their promise asks that nothing is being shown -/
namespace PB
open PySem PySem.Spec PyProof.Rows L2
open PP (Call Spot Word)
/-! ### what may be shown -/
structure Shw (d : PyData) : Prop where
  lay : PyData.layable0 d = true
  short : d.intsShort 13 = true
  able : d.showable = true
  none : d.hasDict = false
theorem small_int : ∀ i : Nat, i ≤ 1000 → (PyData.shown (.int (i : Int))).length ≤ 13 := by decide +kernel
theorem small_log {i : Int} (h0 : 0 ≤ i) (h1 : i ≤ 1000) : i.natAbs.log2 ≤ 10 := by
  have h : i.natAbs < 2 ^ 11 := by omega
  by_cases e : i.natAbs = 0
  · rw [e]
    decide
  · have := (Nat.log2_lt e).mpr h
    omega
structure IntOk (i : Int) : Prop where
  lo : 0 ≤ i
  hi : i ≤ 1000
theorem IntOk.short {i : Int} (h : IntOk i) : (PyData.int i).intsShort 13 = true := by
  rw [PyData.intsShort]
  have := small_int i.toNat (by have := h.hi; omega)
  rw [show ((i.toNat : Nat) : Int) = i by have := h.lo; omega] at this
  exact decide_eq_true this
theorem IntOk.able {i : Int} (h : IntOk i) : (PyData.int i).showable = true := by
  rw [PyData.showable]
  have := small_log h.lo h.hi
  exact decide_eq_true (by omega)
theorem IntOk.weight {i : Int} (h : IntOk i) : (PyData.int i).weight ≤ 11 := by
  rw [PyData.weight]
  have := small_log h.lo h.hi
  split <;> omega
theorem ints_shw : ∀ {ns : List Int}, (∀ i ∈ ns, IntOk i) → PyData.weightAll (toPys (ns.map D.int)) ≤ 12 * ns.length ∧ PyData.intsShortAll 13 (toPys (ns.map D.int)) = true ∧ PyData.showableAll (toPys (ns.map D.int)) = true ∧ PyData.hasDictAll (toPys (ns.map D.int)) = false
  | [], _ => ⟨by simp [toPys, PyData.weightAll], by simp [toPys, PyData.intsShortAll], by simp [toPys, PyData.showableAll], by simp [toPys, PyData.hasDictAll]⟩
  | n :: ns, h => by
    obtain ⟨h1, h2, h3, h4⟩ := ints_shw fun i hi => h i (List.mem_cons_of_mem _ hi)
    have hn := h n List.mem_cons_self
    rw [List.map_cons, toPys, PyData.weightAll, PyData.intsShortAll, PyData.showableAll, PyData.hasDictAll, h2, h3, h4]
    refine ⟨?_, ?_, ?_, ?_⟩
    · have := hn.weight
      rw [toPy, List.length_cons]
      omega
    · rw [toPy, hn.short]
      rfl
    · rw [toPy, hn.able]
      rfl
    · rw [toPy, PyData.hasDict]
      rfl
theorem lay_of {d : D} {n : Nat} (h : Fine n d) (hn : n ≤ 64) (hw : (toPy d).weight ≤ 1048576) : PyData.layable0 (toPy d) = true := by
  unfold PyData.layable0
  have := h.dep
  rw [h.lay, decide_eq_true (show (toPy d).depth ≤ 64 by omega), decide_eq_true (show (toPy d).weight ≤ 2 ^ 20 from hw)]
  rfl
theorem shw_ints {ns : List Int} (h : ∀ i ∈ ns, IntOk i) (hl : ns.length ≤ 1000) : Shw (toPy (.lst (ns.map D.int))) := by
  obtain ⟨h1, h2, h3, h4⟩ := ints_shw h
  refine ⟨lay_of (n := 1) fine_ints (by decide) ?_, ?_, ?_, ?_⟩
  · rw [toPy, PyData.weight]
    omega
  · rw [toPy, PyData.intsShort]
    exact h2
  · rw [toPy, PyData.showable]
    exact h3
  · rw [toPy, PyData.hasDict]
    exact h4
/-- an answer that may be shown -/
structure AnsOk (a : PP.Ans) : Prop where
  some_ : ∀ i ∈ a.some_, IntOk i
  len : a.some_.length ≤ 1000
  first : IntOk a.first
  ord : a.some_.Pairwise (· < ·)
theorem shw_tD {a : PP.Ans} (h : AnsOk a) : Shw (toPy (tD a)) := by
  obtain ⟨h1, h2, h3, h4⟩ := ints_shw h.some_
  have e : toPy (tD a) = .tuple [.list (toPys (a.some_.map D.int)), .int a.first, .bool a.rest] := by
    unfold tD
    simp only [toPy, toPys]
  have hw := h.first.weight
  have hl := h.len
  refine ⟨lay_of (n := 2) (fine_tD a) (by decide) ?_, ?_, ?_, ?_⟩
  · rw [e]
    simp only [PyData.weight, PyData.weightAll] at hw ⊢
    omega
  · rw [e]
    have := h.first.short
    simp only [PyData.intsShort, PyData.intsShortAll] at this ⊢
    rw [h2, this]
    rfl
  · rw [e]
    have := h.first.able
    simp only [PyData.showable, PyData.showableAll] at this ⊢
    rw [h3, this]
    rfl
  · rw [e]
    simp only [PyData.hasDict, PyData.hasDictAll]
    rw [h4]
    rfl
theorem aOf_ok {fs : Int} {cs : List Call} {cl : List PP.Claim} (h : ∀ c ∈ cl, ClOk fs cs c) : AnsOk (aOf fs cs cl) := by
  have hf := aOf_first h
  have e : (aOf fs cs cl).some_ = (PP.intsF 1 ((aOf fs cs cl).first - 1).toNat).filter (PP.allSo fs cs cl) := rfl
  refine ⟨fun i hi => ?_, Nat.le_trans (aOf_some h) (by decide), ⟨by omega, by omega⟩, ?_⟩
  · rw [e] at hi
    have := PP.mem_ints.mp (List.mem_filter.mp hi).1
    exact ⟨by omega, by omega⟩
  · rw [e]
    exact List.Pairwise.filter _ (PP.ints_sorted _ _)
/-! ### repr(x) -/
section
variable {X : Cx} {m : Md} {C : Addr} {δ : Dl} {e : Expr} {es : List Expr} {pos p1 : Pos} {d : D} {ds : List D} {j k n : Nat} {nm : Str} {R : D → Prop}
theorem call_reprD (hg : X.A.guards = some []) (hu : X.A.units + 100 < cLine) : CallR X (.builtin "repr") (fun vs H Q => ∃ (p : Addr) (d : PyData), vs = [.ref p] ∧ Dp X.K H (.ref p) d ∧ Shw d ∧ Q (.str d.shown) H) := by
  intro pins s σ H vs us Q I r h
  obtain ⟨p, d, rfl, hd, hs, q⟩ := h
  rw [Vals.ref1 r]
  obtain ⟨as, rd⟩ := Dp.reads I d (.ref p) (.ref p) hd rfl
  have lay := hs.lay
  unfold PyData.layable0 at lay
  rw [Bool.and_eq_true, Bool.and_eq_true, decide_eq_true_eq, decide_eq_true_eq] at lay
  have line := shown_le13 hs.lay hs.short
  exact repr_of_reads' rd hs.able (PyData.noDict_hsm hs.none) hg (by have := lay.1.2; omega) (fun b o z => z) (fun h' u tk hk => ⟨.str d.shown, H, I.kept hk, ⟨_, rfl⟩, q⟩) (by unfold sizeLine; omega)
def D.isRef : D → Bool
  | .lst _ => true
  | .tup _ => true
  | _ => false
theorem ref_of {K : PySem.W.Frag} {H : Hp} {v : V} (h : d.isRef = true) (r : Rp K m C H d v) : ∃ p, v = .ref p := by
  cases d <;> simp only [D.isRef, Bool.false_eq_true] at h
  · obtain ⟨a, xs, rfl, _⟩ := r
    exact ⟨a, rfl⟩
  · obtain ⟨a, xs, rfl, _⟩ := r
    exact ⟨a, rfl⟩
theorem ev_repr (hg0 : X.A.guards = some []) (hr : Room j X.A) (hm : X.mg "repr" = none) (h : Ev X m C δ e d) (hi : d.isRef = true) (hok : pyOk d = true) (hs : Shw (toPy d)) (hg : Gl X "repr" := by rfl) (he : starEach [e] X.env = (false, eval e X.env) :: starEach [] X.env := by rfl) :
    Ev X m C δ (.Call (.Name "repr" p1) [e] [] pos) (.str (toPy d).shown) :=
  ev_callB (call_reprD hg0 (by have := hr.un; omega)) hm (by decide +kernel) (ea_cons h ea_nil he) (fun vs σ H E r0 Q q => by
    obtain ⟨v, rfl, r⟩ := one_rp r0
    obtain ⟨p, rfl⟩ := ref_of hi r
    exact ⟨p, toPy d, rfl, r.dp hok, hs, q _ H (.refl m H) rfl⟩) hg (by decide) (by decide) he
end
end PB

/-! defs that show: calls, _law_alike, _law_form_right, _law_bare_right -/
namespace PB
open PySem PySem.Spec PyProof.Rows L2
open PP (Call Spot Word)
/-- nothing is being shown around -/
def spG (sp : Sp) : Around → Shared → Sp := fun A _ vs H Q E => A.guards = some [] ∧ sp vs H Q E
structure Gx (P : Program) (w : World) (K : PySem.W.Frag) (mg : Str → Option Value) (base : Heap) (nm : Str) (k : Nat) (sp : Sp) : Prop where
  ex : ∃ f fd ps, FnG P w K mg base k f fd ps (spG sp) ∧ mg nm = some (.ref f) ∧ PySem.W.keepIn K (.ref f) = true ∧ Binds K fd ps []
section
variable {P : Program} {w : World} {K : PySem.W.Frag} {mg : Str → Option Value} {base : Heap} {C : Addr} {nm gn : Str} {st : Stmt} {N ps : List Str} {k n : Nat} {Pr : List D → (D → Prop) → Prop}
theorem gx_mk (Df : DefAs K mg gn nm st ps) (S : FnScope N ps (defScope st)) (hn : n = ps.length)
    (hb : ∀ (f : Addr) (cdv : Value) (A : Around) (outer : List Env) (s : Shared) (H : Hp) (E : XK), Room k (A.deeper (envOfC nm (defScope st) s.heap.objs.size f cdv)) → A.guards = some [] → ∀ (m : Md) (ds : List D) (R : D → Prop), ds.length = n → Pr ds R →
      Rt (bodyCx P w K mg base N nm st f cdv A outer s H E) m C (dl0 N ds) (defBody st) R) : Gx P w K mg base gn (k + 1) (spX K C n Pr) := by
  obtain ⟨f, fd, F, h1, h2⟩ := Df.ex
  refine ⟨f, fd, ps, fnG_mk F S (fun A s vs H Q E h => ?_) (fun cdv A outer s H vs Q E hr h => ?_), h1, F.kp, h2⟩
  · obtain ⟨_, m, ds, R, hl, _, _, r, _⟩ := h
    rw [r.length, hl, hn]
  · obtain ⟨hg, m, ds, R, hl, h1, h2, r, hp, q⟩ := h
    exact hb f cdv A outer s H E hr hg m ds R hl hp _ _ (start_sl h1 h2 r) _ fun d v H' hd l rr => q d v H' hd l rr
end
section
variable {X : Cx} {m : Md} {C : Addr} {δ : Dl} {e : Expr} {es : List Expr} {pos p1 : Pos} {d : D} {ds : List D} {j k n : Nat} {nm : Str} {R : D → Prop} {sp : Sp} {σ : L2.St} {H : Hp}
/-- a call of such a def, by its promise -/
theorem we_g (G : Gx X.prog X.w X.K X.mg X.base nm k sp) (hg0 : X.A.guards = some []) (hr : Room j X.A) {Q : VK} (h : wA X (e :: es) σ H fun vs H1 => sp vs H1 Q E0) (hk : k ≤ j := by decide)
    (hg : Gl X nm := by rfl) (hdb : (nm == ("__debug__" : Str)) = false := by decide) (he : starEach (e :: es) X.env = (false, eval e X.env) :: starEach es X.env := by rfl) (hpl : (backTo pos (starEach es X.env)).any (·.1) = false := by rfl) : wE X (.Call (.Name nm p1) (e :: es) [] pos) σ H Q := by
  obtain ⟨f, fd, ps, F, hm, hkp, hb⟩ := G.ex
  intro pins s I
  refine wpAny_Call_Name_kw (ld_glob I hg hm (PySem.W.callWith_K (h₀ := X.base) I.ok.mod.kin hkp (thn (h pos pins s I) fun us s1 ⟨vs, H1, I1, r, q⟩ => ⟨I1.kIn, ?_⟩) he hpl) hdb)
  have hsp : spG sp X.A s1 vs H1 Q E0 := ⟨hg0, q⟩
  have hl : us.length = ps.length := by rw [← r.length, F.len _ _ _ _ _ _ hsp]
  refine wpAny_call (codeAny_mono (F.run X.A X.stack s1 H1 ⟨us, []⟩ us vs Q E0 (hr.mono hk) I1.env0 (by simpa using hb s1 us I1.kIn (by simpa using hl)) r hsp) fun r s2 hq => ?_)
  match r, hq with
  | .ok (.ret _), hq => exact I1.after hq
theorem ec_g {Pr : List D → (D → Prop) → Prop} (G : Gx X.prog X.w X.K X.mg X.base nm k (spX X.K C n Pr)) (hg0 : X.A.guards = some []) (hr : Room j X.A) (ha : EvA X m C δ (e :: es) (fun z => z = ds)) (hp : Pr ds R) (hk : k ≤ j := by decide) (hn : ds.length = n := by rfl)
    (hg : Gl X nm := by rfl) (hdb : (nm == ("__debug__" : Str)) = false := by decide) (he : starEach (e :: es) X.env = (false, eval e X.env) :: starEach es X.env := by rfl) (hpl : (backTo pos (starEach es X.env)).any (·.1) = false := by rfl) : EvP X m C δ (.Call (.Name nm p1) (e :: es) [] pos) R := fun σ H E Q q =>
  we_g G hg0 hr (ha.go E fun vs H1 l1 r1 => ⟨m, ds, R, hn, (E.le l1).bag, (E.le l1).more, r1, hp, fun d v H' hd l r => q d v H' hd (l1.trans l) r⟩) hk hg hdb he hpl
end
section
variable {P : Program} {w : World} {K : PySem.W.Frag} {mg : Str → Option Value} {base : Heap} {C : Addr}
/-! ### _law_alike: of equal data -/
structure Same1 (d : D) : Prop where
  ref : d.isRef = true
  fine : Fine 5 d
  shw : Shw (toPy d)
theorem same_tD {a : PP.Ans} (h : AnsOk a) : Same1 (tD a) := ⟨rfl, (fine_tD a).mono (by decide), shw_tD h⟩
theorem same_ints {ns : List Int} (h : ∀ i ∈ ns, IntOk i) (hl : ns.length ≤ 1000) : Same1 (.lst (ns.map D.int)) := ⟨rfl, fine_ints.mono (by decide : 1 ≤ 5), shw_ints h hl⟩
def F_alike : List D → D → Prop := fun ds d => ∃ x : D, ds = [x, x] ∧ Same1 x ∧ d = .bl true
theorem sc_alike : FnScope ["_law_found", "_law_due"] ["_law_found", "_law_due"] (defScope (topS 52)) := ⟨rfl, rfl, rfl, by decide +kernel, rfl, by decide +kernel, by decide +kernel⟩
theorem gx_alike (T : Txt K w mg C) : Gx P w K mg base "_law_alike" 1 (spX K C 2 (det F_alike)) :=
  gx_mk (k := 0) T.alike sc_alike rfl fun f cdv A outer s H E hr hg m ds R hn ⟨d, ⟨x, hd, hx, e⟩, hR⟩ => by
    subst hR e hd
    exact rt_ret ((ev_and (u := true) (ev_cmp (ec_eqD hr (ev_name 0) (ev_name 1) hx.fine.eq hx.fine.eq hx.fine.same)) fun _ => ev_one ((ev_cmp (ec_eq (ev_repr (X := bodyCx P w K mg base _ _ (topS 52) f cdv A outer s H E) hg hr T.b.repr (ev_name 0) hx.ref hx.fine.ok hx.shw) (ev_repr hg hr T.b.repr (ev_name 1) hx.ref hx.fine.ok hx.shw))).is (by simp))).is rfl)
/-! ### _law_form_right -/
def F_form : List D → D → Prop := fun ds d => ∃ a : PP.Ans, ds = [tD a] ∧ AnsOk a ∧ d = .bl true
theorem sc_form : FnScope ["_law_told"] ["_law_told"] (defScope (topS 63)) := ⟨rfl, rfl, rfl, by decide +kernel, rfl, by decide +kernel, by decide +kernel⟩
theorem ec_is {X : Cx} {m : Md} {C : Addr} {δ : Dl} {a b : Expr} {t u : Bool} (ha : Ev X m C δ a (.bl t)) (hb : Ev X m C δ b (.bl u)) : EvC X m C δ .Is a b (.bl (decide (t = u))) :=
  ec_op op_isBl ha hb fun v w σ H E hv hw Q q => ⟨t, u, hv, hw, q _ H (.refl m H) rfl⟩
theorem gx_form (T : Txt K w mg C) : Gx P w K mg base "_law_form_right" 2 (spX K C 1 (det F_form)) :=
  gx_mk (k := 1) T.form_right sc_form rfl fun f cdv A outer s H E hr hg m ds R hn ⟨d, ⟨a, hd, ok, e⟩, hR⟩ => by
    subst hR e hd
    refine rt_ifF (et_ww (ew_orF (et_not (et_val (ev_isi T.b.isi T.b.tuple (T := "tuple") (by decide +kernel) (ev_name 0) rfl (t := true) (by decide +kernel)))) (ew_or1 (et_not (et_val (t := true) (ec_g (gx_alike T) hg hr (ea_cons (ev_ixT (ev_name 0) ev_int) (ea_cons (ev_sortedSet rfl T.b.sorted T.b.set (ev_ixT (ev_name 0) ev_int) ok.ord (by have := ok.len; omega)) ea_nil)) ⟨_, ⟨_, rfl, same_ints ok.some_ ok.len, rfl⟩, rfl⟩)))))) ?_
    refine rt_ret ((ev_or (u := decide (a.rest = false)) (ev_cmp (ec_is (ev_ixT (ev_name 0) ev_int) ev_bl)) fun _ => ev_one (ev_cmp (ec_is (ev_ixT (ev_name 0) ev_int) ev_bl))).is ?_)
    cases a.rest <;> rfl
end
end PB

/-! _law_bare_right, _law_again_right -/
namespace PB
open PySem PySem.Spec PyProof.Rows L2
open PP (Call Spot Word)
section
variable {K : PySem.W.Frag} {m : Md} {C : Addr} {H H' H2 : Hp} {q : Addr} {σ : L2.St} {δ : Dl}
theorem Le.up (l : Le m H H') : Le (m.add q) H H' := ⟨fun a o h n => l.keep a o h n, fun p hp ll s h => l.bags p hp ll (fun a ha => s a (List.mem_cons_of_mem _ ha)) h⟩
theorem Sl.take (E : Sl K m C H σ δ) (hq : H q = none) (s : Same H H2) (hq2 : H2 q ≠ none) : Sl K (m.add q) C H2 σ δ := by
  refine ⟨E.len, fun i d h => ?_, fun p hp => ?_, fun a ha => ?_⟩
  · obtain ⟨v, h1, h2⟩ := E.at_ i d h
    exact ⟨v, h1, (h2.grow hq).le (.of_same s)⟩
  · exact ((E.bag p hp).grow hq).same s
  · rcases List.mem_cons.mp ha with rfl | ha
    · exact hq2
    · cases e : H a with
      | none => exact absurd e (E.more a ha)
      | some o =>
        rw [s a o e]
        exact fun z => nomatch z
abbrev m0 : Md := ⟨none, []⟩
theorem m0_none {a : Addr} : ¬ m0.mut a := fun z => by rcases z with z | z <;> cases z
/-- all is kept -/
theorem same_of (l : Le m H H') (h : m.bag = none) : Same H H' := fun a o e => l.keep a o e fun z => by rw [h] at z; cases z
end
mutual
theorem Rp.quiet {K : PySem.W.Frag} {m : Md} {C : Addr} {H : Hp} : ∀ {d : D} {v : V}, pyOk d = true → Rp K m C H d v → Rp K m0 C H d v
  | .non, _, _, h => h
  | .bl _, _, _, h => h
  | .int _, _, _, h => h
  | .str _, _, _, h => h
  | .tup ds, _, k, h => by
    obtain ⟨a, xs, e, h1, h2⟩ := h
    exact ⟨a, xs, e, h1, RpAll.quiet (by rwa [pyOk] at k) h2⟩
  | .lst ds, _, k, h => by
    obtain ⟨a, xs, e, h1, h3, h2⟩ := h
    exact ⟨a, xs, e, h1, m0_none, RpAll.quiet (by rwa [pyOk] at k) h2⟩
  | .scr _ _, _, k, _ => by rw [pyOk] at k; cases k
  | .bag, _, k, _ => by rw [pyOk] at k; cases k
  | .own _, _, k, _ => by rw [pyOk] at k; cases k
theorem RpAll.quiet {K : PySem.W.Frag} {m : Md} {C : Addr} {H : Hp} : ∀ {ds : List D} {xs : List V}, pyOks ds = true → RpAll K m C H ds xs → RpAll K m0 C H ds xs
  | [], _, _, h => h
  | d :: ds, _, k, h => by
    obtain ⟨v, vs, e, h1, h2⟩ := h
    rw [pyOks, Bool.and_eq_true] at k
    exact ⟨v, vs, e, Rp.quiet k.1 h1, RpAll.quiet k.2 h2⟩
end
theorem cD_py (c : Call) : pyOk (cD c) = true := by
  unfold cD
  rw [pyOk]
  cases c <;> rfl
theorem cDs_py : ∀ cs : List Call, pyOks (cs.map cD) = true
  | [] => rfl
  | c :: cs => by rw [List.map_cons, pyOks, cD_py, cDs_py cs]; rfl
theorem scD_quiet {K : PySem.W.Frag} {m : Md} {C : Addr} {H : Hp} {fs : Int} {cs : List Call} {v : V} (h : Rp K m C H (scD fs cs) v) : Rp K m0 C H (scD fs cs) v := by
  obtain ⟨p, dx, st, xs, e, h1, h2, h3⟩ := h
  exact ⟨p, dx, st, xs, e, h1, h2, h3.quiet (cDs_py cs)⟩
theorem clDs_fine (cl : List PP.Claim) : Fine 3 (.lst (cl.map clD)) := fine_lst fun d hd => by
  obtain ⟨c, _, rfl⟩ := List.mem_map.mp hd
  exact fine_clD c
section
variable {P : Program} {w : World} {K : PySem.W.Frag} {mg : Str → Option Value} {base : Heap} {C : Addr}
def F_bare : List D → D → Prop := fun ds d => ∃ fs : Int, ds = [.bag, scD fs []] ∧ (fs = 2 ∨ fs = 3) ∧ d = .bl true
theorem sc_bare : FnScope ["_law_bag_here", "_law_bare", "_law_claim_here"] ["_law_bag_here", "_law_bare"] (defScope (topS 62)) := ⟨rfl, rfl, rfl, by decide +kernel, rfl, by decide +kernel, by decide +kernel⟩
theorem gx_bare (T : Txt K w mg C) : Gx P w K mg base "_law_bare_right" 11 (spX K C 2 (det F_bare)) :=
  gx_mk (k := 10) T.bare_right sc_bare rfl fun f cdv A outer s H E hr hg m ds R hn ⟨d, ⟨fs, hd, hfs, e⟩, hR⟩ => by
    subst hR e hd
    refine rt_consP (nx_setP 2 (ec_fP (fx_lclaim T) hr (ea_cons (ev_name 0) (ea_cons (ep_f (px_files T) hr T.cl (ev_name 1) ⟨fs, _, rfl, rfl⟩) (ea_cons (ev_lst ea_nil) ea_nil))) ⟨fs, [], rfl, hfs, ⟨fun c hc => (by cases hc), by simp, by decide⟩, rfl⟩) sc_bare.nd) ?_
    rintro δ' ⟨d, ⟨c, rfl, hc⟩, rfl⟩
    have hok : ClOk fs [] { c with k := 10 ^ 39 + c.k } := ⟨hfs, fun c hc => (by cases hc), by simp, by decide, hc.spots, by
      show (((10 ^ 39 + c.k : Int).natAbs : Nat) : Int) * 0 ≤ 90
      omega⟩
    have hsl := spotL_len c
    refine rt_cons (nx_set 2 (d := clD { c with k := 10 ^ 39 + c.k }) (Ev.is (ev_cat (ev_tup (ea_cons (ev_ixT (ev_name 2) ev_int (cl0 c)) (ea_cons (ev_add (ev_pow ev_int ev_int ⟨by decide, by decide, by decide⟩) (ev_ixT (ev_name 2) ev_int (cl1 c))) ea_nil))) (ev_slT (ev_name 2) (eo_some ev_int) eo_none (spots_cut c)) (by rw [spots_eq, List.length_map]; simp; omega)) rfl) sc_bare.nd) ?_
    have hall : ∀ d ∈ [({ c with k := 10 ^ 39 + c.k } : PP.Claim)], ClOk fs [] d := fun d hd => by rw [List.mem_singleton.mp hd]; exact hok
    refine rt_ret (ec_g (gx_alike T) hg hr (ea_cons (en_f (fx_answer_all T) hr (ea_cons (ev_name 1) (ea_cons (ev_lst (ea_cons (ev_name 2) ea_nil)) ea_nil)) ⟨fs, [], [_], rfl, by simp, hall, by simp, rfl⟩).ev (ea_cons (en_f (fx_answer T) hr (ea_cons (ev_name 1) (ea_cons (ev_name 2) ea_nil)) ⟨fs, [], _, rfl, hok, rfl⟩).ev ea_nil)) ⟨_, ⟨_, rfl, same_tD (aOf_ok hall), rfl⟩, rfl⟩)
end
end PB

/-! _law_again_right -/
namespace PB
open PySem PySem.Spec PyProof.Rows L2
open PP (Call Spot Word)
theorem EvN.go {X : Cx} {m : Md} {C : Addr} {δ : Dl} {e : Expr} {a : PP.Ans} {σ : L2.St} {H : Hp} {Q : VK} (h : EvN X m C δ e a) (E : Sl X.K m C H σ δ) (q : ∀ p H2, Le m H H2 → Told H H2 p a → Q (.ref p) H2) : wE X e σ H Q := h σ H E Q q
section
variable {P : Program} {w : World} {K : PySem.W.Frag} {mg : Str → Option Value} {base : Heap} {C : Addr}
/-- an answer at p, its list at q; the rule and the claims apart from that list -/
structure AtAns (K : PySem.W.Frag) (C : Addr) (H : Hp) (fs : Int) (cs : List Call) (cl : List PP.Claim) (a : PP.Ans) (v1 v2 : V) (p q : Addr) : Prop where
  rule : Rp K (m0.add q) C H (scD fs cs) v1
  given : Rp K (m0.add q) C H (.lst (cl.map clD)) v2
  told : H p = some (.tup [.ref q, .int a.first, .bl a.rest])
  list : H q = some (.lst (a.some_.map V.int))
/-- what was there is there, but lists at q -/
def Rest (q : Addr) (H H' : Hp) : Prop := (∀ b o, H b = some o → (b = q → ¬ isL o) → H' b = some o) ∧ ∀ b, H b ≠ none → H' b ≠ none
theorem Rest.refl {q : Addr} {H : Hp} : Rest q H H := ⟨fun _ _ h _ => h, fun _ h => h⟩
theorem Rest.same {q : Addr} {H H1 H2 : Hp} (r : Rest q H H1) (s : Same H1 H2) : Rest q H H2 := ⟨fun b o h n => s b o (r.1 b o h n), fun b h => by
  have := r.2 b h
  cases e : H1 b with
  | none => exact absurd e this
  | some o =>
    rw [s b o e]
    exact fun z => nomatch z⟩
theorem Rest.same0 {q : Addr} {H H1 H2 : Hp} (s : Same H H1) (r : Rest q H1 H2) : Rest q H H2 := ⟨fun b o h n => r.1 b o (s b o h) n, fun b h => by
  cases e : H b with
  | none => exact absurd e h
  | some o => exact r.2 b (by rw [s b o e]; exact fun z => nomatch z)⟩
def spAgain (K : PySem.W.Frag) (C : Addr) : Sp := fun vs H Q _ => ∃ (fs : Int) (cs : List Call) (cl : List PP.Claim) (v1 v2 : V) (p q : Addr) (k : Int), vs = [v1, v2, .ref p, .int k] ∧ 0 ≤ k ∧ k ≤ 10 ∧ (∀ c ∈ cl, ClOk fs cs c) ∧ cs.length ≤ 1000 ∧ cl.length ≤ 1000 ∧
  AtAns K C H fs cs cl (aOf fs cs cl) v1 v2 p q ∧ ∀ H', Rest q H H' → Q (.bl true) H'
abbrev nAg : List Str := ["_law_rule", "_law_given", "_law_told", "_law_many", "_law_shown", "_law_again"]
theorem sc_again : FnScope nAg ["_law_rule", "_law_given", "_law_told", "_law_many"] (defScope (topS 61)) := ⟨rfl, rfl, rfl, by decide +kernel, rfl, by decide +kernel, by decide +kernel⟩
theorem gx_again (T : Txt K w mg C) : Gx P w K mg base "_law_again_right" 11 (spAgain K C) := by
  obtain ⟨f, fd, F, hmg, hb⟩ := T.again_right.ex
  refine ⟨f, fd, _, fnG_mk (k := 10) F sc_again (fun A s vs H Q E h => ?_) (fun cdv A outer s H0 vs Q E hr h => ?_), hmg, F.kp, hb⟩
  · obtain ⟨_, fs, cs, cl, v1, v2, p, q, k, rfl, _⟩ := h
    rfl
  obtain ⟨hg, fs, cs, cl, v1, v2, p, q, k, rfl, k0, k1, ok, hcs, hcl, at0, done⟩ := h
  have okA := aOf_ok ok
  generalize ha : aOf fs cs cl = a at at0 okA
  let X := bodyCx P w K mg base nAg "_law_again_right" (topS 61) f cdv A outer s H0 E
  -- the slots as data, the answer shown
  have tell : ∀ {m : Md} {H : Hp} {p q : Addr}, H p = some (.tup [.ref q, .int a.first, .bl a.rest]) → H q = some (.lst (a.some_.map V.int)) → ¬ m.mut q → Rp K m C H (tD a) (.ref p) := fun h1 h2 h3 => ⟨_, _, rfl, SqT.of h1, _, _, rfl, ⟨_, _, rfl, h2, h3, .ints⟩, _, _, rfl, rfl, _, _, rfl, rfl, rfl⟩
  have E0 : Sl K m0 C H0 (L2.start nAg [v1, v2, .ref p, .int k]) (dl0 nAg [scD fs cs, .lst (cl.map clD), tD a, .int k]) :=
    start_sl (fun p h => by cases h) (fun a h => by cases h) ⟨_, _, rfl, at0.rule.shrink, _, _, rfl, at0.given.shrink, _, _, rfl, tell at0.told at0.list m0_none, _, _, rfl, rfl, rfl⟩
  refine ws_cons (ws_set (X := X) 4 (ev_repr (X := X) (m := m0) (C := C) hg hr T.b.repr (ev_name 2) rfl ((fine_tD a).ok) (shw_tD okA)) E0 sc_again.nd fun v H1 l1 r1 => ?_)
  cases (show v = .str _ from r1)
  have s1 : Same H0 H1 := same_of l1 rfl
  have at1 : AtAns K C H1 fs cs cl a v1 v2 p q := ⟨at0.rule.le (.of_same s1), at0.given.le (.of_same s1), s1 _ _ at0.told, s1 _ _ at0.list⟩
  have E1 : Sl K (m0.add q) C H1 ((L2.start nAg [v1, v2, .ref p, .int k]).set 4 (some (.str (toPy (tD a)).shown))) [none, none, none, some (.int k), none, none] := by
    refine ⟨rfl, fun i d h => ?_, fun p h => (by cases h), fun b h => ?_⟩
    · rcases i with _ | _ | _ | _ | _ | _ | i <;> cases h <;> exact ⟨_, rfl, rfl⟩
    · rw [List.mem_singleton.mp h, at1.list]
      exact fun z => nomatch z
  refine ws_cons (ws_for (X := X) (m := m0.add q) (j := 5) (fun Ha i σ' H' => Rest q Ha H' ∧ ∃ (o : Option V) (p' q' : Addr), σ' = [some v1, some v2, some (.ref p'), some (.int k), some (.str (toPy (tD a)).shown), o] ∧ (q' = q ∨ Ha q' = none) ∧ AtAns K C H' fs cs cl a v1 v2 p' q') (ei_range1 T.b.range (ev_name 3) (by omega)) E1 PassesOwn.never rfl sc_again.nd ?_ ?_ ?_ ?_)
  · intro Ha la
    have sa : Same H1 Ha := same_of la rfl
    exact ⟨.refl, none, p, q, rfl, .inl rfl, at1.rule.le (.of_same sa), at1.given.le (.of_same sa), sa _ _ at1.told, sa _ _ at1.list⟩
  · rintro Ha i σ' H' ⟨r, _⟩ b o h n
    exact r.1 b o h fun e => n (.inr (by rw [e]; exact List.mem_cons_self))
  · rintro Ha i d x σ' H' la hd rd ⟨r, o, p', q', rfl, hq, at2⟩
    -- told[0].append(0)
    refine ws_cons (ofPS (ps_expr (pe_bm PySem.F.plainAttrs_list PySem.F.slot_list_append PySem.F.type_list_append mt_append (pe_ix ix_tup (pe_var (i := 2) rfl (Or.inl rfl)) pe_int (fun _ _ => rfl)) (pa_cons pe_int pa_nil)))
      ⟨_, rfl, p', _, 0, .ref q', rfl, rfl, SqT.of at2.told, rfl, .inl ⟨rfl, _, SqL.of at2.list⟩, q', _, .int 0, rfl, rfl, at2.list, by rw [List.length_map, sizeLine_eq]; have := okA.len; omega, ?_⟩)
    have lw : Lw (m0.add q') q' H' (upd H' q' (.lst (a.some_.map V.int ++ [.int 0]))) := .wr List.mem_cons_self at2.list
    have r2 : Rest q Ha (upd H' q' (.lst (a.some_.map V.int ++ [.int 0]))) := by
      refine ⟨fun b ob h n => ?_, fun b h => ?_⟩
      · have hb := r.1 b ob h n
        by_cases e : b = q'
        · exfalso
          subst e
          rw [at2.list] at hb
          cases hb
          rcases hq with e | e
          · exact n e True.intro
          · rw [e] at h
            cases h
        · rw [upd_ne e]
          exact hb
      · by_cases e : b = q'
        · rw [e, upd_same]
          exact fun z => nomatch z
        · rw [upd_ne e]
          exact r.2 b h
    have rule2 := at2.rule.lw List.mem_cons_self lw
    have given2 := at2.given.lw List.mem_cons_self lw
    generalize upd H' q' (.lst (a.some_.map V.int ++ [.int 0])) = H2 at r2 rule2 given2
    -- told = answer_all(rule, given)
    have E2 : Sl K m0 C H2 [some v1, some v2, some (.ref p'), some (.int k), some (.str (toPy (tD a)).shown), some x] [some (scD fs cs), some (.lst (cl.map clD)), none, none, none, none] := by
      refine ⟨rfl, fun i d h => ?_, fun p h => (by cases h), fun b h => (by cases h)⟩
      rcases i with _ | _ | _ | _ | _ | _ | i <;> cases h <;> first | exact ⟨_, rfl, rule2.shrink⟩ | exact ⟨_, rfl, given2.shrink⟩
    refine ws_cons (ofPS (ps_set (i := 2) sc_again.nd rfl (Or.inl rfl) peW) (EvN.go (X := X) (en_f (fx_answer_all T) hr (ea_cons (ev_name 0) (ea_cons (ev_name 1) ea_nil)) ⟨fs, cs, cl, rfl, hcs, ok, hcl, rfl⟩) E2 fun p3 H3 l3 told => ?_))
    rw [ha] at told
    obtain ⟨q3, n1, n2, t1, t2⟩ := told
    have s3 : Same H2 H3 := same_of l3 rfl
    have at3 : AtAns K C H3 fs cs cl a v1 v2 p3 q3 := ⟨((rule2.shrink : Rp K m0 C H2 _ _).grow n1).le (.of_same s3), ((given2.shrink : Rp K m0 C H2 _ _).grow n1).le (.of_same s3), t1, t2⟩
    -- if repr(told) != shown
    have E3 : Sl K m0 C H3 [some v1, some v2, some (.ref p3), some (.int k), some (.str (toPy (tD a)).shown), some x] [none, none, some (tD a), none, some (.str (toPy (tD a)).shown), none] := by
      refine ⟨rfl, fun i d h => ?_, fun p h => (by cases h), fun b h => (by cases h)⟩
      rcases i with _ | _ | _ | _ | _ | _ | i <;> cases h <;> first | exact ⟨_, rfl, tell t1 t2 m0_none⟩ | exact ⟨_, rfl, rfl⟩
    refine ws_cons (ws_ifF (X := X) (m := m0) (C := C) (et_cmp (ec_ne (ev_repr hg hr T.b.repr (ev_name 2) rfl ((fine_tD a).ok) (shw_tD okA)) (ev_name 4)) (by simp)) E3 fun H4 l4 => ws_nil ?_)
    have s4 : Same H3 H4 := same_of l4 rfl
    refine ⟨(r2.same s3).same s4, some x, p3, q3, rfl, .inr ?_, at3.rule.le (.of_same s4), at3.given.le (.of_same s4), s4 _ _ at3.told, s4 _ _ at3.list⟩
    cases e : Ha q3 with
    | none => rfl
    | some o => exact absurd n1 (r2.2 q3 (by rw [e]; exact fun z => nomatch z))
  · rintro Ha σ' H' la ⟨r, _⟩
    exact ws_cons (ofPS (ps_ret pe_bl) (done H' (Rest.same0 s1 (Rest.same0 (same_of la rfl) r))))
end
end PB

/-! _law_bag; rules for the law's own body -/
namespace PB
open PySem PySem.Spec PyProof.Rows L2
open PP (Call Spot Word)
/-- a comprehension just here -/
theorem lc_at {X : Cx} {m : Md} {C : Addr} {δ : Dl} {elt : Expr} {scope : Scope} {j : Nat} {ds : List D} {R : Nat → D → Prop} {wi : TI} {σ : L2.St} {H : Hp} (E : Sl X.K m C H σ δ) (hi : ∀ (Rr : It → Hp → Prop), (∀ J H1, Le m H H1 → Walks X.K m C J ds H1 → Rr J H1) → wi σ H Rr) (hlen : ds.length < 100000)
    (he : ∀ i d, ds[i]? = some d → BEv X m C scope (δ.set j (some d)) elt (R i)) {Q : VK} (q : ∀ es v H', (es.length = ds.length ∧ ∀ i d, es[i]? = some d → R i d) → Le m H H' → Rp X.K m C H' (.lst es) v → Q v H') : tLc wi (gName j) tYes (bE X scope elt) [j] σ H Q :=
  lcP_core (wi := fun σ' H' R => (σ' = σ ∧ H' = H) → wi σ' H' R) (fun σ' H' E' Rr k e => by
    obtain ⟨rfl, rfl⟩ := e
    exact hi Rr k) hlen he E q ⟨rfl, rfl⟩
theorem go_list {te : TE} {x y z : V} {σ : L2.St} {H : Hp} {Dn : Ends} (h : te σ H fun v H1 => 4 ≤ sizeLine ∧ ∀ p, H1 p = none → Dn.rt (.ref p) (upd H1 p (.lst [x, y, z, v]))) : tRet (tLst (tCons (tC x) (tCons (tC y) (tCons (tC z) (tCons te tNil))))) Dn σ H := h
section
variable {P : Program} {w : World} {K : PySem.W.Frag} {mg : Str → Option Value} {base : Heap} {C : Addr}
def spBag (K : PySem.W.Frag) : Sp := fun vs H Q _ => ∃ (a : Addr) (ns : List Int), vs = [.ref a] ∧ SqL K H a (ns.map V.int) ∧ ns.length ≤ 1000 ∧ ∀ p H', Same H H' → BagAt H' [] p → Q (.ref p) H'
theorem sc_bag : FnScope ["_law_script", "_law_cell"] ["_law_script"] (defScope (topS 48)) := ⟨rfl, rfl, rfl, by decide +kernel, rfl, by decide +kernel, by decide +kernel⟩
theorem nats_of : ∀ {es : List D}, (∀ d ∈ es, ∃ i : Int, d = .int i ∧ 0 ≤ i) → ∃ ns : List Int, es = ns.map D.int ∧ ∀ n ∈ ns, 0 ≤ n
  | [], _ => ⟨[], rfl, fun n h => by cases h⟩
  | d :: es, h => by
    obtain ⟨ns, rfl, h1⟩ := nats_of fun x hx => h x (List.mem_cons_of_mem _ hx)
    obtain ⟨i, rfl, h2⟩ := h d List.mem_cons_self
    exact ⟨i :: ns, rfl, fun n hn => (List.mem_cons.mp hn).elim (fun e => e ▸ h2) (h1 n)⟩
theorem ok_bag (T : Txt K w mg C) : ∃ f fd ps, FnOk P w K mg base CX0 1 f fd ps (spBag K) ∧ mg "_law_bag" = some (.ref f) ∧ PySem.W.keepIn K (.ref f) = true ∧ Binds K fd ps [] := by
  obtain ⟨f, fd, F, hmg, hb⟩ := T.bag.ex
  refine ⟨f, fd, _, F.ok sc_bag (fun vs H Q E h => ?_) (fun cdv A outer s H vs Q E hr h => ?_), hmg, F.kp, hb⟩
  · obtain ⟨a, ns, rfl, _⟩ := h
    rfl
  obtain ⟨a, ns, rfl, hS, hl, q⟩ := h
  let X := bodyCx P w K mg base ["_law_script", "_law_cell"] "_law_bag" (topS 48) f cdv A outer s H E
  refine ⟨_, pssW, ?_⟩
  have E0 : Sl K m0 C H (L2.start ["_law_script", "_law_cell"] [.ref a]) [none, none] := ⟨rfl, fun i d h => (by rcases i with _ | _ | i <;> cases h), fun p h => (by cases h), fun b h => (by cases h)⟩
  have hint : ∀ d ∈ cutD (ns.map D.int) none (some 63), ∃ i : Int, d = .int i := fun d hd => by
    obtain ⟨i, _, e⟩ := List.mem_map.mp (List.mem_of_mem_drop (List.mem_of_mem_take hd))
    exact ⟨i, e.symm⟩
  have hlen : (cutD (ns.map D.int) none (some 63)).length < 100000 := by
    unfold cutD
    rw [List.length_take, List.length_drop, List.length_map]
    omega
  refine ws_cons (X := X) (ofPS (ps_ret (pe_lst (pa_cons pe_int (pa_cons pe_int (pa_cons pe_int (pa_cons (pe_lc (own := [("_law_cell", 1)]) (te := bE X _ _) rfl sc_bag.nd (pi_list (pe_slice sl_list (pe_var (i := 0) rfl (Or.inl rfl)) po_none (po_some pe_int)))
    (blkOk_by (own := [("_law_cell", 1)]) (N := ["_law_script", "_law_cell"]) (sc := defScope (topS 48)) (by decide +kernel)) (fun _ _ _ _ _ => pg_name (i := 1) sc_bag.nd rfl (Or.inl rfl)) (fun _ _ _ _ _ => pts_nil) (fun s H Cc cl fp => ⟨fun pins s' σ' H' Q' I h => h s H Cc cl fp pins s' I⟩)) pa_nil)))))) ?_)
  refine go_list (lc_at (X := X) (m := m0) (C := C) (j := 1) (ds := cutD (ns.map D.int) none (some 63)) (R := fun _ d => ∃ i : Int, d = .int i ∧ 0 ≤ i) E0 (fun Rr k => ?_) hlen (fun i d hd p s' H0 Cc cl fp => ?_) (fun es v H' hes l r => ?_))
  · exact ⟨_, rfl, 63, rfl, a, ns.map V.int, rfl, hS, fun p np => ⟨p, rfl, ⟨_, SqL.of upd_same⟩, k _ _ (.new np) (walks_lst upd_same m0_none (cut_rp RpAll.ints))⟩⟩
  · obtain ⟨i, rfl⟩ := hint d (List.mem_of_getElem? hd)
    exact EvP.imp (ev_abs T.b.abs (ev_name 1)) fun z e => ⟨_, e, by omega⟩
  · obtain ⟨c, xs, rfl, hc, _, rr⟩ := r
    obtain ⟨ns', rfl, hnn⟩ := nats_of (es := es) fun d hd => by
      obtain ⟨i, hi⟩ := List.getElem?_of_mem hd
      exact hes.2 i d hi
    rw [rr.ints_eq] at hc
    have s1 : Same H H' := same_of l rfl
    refine ⟨by decide, fun p np => q p _ (fun b o e => same_new np b o (s1 b o e)) ?_⟩
    have ne : c ≠ p := ne_of_none hc np
    exact ⟨0, 1234567891, 0, c, ns', upd_same, ne, by simp, by simp, by rw [upd_ne ne]; exact hc, by decide, by decide, by decide, by decide, hnn⟩
end
end PB

/-! rules for the law's own body -/
namespace PB
open PySem PySem.Spec PyProof.Rows L2
open PP (Call Spot Word)
section
variable {K : PySem.W.Frag} {m m' : Md} {C : Addr} {H H' H2 : Hp} {q : Addr} {σ : L2.St} {δ δ' : Dl}
theorem Sl.grown (E : Sl K m C H σ δ) (hq : H q = none) (l : Le m H H2) (hq2 : H2 q ≠ none) : Sl K (m.add q) C H2 σ δ := by
  refine ⟨E.len, fun i d h => ?_, fun p hp => ?_, fun a ha => ?_⟩
  · obtain ⟨v, h1, h2⟩ := E.at_ i d h
    exact ⟨v, h1, (h2.grow hq).le l.up⟩
  · exact l.up.bag p hp ((E.bag p hp).grow hq)
  · rcases List.mem_cons.mp ha with rfl | ha
    · exact hq2
    · exact (E.le l).more a ha
theorem Sl.forget (E : Sl K m C H σ δ) (hl : δ'.length = δ.length) (h : ∀ (i : Nat) (d : D), δ'[i]? = some (some d) → δ[i]? = some (some d)) : Sl K m C H σ δ' := ⟨E.len.trans hl.symm, fun i d e => E.at_ i d (h i d e), E.bag, E.more⟩
theorem Sl.put (E : Sl K m C H σ δ) {i : Nat} {v : V} {d : D} (hv : σ[i]? = some (some v)) (r : Rp K m C H d v) : Sl K m C H σ (δ.set i (some d)) := by
  have h := E.set (i := i) r
  have e : σ.set i (some v) = σ := by
    obtain ⟨hi, e⟩ := List.getElem?_eq_some_iff.mp hv
    rw [← e, List.set_getElem_self]
  rwa [e] at h
mutual
theorem Rp.weak (hm : ∀ a, m'.mut a → m.mut a) : ∀ {d : D} {v : V}, pyOk d = true → Rp K m C H d v → Rp K m' C H d v
  | .non, _, _, h => h
  | .bl _, _, _, h => h
  | .int _, _, _, h => h
  | .str _, _, _, h => h
  | .tup ds, _, k, h => by
    obtain ⟨a, xs, e, h1, h2⟩ := h
    exact ⟨a, xs, e, h1, RpAll.weak hm (by rwa [pyOk] at k) h2⟩
  | .lst ds, _, k, h => by
    obtain ⟨a, xs, e, h1, h3, h2⟩ := h
    exact ⟨a, xs, e, h1, fun z => h3 (hm a z), RpAll.weak hm (by rwa [pyOk] at k) h2⟩
  | .scr _ _, _, k, _ => by rw [pyOk] at k; cases k
  | .bag, _, k, _ => by rw [pyOk] at k; cases k
  | .own _, _, k, _ => by rw [pyOk] at k; cases k
theorem RpAll.weak (hm : ∀ a, m'.mut a → m.mut a) : ∀ {ds : List D} {xs : List V}, pyOks ds = true → RpAll K m C H ds xs → RpAll K m' C H ds xs
  | [], _, _, h => h
  | d :: ds, _, k, h => by
    obtain ⟨v, vs, e, h1, h2⟩ := h
    rw [pyOks, Bool.and_eq_true] at k
    exact ⟨v, vs, e, Rp.weak hm k.1 h1, RpAll.weak hm k.2 h2⟩
end
theorem scD_weak (hm : ∀ a, m'.mut a → m.mut a) {fs : Int} {cs : List Call} {v : V} (h : Rp K m C H (scD fs cs) v) : Rp K m' C H (scD fs cs) v := by
  obtain ⟨p, dx, st, xs, e, h1, h2, h3⟩ := h
  exact ⟨p, dx, st, xs, e, h1, h2, h3.weak hm (cDs_py cs)⟩
theorem mut_m0 {m : Md} {q a : Addr} : (m0.add q).mut a → (m.add q).mut a := fun z => mut_add.mpr ((mut_add.mp z).imp (fun z => absurd z m0_none) id)
theorem Rest.lw (r : Rest q H H') : Lw (m.add q) q H H' := by
  refine ⟨fun a o h n => r.1 a o h fun e => n (.inr e), fun p hp l s hb => ?_⟩
  obtain ⟨x, g, i, c, ns, h1, h2, h3, h4, h5, h6⟩ := hb
  have hq : q ∈ l := s q List.mem_cons_self
  exact ⟨x, g, i, c, ns, r.1 _ _ h1 fun e => absurd hq (e ▸ h4), h2, h3, h4, r.1 _ _ h5 fun e => absurd hq (e ▸ h3), h6⟩
end
/-- behind a map -/
theorem perm_pre {α β : Type} (f : α → β) {xs ys : List β} (h : xs.Perm ys) : ∀ l : List α, ys = l.map f → ∃ l' : List α, l'.Perm l ∧ xs = l'.map f := by
  induction h with
  | nil =>
    intro l e
    cases l with
    | nil => exact ⟨[], .refl _, rfl⟩
    | cons a l => cases e
  | cons x h ih =>
    intro l e
    cases l with
    | nil => cases e
    | cons a l =>
      rw [List.map_cons] at e
      injection e with e1 e2
      obtain ⟨l', h1, h2⟩ := ih l e2
      exact ⟨a :: l', h1.cons a, by rw [List.map_cons, e1, h2]⟩
  | swap x y zs =>
    intro l e
    match l, e with
    | [], e => cases e
    | [a], e => rw [List.map_cons, List.map_nil] at e; cases e
    | a :: b :: l, e =>
      rw [List.map_cons, List.map_cons] at e
      injection e with e1 e2
      injection e2 with e2 e3
      exact ⟨b :: a :: l, .swap _ _ _, by rw [List.map_cons, List.map_cons, e1, e2, e3]⟩
  | trans h1 h2 ih1 ih2 =>
    intro l e
    obtain ⟨l2, p2, e2⟩ := ih2 l e
    obtain ⟨l1, p1, e1⟩ := ih1 l2 e2
    exact ⟨l1, p1.trans p2, e1⟩
theorem cut_take (ds : List D) {i : Int} (h : 0 ≤ i) : cutD ds none (some i) = ds.take i.toNat := by
  have h1 : HT.sIx ds.length 0 none = 0 := rfl
  have h2 : HT.sIx ds.length ds.length (some i) = min i.toNat ds.length := by
    simp only [HT.sIx]
    rw [if_neg (by omega)]
    try omega
  unfold cutD
  rw [h1, h2, List.drop_zero, Nat.sub_zero]
  by_cases hl : i.toNat ≤ ds.length
  · rw [Nat.min_eq_left hl]
  · rw [Nat.min_eq_right (by omega), List.take_length, List.take_of_length_le (by omega)]
section
variable {X : Cx} {m : Md} {C : Addr} {a : Addr} {δ : Dl} {es : List D} {e b c iter : Expr} {args body : List Stmt} {eas : List Expr} {pos px p1 p2 p3 : Pos} {s j k n : Nat} {v nm : Str} {σ : L2.St} {H : Hp} {Dn : Ends} {A : PP.Ans}
/-- for x in range(n): the heap is free -/
theorem ws_forR {N : Nat} (Pv : Nat → L2.St → Hp → Prop) (hm : X.mg "range" = none) (he : Ev X m C δ e (.int (N : Int))) (hn : N < 1000000) (E : Sl X.K m C H σ δ) (hp : PassesOwn (model X.prog X.w) X.A X.env X.xe) (hc : X.calm = true) (hN : X.N.Nodup) (h0 : ∀ H1, Le m H H1 → Pv 0 σ H1)
    (hs : ∀ i σ' H', i < N → Pv i σ' H' → wSs X body { Dn with nx := Pv (i + 1), ct := Pv (i + 1), bk := Dn.nx } (σ'.set j (some (.int (i : Int)))) H') (hd : ∀ σ' H', Pv N σ' H' → Dn.nx σ' H')
    (hj : X.N[j]? = some v := by rfl) (hx : Loc X.env.scope v := by first | exact Or.inl rfl | exact Or.inr rfl) (hf : X.fn v = true ∨ X.env.scope.names.lookup v = some .local := by first | exact .inl rfl | exact .inr rfl) (hg : Gl X "range" := by rfl) (hst : starEach [e] X.env = [(false, eval e X.env)] := by rfl) (hst2 : starEach [e] X.env = (false, eval e X.env) :: starEach [] X.env := by rfl)
    (hset : ∀ x, foldedSetIterable (.Call (.Name "range" p1) [e] [] p2) X.env x = pure x := by intro _; rfl) : wS X (.For (.Name v px) (.Call (.Name "range" p1) [e] [] p2) body [] pos) Dn σ H := by
  refine ofPS (ps_for hp hc (pi_range1 hg hm paW hst) (pg_name hN hj hx hf) pssW hset) ((ea_cons he ea_nil hst2).go E fun vs H1 l1 r1 => ?_)
  obtain ⟨u, e1, r⟩ := one_rp r1
  rw [show u = V.int N from r] at e1
  refine ⟨N, e1, by omega, by omega, fun i k σ' H' => k = N - i ∧ i ≤ N ∧ Pv i σ' H', ⟨N, by simp, Nat.zero_le _, h0 H1 l1⟩, ?_⟩
  rintro i k σ' H' ⟨rfl, hi, p⟩
  by_cases hlt : i < N
  · refine .inr ⟨(show i < (N : Int).toNat by omega), Pv (i + 1), fun σ2 H2 p2 => ⟨N - (i + 1), by omega, rfl, hlt, p2⟩, fun x H2 y => ?_⟩
    obtain ⟨e1, e2⟩ := y
    subst e1
    have e3 : x = .int (i : Int) := by rw [e2, Int.zero_add]
    subst e3
    exact hs i σ' _ hlt p
  · have e : i = N := by omega
    subst e
    exact .inl ⟨(show (i : Int).toNat ≤ i by omega), hd σ' H' p⟩
/-- list(xs), xs == [], of the own list -/
theorem el_list (s : Nat) (hm : X.mg "list" = none) (hδ : δ[s]? = some (some (.own a)) := by rfl) (hN : X.N[s]? = some v := by rfl) (hv : Vis X.env.scope v := by first | exact Or.inl rfl | exact Or.inr (Or.inl rfl) | exact Or.inr (Or.inr rfl))
    (hd : (v == ("__debug__" : Str)) = false := by decide) (hcd : (v == ("__classdict__" : Str)) = false := by decide) (hg : Gl X "list" := by rfl) (hs : starEach [.Name v p1] X.env = (false, eval (.Name v p1) X.env) :: starEach [] X.env := by rfl) (hpl : (backTo pos (starEach [] X.env)).any (·.1) = false := by rfl) :
    El X m C a δ es (.Call (.Name "list" p2) [.Name v p1] [] pos) (fun d => d = .lst es) := fun σ H E ⟨acc, h1, r⟩ Q q =>
  ofPE (pe_callTy call_list_of hg hm (by decide +kernel) (pa_cons (pe_var hN hv hd hcd) pa_nil hs) (by decide) (by decide) hs hpl) ⟨_, own_at E hδ, a, acc, rfl, .inl (SqL.of h1), fun l hl => q (.lst es) _ _ rfl (.new hl) ⟨l, acc, rfl, upd_same, E.new hl, r.le (.new hl)⟩⟩
theorem elt_nil (s : Nat) (hr : Room j X.A) (hf : ∀ d ∈ es, Fine 5 d) (hδ : δ[s]? = some (some (.own a)) := by rfl) (hN : X.N[s]? = some v := by rfl) (hv : Vis X.env.scope v := by first | exact Or.inl rfl | exact Or.inr (Or.inl rfl) | exact Or.inr (Or.inr rfl))
    (hd : (v == ("__debug__" : Str)) = false := by decide) (hcd : (v == ("__classdict__" : Str)) = false := by decide) (h1 : behindInMarks .Eq (.List [] p2) = false := by first | exact nobehind _ (by decide) (by decide) | rfl) : ElT X m C a δ es (.Compare (.Name v p1) [.Eq] [.List [] p2] pos) es.isEmpty := fun σ H E ct Q q =>
  ofPT (pt_cmp (pcW (X := X)) h1) (fun pins s I => bin (R := fun u w H2 => ∃ xs, u = .ref a ∧ Rp X.K m C H2 (.lst []) w ∧ H2 a = some (.lst xs) ∧ RpAll X.K m C H2 es xs ∧ Le m H H2) (pe_var hN hv hd hcd) (pe_lst pa_nil) I ⟨_, own_at E hδ, by decide, fun p np => by
      obtain ⟨acc, g1, g2⟩ := ct
      exact ⟨acc, rfl, ⟨p, [], rfl, upd_same, E.new np, rfl⟩, same_new np _ _ g1, g2.le (.new np), .new np⟩⟩
    fun u w s2 x y H2 I2 rx ry ⟨acc, e1, r2, g1, g2, l⟩ => by
      have ff := (fine_lst hf).eq
      have fn := fine_nil.eq
      have ok := (fine_lst hf).ok
      rw [pyOk] at ok
      unfold eqOk at ff fn
      rw [Bool.and_eq_true] at ff fn
      subst e1
      have dp : Dp X.K H2 (.ref a) (toPy (.lst es)) := by
        rw [toPy]
        exact .lst (SqL.of g1) (g2.dp ok)
      exact op_eqD hr.units pins s2 σ H2 _ y u w _ I2 rx ry ⟨_, _, dp, r2.dp fn.1, ff.2, fn.2, es.isEmpty, by rw [eqv_nil], q H2 l⟩)
theorem elt_and {t u : Bool} (ha : a ∈ m.more) (h : EvT X m C δ e t) (h2 : t = true → ElT X m C a δ es b u) : ElT X m C a δ es (.BoolOp .And [e, b] pos) (t && u) := fun σ H E ct Q q =>
  ofPT (PW.pt pwW) (ofPW (pw_and ptW pwW) (h σ H E _ fun H1 l1 => by
    cases t with
    | true => exact iteT (ofPW (pw_and1 ptW) (h2 rfl σ H1 (E.le l1) (ct.le E ha l1) _ fun H2 l2 => q H2 (l1.trans l2)))
    | false => exact iteF (q H1 l1)))
/-- an answer, the arguments out of a set, the answer one -/
theorem en_fR {Pr : List D → PP.Ans → Prop} {L : List D → Prop} (G : Nx X.prog X.w X.K X.mg X.base C nm k n Pr) (hr : Room j X.A) (ha : EvA X m C δ (e :: eas) L) (hp : ∀ ds, L ds → ds.length = n ∧ Pr ds A) (hk : k ≤ j := by decide)
    (hg : Gl X nm := by rfl) (hdb : (nm == ("__debug__" : Str)) = false := by decide) (he : starEach (e :: eas) X.env = (false, eval e X.env) :: starEach eas X.env := by rfl) (hpl : (backTo pos (starEach eas X.env)).any (·.1) = false := by rfl) :
    EvN X m C δ (.Call (.Name nm p1) (e :: eas) [] pos) A := by
  obtain ⟨f, fd, ps, G, hm, hkp, hb⟩ := G.ex
  exact fun σ H E Q q => ofPE (pe_call G (hr.mono hk) hg hm hkp hb .nil pass0 paW hdb he hpl) (ha σ H E _ fun ds vs H1 hL l1 r1 => ⟨m, ds, A, (hp ds hL).1, (E.le l1).bag, (E.le l1).more, by rw [List.append_nil]; exact r1, (hp ds hL).2, fun p H' l t => q p H' (l1.trans l) (t.back E l1)⟩)
end
end PB

/-! the law: a turn up to the claims -/
namespace PB
open PySem PySem.Spec PyProof.Rows L2
open PP (Call Spot Word)
section
variable {X : Cx} {m : Md} {C : Addr} {a : Addr} {δ : Dl} {es : List D} {st : Stmt} {e : Expr} {σ : L2.St} {H : Hp} {Dn : Ends} {pos p1 : Pos} {n : Str} {R : D → Prop}
theorem NxP.go {Δ : Dl → Prop} (h : NxP X m C δ st Δ) (E : Sl X.K m C H σ δ) (q : ∀ δ' σ' H', Δ δ' → Le m H H' → Sl X.K m C H' σ' δ' → Dn.nx σ' H') : wS X st Dn σ H := h σ H E Dn q
theorem Nl.go {Δ : Dl → List D → Prop} (h : Nl X m C a δ es st Δ) (E : Sl X.K m C H σ δ) (c : Cont X.K m C H a es) (q : ∀ δ' es' σ' H', Δ δ' es' → Lw m a H H' → Sl X.K m C H' σ' δ' → Cont X.K m C H' a es' → Dn.nx σ' H') : wS X st Dn σ H := h σ H E c Dn q
theorem nl_setL (i : Nat) (h : El X m C a δ es e R) (ha : a ∈ m.more) (hN : X.N.Nodup) (hi : X.N[i]? = some n := by rfl) (hx : Loc X.env.scope n := by first | exact Or.inl rfl | exact Or.inr rfl) (hs : swapsWith e (some (.Name n p1)) pos.line X.env = pure false := by rfl)
    (hf : X.fn n = true ∨ X.env.scope.names.lookup n = some .local := by first | exact .inl rfl | exact .inr rfl) : Nl X m C a δ es (.Assign [.Name n p1] e pos) (fun δ' es' => (∃ d, R d ∧ δ' = δ.set i (some d)) ∧ es' = es) := fun σ H E c Dn q =>
  ofPS (ps_set hN hi hx peW hs hf) (h σ H E c _ fun d v H1 hd l1 r1 => q _ _ _ H1 ⟨⟨d, hd, rfl⟩, rfl⟩ (.of_le l1) ((E.le l1).set r1) (c.le E ha l1))
end
abbrev nLaw : List Str := ["_law_script", "_law_bag_here", "_law_turn", "_law_files", "_law_calls_here", "_law_rule", "_law_k", "_law_given", "_law_some", "_law_claim_here", "_law_told", "_law_single", "_law_most", "_law_rows"]
theorem sc_law : FnScope nLaw ["_law_script"] (defScope (topS 64)) := ⟨rfl, rfl, rfl, by decide +kernel, rfl, by decide +kernel, by decide +kernel⟩
def forBody : Stmt → List Stmt
  | .For _ _ b _ _ => b
  | _ => []
/-- a turn of the law -/
def turnB : List Stmt := forBody ((defBody (topS 64)).getD 1 (.Pass ⟨0, 0, 0, 0⟩))
/-- the slots behind the claims -/
abbrev dlA (i fs : Int) (cs : List Call) (cl : List PP.Claim) : Dl := [none, some .bag, some (.int i), some (.int fs), some (.lst (cs.map cD)), some (scD fs cs), none, some (.lst (cl.map clD)), some (.lst (cl.map clD)), none, none, none, none, none]
section
variable {P : Program} {w : World} {K : PySem.W.Frag} {mg : Str → Option Value} {base : Heap} {C : Addr}
abbrev lawX (P : Program) (w : World) (K : PySem.W.Frag) (mg : Str → Option Value) (base : Heap) (f : Addr) (cdv : Value) (A : Around) (outer : List Env) (s : Shared) (H : Hp) (E : XK) : Cx := bodyCx P w K mg base nLaw "law" (topS 64) f cdv A outer s H E
theorem clamp {k mo : Int} (h : 0 ≤ mo) : ((if (if k < mo then k else mo) > -mo then (if k < mo then k else mo) else -mo).natAbs : Int) ≤ (k.natAbs : Int) := by
  split <;> split <;> omega
theorem turnA (T : Txt K w mg C) {f : Addr} {cdv : Value} {A : Around} {outer : List Env} {s : Shared} {H0 : Hp} {E0 : XK} (hr : Room 11 (A.deeper (envOfC "law" (defScope (topS 64)) s.heap.objs.size f cdv))) {m : Md} {σ : L2.St} {H : Hp} {o : Option D} {i : Nat} (hi : i < 2) {Dn : Ends}
    (E : Sl K m C H σ [none, some .bag, some (.int (i : Int)), o, none, none, none, none, none, none, none, none, none, none])
    (q : ∀ (fs : Int) (cs : List Call) (cl : List PP.Claim) (σ' : L2.St) (H' : Hp), (fs = 2 ∨ fs = 3) → CsOk fs cs → (∀ c ∈ cl, ClOk fs cs c) → cl.length ≤ 10 → Sl K m C H' σ' (dlA i fs cs cl) → wSs (lawX P w K mg base f cdv A outer s H0 E0) (turnB.drop 7) Dn σ' H') :
    wSs (lawX P w K mg base f cdv A outer s H0 E0) turnB Dn σ H := by
  refine ws_cons (NxP.go (X := lawX P w K mg base f cdv A outer s H0 E0) (nx_setP 3 (ev_addP (Rr := fun fs => fs = 2 ∨ fs = 3) (ev_int.i (A := fun i => i = 2) rfl) (ec_fP (fx_take T) hr (ea_cons (ev_name 1) (ea_cons ev_int ea_nil)) ⟨2, rfl, by decide, by decide, rfl⟩) fun i j e hj => by subst e; omega) sc_law.nd) E ?_)
  rintro δ' σ1 H1 ⟨d, ⟨fs, rfl, hfs⟩, rfl⟩ l1 E1
  refine ws_cons (NxP.go (X := lawX P w K mg base f cdv A outer s H0 E0) (nx_setP 4 (ec_fP (fx_lcalls T) hr (ea_cons (ev_name 1) (ea_cons (ev_name 3) (ea_cons ev_int (ea_cons ev_bl ea_nil)))) ⟨fs, rfl, hfs, rfl⟩) sc_law.nd) E1 ?_)
  rintro δ' σ2 H2 ⟨d, ⟨cs0, rfl, hcs0⟩, rfl⟩ l2 E2
  refine ws_cons (X := lawX P w K mg base f cdv A outer s H0 E0) (ofPS (ps_par (i := 8) (j := 9) rfl sc_law.nd rfl rfl (by decide) rfl rfl (pa_cons (pe_lst pa_nil) (pa_cons pe_non pa_nil)) rfl rfl) ⟨by decide, fun a na => ⟨_, _, rfl, ?_⟩⟩)
  obtain ⟨E3, c3⟩ := own_new (s := 8) E2 na
  have E3 := E3.set (i := 9) (v := .non) (d := .non) rfl
  have nm : ¬ m.mut a := E2.new na
  -- if turn == 1 and take(bag, 2) == 0
  refine ws_cons (Nl.go (X := lawX P w K mg base f cdv A outer s H0 E0) (m := m.add a) (Δ := fun δ' es' => ∃ (cs : List Call) (cl : List PP.Claim) (o9 : Option D), CsOk fs cs ∧ (∀ c ∈ cl, ClOk fs cs c) ∧ cl.length ≤ 1 ∧ es' = cl.map clD ∧
      δ' = [none, some .bag, some (.int i), some (.int fs), some (.lst (cs.map cD)), none, none, none, some (.own a), o9, none, none, none, none])
    (nl_if (etp_ww (ewp_and (T' := fun _ => True) (et_cmp (ec_eq (ev_name 2) ev_int)) (fun _ => ewp_and1 (et_cmpP (ec_eqP (T := fun _ => True) (ec_fP (fx_take T) hr (ea_cons (ev_name 1) (ea_cons ev_int ea_nil)) ⟨2, rfl, by decide, by decide, rfl⟩) (ev_int.i (A := fun _ => True) True.intro) fun _ _ _ _ => True.intro))) fun _ => True.intro)) more_add (fun _ => ?_) fun _ => ?_) E3 c3 ?_)
  · refine nls_cons (nl_p (nx_unP 4 9 (L := fun x y => ∃ (cs : List Call) (c : PP.Claim), x = .lst (cs.map cD) ∧ y = clD c ∧ CsOk fs cs ∧ ClOk fs cs c) (EvP.imp (ec_fP (fx_towards T) hr (ea_cons (ev_name 1) (ea_cons (ev_name 3) (ea_cons ev_int ea_nil))) ⟨fs, rfl, hfs, rfl⟩) fun z ⟨cs, c, e, h1, h2⟩ => ⟨_, _, e, cs, c, rfl, rfl, h1, h2⟩) rfl sc_law.nd) more_add) ?_
    rintro δ' es' ⟨⟨x, y, ⟨cs, c, rfl, rfl, h1, h2⟩, rfl⟩, rfl⟩
    refine nls_one (nl_imp (nl_push 8 ((ev_name 9).l) more_add (by simp)) ?_)
    rintro δ' es' ⟨rfl, d, rfl, rfl⟩
    exact ⟨cs, [c], _, h1, fun d hd => by rw [List.mem_singleton.mp hd]; exact h2, by simp, rfl, rfl⟩
  · exact nls_nil ⟨cs0, [], some .non, hcs0, (fun c hc => (by cases hc)), by decide, rfl, rfl⟩
  rintro δ' es' σ4 H4 ⟨cs, clA, o9, hcs, hclA, hlA, rfl, rfl⟩ l4 E4 c4
  -- rule = Script(files, calls)
  obtain ⟨fi, fdi, Gi, Mi, bi⟩ := ok_init (P := P) (base := base) T
  refine ws_cons (Nl.go (X := lawX P w K mg base f cdv A outer s H0 E0) (m := m.add a) (nl_s (nx_set 5 (ev_make Gi Mi bi (hr.mono (by decide)) T.mgC (ea_cons (ev_name 3) (ea_cons (ev_name 4) ea_nil)) hfs hcs.ok (by have := hcs.few; omega)) sc_law.nd) more_add) E4 c4 ?_)
  rintro δ' es' σ5 H5 ⟨rfl, rfl⟩ l5 E5 c5
  -- for k in range(..)
  refine ws_cons (Nl.go (X := lawX P w K mg base f cdv A outer s H0 E0) (m := m.add a) (nl_for (j := 6) (fun n δ' es' => ∃ (cl : List PP.Claim) (o6 o9 o12 : Option D), (∀ c ∈ cl, ClOk fs cs c) ∧ cl.length ≤ 1 + n ∧ es' = cl.map clD ∧
      δ' = [none, some .bag, some (.int i), some (.int fs), some (.lst (cs.map cD)), some (scD fs cs), o6, none, some (.own a), o9, none, none, o12, none])
    (ei_rangeP T.b.range (ec_fP (fx_take T) hr (ea_cons (ev_name 1) (ea_cons (ev_sub ev_int (ev_mul ev_int (ev_name 2) (.inl ⟨by decide, by decide⟩))) ea_nil)) ⟨_, rfl, by omega, by omega, rfl⟩) fun n h => by omega) more_add ⟨clA, _, _, _, hclA, by omega, rfl, rfl⟩ PassesOwn.never rfl sc_law.nd ?_) E5 c5 ?_)
  · rintro ds n d δ' es' ⟨nn, hnn, rfl⟩ hd ⟨cl, o6, o9', o12, hcl, hl, rfl, rfl⟩
    have hn5 : n < 5 := by
      have := (List.getElem?_eq_some_iff.mp hd).1
      rw [rngD_len] at this
      omega
    refine nls_cons (nl_p (nx_parP 9 12 (ea_consP (ec_fP (fx_lclaim T) hr (ea_cons (ev_name 1) (ea_cons (ev_name 3) (ea_cons (ev_name 4) ea_nil))) ⟨fs, cs, rfl, hfs, hcs, rfl⟩) (ea_oneP ev_int)) (by rintro ds ⟨_, _, rfl, _, _, rfl, _⟩; rfl) rfl sc_law.nd) more_add) ?_
    rintro δ' es' ⟨⟨x, y, ⟨_, _, e1, ⟨c, rfl, hc⟩, _, e2, rfl⟩, rfl⟩, rfl⟩
    cases e1
    cases e2
    refine nls_cons (Δ := fun δ' es' => ∃ mo : Int, 0 ≤ mo ∧ es' = cl.map clD ∧ δ' = [none, some .bag, some (.int i), some (.int fs), some (.lst (cs.map cD)), some (scD fs cs), some d, none, some (.own a), some (clD c), none, none, some (.int mo), none])
      (nl_ifE (elt_and more_add (et_cmp (ec_eq (ev_name 2) ev_int)) fun _ => elt_nil 8 hr fun d hd => by
        obtain ⟨c, _, rfl⟩ := List.mem_map.mp hd
        exact (fine_clD c).mono (by decide)) more_add (fun _ => ?_) fun _ => nls_nil ⟨3, by decide, rfl, rfl⟩) ?_
    · have hs0 := PP.sizes_nn cs
      have hs1 := hcs.small
      have hfew := hcs.few
      refine nls_one (nl_imp (nl_s (nx_set 12 (ev_fdiv (j := if PP.sizes cs > 1 then PP.sizes cs else 1) ev_int (ev_max2 rfl T.b.max (ea_cons ev_int (ea_cons (ec_f (fx_lsize T) hr (ea_cons (ev_name 4) ea_nil) ⟨fs, cs, rfl, hcs.ok, by omega, rfl⟩) ea_nil))) (by constructor <;> split <;> omega)) sc_law.nd) more_add) ?_)
      rintro δ' es' ⟨rfl, rfl⟩
      exact ⟨_, Int.ediv_nonneg (by decide) (by split <;> omega), rfl, rfl⟩
    rintro δ' es' ⟨mo, hmo, rfl, rfl⟩
    have hsl := spotL_len c
    refine nls_one (nl_imp (nl_push 8 ((Ev.is (ev_cat (ev_tup (ea_cons (ev_ixT (ev_name 9) ev_int (cl0 c)) (ea_cons (ev_max2 rfl T.b.max (ea_cons (ev_neg (ev_name 12)) (ea_cons (ev_min2 rfl T.b.min (ea_cons (ev_name 12) (ea_cons (ev_ixT (ev_name 9) ev_int (cl1 c)) ea_nil))) ea_nil))) ea_nil)))
      (ev_slT (ev_name 9) (eo_some ev_int) eo_none (spots_cut c)) (by rw [spots_eq, List.length_map]; simp; omega)) (y := clD { c with k := if (if c.k < mo then c.k else mo) > -mo then (if c.k < mo then c.k else mo) else -mo }) rfl).l) more_add (by rw [List.length_map]; omega)) ?_)
    rintro δ' es' ⟨rfl, d', rfl, rfl⟩
    refine ⟨cl ++ [{ c with k := if (if c.k < mo then c.k else mo) > -mo then (if c.k < mo then c.k else mo) else -mo }], _, _, _, fun x hx => ?_, by rw [List.length_append, List.length_singleton]; omega, by rw [List.map_append]; rfl, rfl⟩
    rcases List.mem_append.mp hx with h | h
    · exact hcl x h
    · rw [List.mem_singleton.mp h]
      refine ⟨hc.files, hc.calls, hc.few, hc.small, hc.spots, ?_⟩
      exact Int.le_trans (Int.mul_le_mul_of_nonneg_right (clamp hmo) (PP.sizes_nn cs)) hc.turns
  rintro δ' es' σ6 H6 ⟨ds, ⟨nn, hnn, rfl⟩, cl, o6, o9', o12, hcl, hl, rfl, rfl⟩ l6 E6 c6
  rw [rngD_len] at hl
  -- given = list(some)
  refine ws_cons (Nl.go (X := lawX P w K mg base f cdv A outer s H0 E0) (m := m.add a) (nl_setL 7 (el_list 8 T.b.list) more_add sc_law.nd) E6 c6 ?_)
  rintro δ' es' σ7 H7 ⟨⟨d, rfl, rfl⟩, rfl⟩ l7 E7 c7
  have E8 := (Sl.shrink E7).put (i := 8) (own_at E7 (s := 8) rfl) (c7.done nm)
  refine q fs cs cl σ7 H7 hfs hcs hcl (by omega) (Sl.forget E8 rfl fun j d h => ?_)
  rcases j with _ | _ | _ | _ | _ | _ | _ | _ | _ | _ | _ | _ | _ | _ | j <;> cases h <;> rfl
end
end PB

/-! the law: the answers of a turn -/
namespace PB
open PySem PySem.Spec PyProof.Rows L2
open PP (Call Spot Word)
theorem aOf_same {fs : Int} {cs : List Call} {cl cl' : List PP.Claim} (h : ∀ c, c ∈ cl ↔ c ∈ cl') : aOf fs cs cl = aOf fs cs cl' := by
  unfold aOf
  rw [PP.lastOf_same cs h]
  exact PP.ansOf_congr (PP.lastOf_pos cs cl') fun r _ _ => PP.allSo_same h r
/-- one line further down it is otherwise -/
theorem aOf_turn {fs : Int} {cs : List Call} {cl : List PP.Claim} (h : 1 < (aOf fs cs cl).first) : (aOf fs cs cl).in_ ((aOf fs cs cl).first - 1) ≠ (aOf fs cs cl).rest := by
  have hl := PP.lastOf_pos cs cl
  have h1 : (aOf fs cs cl).first = PP.firstOf (PP.allSo fs cs cl) (PP.lastOf cs cl) := rfl
  have h2 : (aOf fs cs cl).rest = PP.allSo fs cs cl (PP.lastOf cs cl) := rfl
  have h3 := PP.firstOf_le (PP.allSo fs cs cl) hl
  have e : (aOf fs cs cl).in_ ((aOf fs cs cl).first - 1) = PP.allSo fs cs cl ((aOf fs cs cl).first - 1) := by
    unfold aOf at h ⊢
    rw [PP.ans_in hl (by omega), if_pos (by rw [show (PP.ansOf (PP.allSo fs cs cl) (PP.lastOf cs cl)).first = PP.firstOf (PP.allSo fs cs cl) (PP.lastOf cs cl) from rfl]; omega)]
  rw [e, h2, h1]
  exact PP.firstOf_other _ hl (by rw [← h1]; exact h)
theorem aOf_below {fs : Int} {cs : List Call} {cl : List PP.Claim} : ((aOf fs cs cl).some_.filter fun r => decide ((aOf fs cs cl).first ≤ r)) = [] := by
  rw [List.filter_eq_nil_iff]
  intro r hr h
  have h1 := of_decide_eq_true h
  have e : (aOf fs cs cl).some_ = (PP.intsF 1 ((aOf fs cs cl).first - 1).toNat).filter (PP.allSo fs cs cl) := rfl
  rw [e] at hr
  have := PP.mem_ints.mp (List.mem_filter.mp hr).1
  omega
abbrev dlT (i fs : Int) (cs : List Call) (cl : List PP.Claim) : Dl := [none, some .bag, some (.int i), some (.int fs), some (.lst (cs.map cD)), some (scD fs cs), none, some (.lst (cl.map clD)), some (.lst (cl.map clD)), none, some (tD (aOf fs cs cl)), some (.lst (cl.map (oneD fs cs))), none, none]
abbrev dlF (i fs : Int) (cs : List Call) (cl : List PP.Claim) : Dl := [none, some .bag, some (.int i), some (.int fs), some (.lst (cs.map cD)), some (scD fs cs), none, some (.lst (cl.map clD)), some (.lst (cl.map clD)), none, none, none, none, none]
/-- behind the answers: the told one stands at p, its list at q, and all else is apart from that list -/
structure Ats (K : PySem.W.Frag) (m : Md) (C : Addr) (H : Hp) (σ : L2.St) (i fs : Int) (cs : List Call) (cl : List PP.Claim) (p q : Addr) : Prop where
  E : Sl K m C H σ (dlT i fs cs cl)
  F : Sl K (m.add q) C H σ (dlF i fs cs cl)
  told : H p = some (.tup [.ref q, .int (aOf fs cs cl).first, .bl (aOf fs cs cl).rest])
  list : H q = some (.lst ((aOf fs cs cl).some_.map V.int))
  slot : σ[10]? = some (some (.ref p))
  free : m.bag ≠ some q
theorem Ats.le {K : PySem.W.Frag} {m : Md} {C : Addr} {H H' : Hp} {σ : L2.St} {i fs : Int} {cs : List Call} {cl : List PP.Claim} {p q : Addr} (S : Ats K m C H σ i fs cs cl p q) (l : Le m H H') : Ats K m C H' σ i fs cs cl p q :=
  ⟨S.E.le l, S.F.le l.up, l.keep _ _ S.told fun _ z => z, l.keep _ _ S.list fun z => absurd z S.free, S.slot, S.free⟩
section
variable {P : Program} {w : World} {K : PySem.W.Frag} {mg : Str → Option Value} {base : Heap} {C : Addr}
theorem turnT (T : Txt K w mg C) {f : Addr} {cdv : Value} {A : Around} {outer : List Env} {s : Shared} {H0 : Hp} {E0 : XK} (hr : Room 11 (A.deeper (envOfC "law" (defScope (topS 64)) s.heap.objs.size f cdv))) {m : Md} {σ : L2.St} {H : Hp} {i fs : Int} {cs : List Call} {cl : List PP.Claim} {Dn : Ends}
    (hcs : CsOk fs cs) (hcl : ∀ c ∈ cl, ClOk fs cs c) (hl : cl.length ≤ 10) (E : Sl K m C H σ (dlA i fs cs cl))
    (q : ∀ (σ' : L2.St) (H' : Hp) (p q : Addr), Ats K m C H' σ' i fs cs cl p q → wSs (lawX P w K mg base f cdv A outer s H0 E0) (turnB.drop 8) Dn σ' H') :
    wSs (lawX P w K mg base f cdv A outer s H0 E0) (turnB.drop 7) Dn σ H := by
  have hfew := hcs.few
  refine ws_cons (X := lawX P w K mg base f cdv A outer s H0 E0) (ofPS (ps_asg (pe_tup (pa_cons peW (pa_cons peW pa_nil))) (pg_tup rfl (pgs_cons (pg_name (i := 10) sc_law.nd rfl (Or.inr rfl)) (pgs_cons (pg_name (i := 11) sc_law.nd rfl (Or.inl rfl)) pgs_nil))) rfl rfl rfl)
    (EvN.go (X := lawX P w K mg base f cdv A outer s H0 E0) (en_f (fx_answer_all T) hr (ea_cons (ev_name 5) (ea_cons (ev_name 7) ea_nil)) ⟨fs, cs, cl, rfl, by omega, hcl, by omega, rfl⟩) E fun pT H1 l1 told => ?_))
  refine Ev.go (X := lawX P w K mg base f cdv A outer s H0 E0) (ev_lcM (L := cl) (j := 9) clD (oneD fs cs) (ei_lst (ev_name 8)) (by omega) rfl sc_law.nd
    (blkOk_by (own := [("_law_claim_here", 9)]) (N := nLaw) (sc := defScope (topS 64)) (by decide +kernel)) (fun _ _ _ _ _ => pg_name (i := 9) sc_law.nd rfl (Or.inl rfl)) fun c hc p s' H0 Cc cl' fp => ?_) (E.le l1) fun vS H2 l2 r2 => ?_
  · exact (en_f (fx_answer T) hr (ea_cons (ev_name 5) (ea_cons (ev_name 9) ea_nil)) ⟨fs, cs, c, rfl, hcl c hc, rfl⟩).ev
  obtain ⟨qa, n1, n2, t1, t2⟩ := id told
  have hq1 : H1 qa ≠ none := by rw [t2]; exact fun z => nomatch z
  have E1 := E.le l1
  have F1 := E.grown n1 l1 hq1
  have rT := told.rp E
  refine ⟨Nat.le_of_lt (small1000 (by simp)), fun pt npt => ⟨pt, _, rfl, SqT.of upd_same, rfl, .ref pT, [vS], rfl, vS, [], rfl, rfl, ?_⟩⟩
  have l3 : Le m H2 (upd H2 pt (.tup [.ref pT, vS])) := .new npt
  have l23 := l2.trans l3
  have hfree : m.bag ≠ some qa := fun z => E.alloc qa (.inl z) n1
  have hlen : σ.length = 14 := E.len
  refine q _ _ pT qa ⟨(((E1.le l23).set (i := 10) (rT.le l23)).set (i := 11) (r2.le l3)), ((F1.le l23.up).unset (i := 10) (o := some (.ref pT))).unset (i := 11) (o := some vS), l23.keep _ _ t1 fun _ z => z, l23.keep _ _ t2 fun z => absurd z hfree, ?_, hfree⟩
  rw [List.getElem?_set_ne (by decide), List.getElem?_set_self (by omega)]
end
end PB

/-! the law: what a turn checks -/
namespace PB
open PySem PySem.Spec PyProof.Rows L2
open PP (Call Spot Word)
theorem aOf_nil {fs : Int} {cs : List Call} : aOf fs cs [] = ⟨[], 1, true⟩ := rfl
theorem nil_or (cl : List PP.Claim) : cl = [] ∨ ∃ c r, cl = c :: r := by
  cases cl with
  | nil => exact .inl rfl
  | cons c r => exact .inr ⟨c, r, rfl⟩
section
variable {P : Program} {w : World} {K : PySem.W.Frag} {mg : Str → Option Value} {base : Heap} {C : Addr}
theorem turnC (T : Txt K w mg C) {f : Addr} {cdv : Value} {A : Around} {outer : List Env} {s : Shared} {H0 : Hp} {E0 : XK} (hr : Room 11 (A.deeper (envOfC "law" (defScope (topS 64)) s.heap.objs.size f cdv))) (hg : A.guards = some []) {m : Md} {σ : L2.St} {H : Hp} {i fs : Int} {cs : List Call} {cl : List PP.Claim} {p qa : Addr} {Dn : Ends}
    (hi : 0 ≤ i ∧ i < 2) (hcs : CsOk fs cs) (hcl : ∀ c ∈ cl, ClOk fs cs c) (hl : cl.length ≤ 10) (S : Ats K m C H σ i fs cs cl p qa)
    (q : ∀ H', Ats K m C H' σ i fs cs cl p qa → wSs (lawX P w K mg base f cdv A outer s H0 E0) (turnB.drop 14) Dn σ H') :
    wSs (lawX P w K mg base f cdv A outer s H0 E0) (turnB.drop 8) Dn σ H := by
  have hfew := hcs.few
  have okA := aOf_ok hcl
  have hfine : ∀ d ∈ cl.map clD, Fine 5 d := fun d hd => by
    obtain ⟨c, _, rfl⟩ := List.mem_map.mp hd
    exact (fine_clD c).mono (by decide)
  have fl := clDs_fine cl
  -- given != some or not form_right(told)
  refine ws_cons (X := lawX P w K mg base f cdv A outer s H0 E0) (ws_ifF (et_ww (ew_orF (et_cmp (ec_neD hr (ev_name 7) (ev_name 8) fl.eq fl.eq fl.same)) (ew_or1 (et_not (et_val (t := true) (ec_g (gx_form T) hg hr (ea_cons (ev_name 10) ea_nil) ⟨_, ⟨_, rfl, okA, rfl⟩, rfl⟩)))))) S.E fun H1 l1 => ?_)
  have S1 := S.le l1
  -- not lines_right(..)
  refine ws_cons (X := lawX P w K mg base f cdv A outer s H0 E0) (ws_ifF (et_not (et_val (t := true) (ec_f (fx_lines T) hr (ea_cons (ev_name 1) (ea_cons (ev_name 5) (ea_cons (ev_name 8) (ea_cons (ev_name 10) (ea_cons (ev_name 11) ea_nil))))) ⟨fs, cs, cl, rfl, hcl, by omega, rfl⟩))) S1.E fun H2 l2 => ?_)
  have S2 := S1.le l2
  -- the first line
  refine ws_cons (X := lawX P w K mg base f cdv A outer s H0 E0) (ws_ifF (et_ww (ew_orF (et_ww (t := false) ?_) (ew_or1 (et_cmp (ec_nnil (ds := ((aOf fs cs cl).some_.filter fun r => decide ((aOf fs cs cl).first ≤ r)).map D.int) hr (ev_lcIfM (L := (aOf fs cs cl).some_) (j := 13) D.int D.int (fun r => decide ((aOf fs cs cl).first ≤ r)) (ei_lst (ev_ixT (ev_name 10) ev_int)) (by have := okA.len; omega) rfl sc_law.nd
      (blkOk_by (own := [("_law_rows", 13)]) (N := nLaw) (sc := defScope (topS 64)) (by decide +kernel)) (fun _ _ _ _ _ => pg_name (i := 13) sc_law.nd rfl (Or.inl rfl)) (fun r hr' p s' H0 Cc cl' fp => et_cmp (ec_ge (ev_name 13) (ev_ixT (ev_name 10) ev_int))) (fun r hr' _ p s' H0 Cc cl' fp => ev_name 13)) ?_) ?_)))) S2.E fun H3 l3 => ?_)
  · by_cases h : 1 < (aOf fs cs cl).first
    · exact ew_andT (et_cmp (ec_gt (ev_ixT (ev_name 10) ev_int) ev_int) (decide_eq_true h)) (ew_and1 (et_cmp (ec_eq (ec_f (fx_in T) hr (ea_cons (ev_name 10) (ea_cons (ev_sub (ev_ixT (ev_name 10) ev_int) ev_int) ea_nil)) ⟨_, _, rfl, rfl⟩) (ev_ixT (ev_name 10) ev_int)) (by rw [dec_bl, beq_eq_false_iff_ne]; exact aOf_turn h)))
    · exact ew_andF (et_cmp (ec_gt (ev_ixT (ev_name 10) ev_int) ev_int) (decide_eq_false h))
  · intro d hd
    obtain ⟨r, _, rfl⟩ := List.mem_map.mp hd
    exact fine_int
  · rw [aOf_below]
    rfl
  have S3 := S2.le l3
  -- the claims mixed, some twice
  refine ws_cons (X := lawX P w K mg base f cdv A outer s H0 E0) (ws_ifF (et_not (et_val (t := true) (ec_g (gx_alike T) hg hr (ea_cons (EvN.ev (a := aOf fs cs cl) (en_fR (fx_answer_all T) hr (ea_consP (ev_name 5) (ea_oneP (ec_fP (fx_mixed T) hr (ea_cons (ev_name 1) (ea_cons (ev_catL (ev_name 8) (ev_slL (ev_name 8) eo_none (eo_some (ev_sub ev_int (ev_name 2)))) ?_) ea_nil)) ⟨_, rfl, ?_, rfl⟩))) ?_)) (ea_cons (ev_name 10) ea_nil)) ⟨_, ⟨_, rfl, same_tD okA, rfl⟩, rfl⟩))) S3.E fun H4 l4 => ?_)
  · rw [cut_take _ (by omega), List.length_take, List.length_map]
    omega
  · rw [cut_take _ (by omega), List.length_append, List.length_take, List.length_map]
    omega
  · rintro ds ⟨_, _, rfl, rfl, _, rfl, es', rfl, hp⟩
    rw [cut_take _ (by omega), ← List.map_take, ← List.map_append] at hp
    obtain ⟨cl', hp', rfl⟩ := perm_pre clD hp _ rfl
    have hm : ∀ c, c ∈ cl ↔ c ∈ cl' := fun c => by
      rw [hp'.mem_iff, List.mem_append]
      exact ⟨.inl, fun h => h.elim id List.mem_of_mem_take⟩
    refine ⟨rfl, fs, cs, cl', rfl, by omega, fun c hc => hcl c ((hm c).mpr hc), ?_, aOf_same hm⟩
    rw [hp'.length_eq, List.length_append, List.length_take]
    omega
  have S4 := S3.le l4
  -- one claim alone
  refine ws_cons (X := lawX P w K mg base f cdv A outer s H0 E0) (ws_ifF (et_ww (t := false) ?_) S4.E fun H5 l5 => ?_)
  · rcases nil_or cl with rfl | ⟨c, r, rfl⟩
    · exact ew_andF (et_cmp (ec_nnil hr (ev_name 8) hfine))
    · have hc : ∀ d ∈ [c], ClOk fs cs d := fun d hd => by rw [List.mem_singleton.mp hd]; exact hcl c List.mem_cons_self
      exact ew_andT (et_cmp (ec_nnil hr (ev_name 8) hfine)) (ew_and1 (et_not (et_val (t := true) (ec_g (gx_alike T) hg hr (ea_cons (en_f (fx_answer_all T) hr (ea_cons (ev_name 5) (ea_cons (ev_slL (ev_name 8) eo_none (eo_some ev_int) (es' := [clD c]) (cut_take (i := 1) _ (by decide))) ea_nil)) ⟨fs, cs, [c], rfl, by omega, hc, by simp, rfl⟩).ev (ea_cons (ev_ixL (d := oneD fs cs c) (ev_name 11) ev_int (atI_nat (j := 0) rfl)) ea_nil)) ⟨_, ⟨_, rfl, same_tD (aOf_ok hc), rfl⟩, rfl⟩))))
  have S5 := S4.le l5
  -- no claim at all
  refine ws_cons (X := lawX P w K mg base f cdv A outer s H0 E0) (ws_ifF (et_not (et_val (t := true) (ec_g (gx_alike T) hg hr (ea_cons (en_f (fx_answer_all T) hr (ea_cons (ev_name 5) (ea_cons (ev_lst ea_nil) ea_nil)) ⟨fs, cs, [], rfl, by omega, fun c hc => (by cases hc), by simp, rfl⟩).ev (ea_cons (ev_tup (ea_cons (ev_lst ea_nil) (ea_cons ev_int (ea_cons ev_bl ea_nil)))) ea_nil)) ⟨_, ⟨_, rfl, same_tD (aOf_ok fun c hc => (by cases hc)), rfl⟩, rfl⟩))) S5.E fun H6 l6 => ?_)
  exact q H6 (S5.le l6)
end
end PB

/-! the law -/
namespace PB
open PySem PySem.Spec PyProof.Rows L2
open PP (Call Spot Word)
section
variable {P : Program} {w : World} {K : PySem.W.Frag} {mg : Str → Option Value} {base : Heap} {C : Addr}
abbrev dlE (o : Option D) : Dl := [none, some .bag, none, o, none, none, none, none, none, none, none, none, none, none]
theorem turnD (T : Txt K w mg C) {f : Addr} {cdv : Value} {A : Around} {outer : List Env} {s : Shared} {H0 : Hp} {E0 : XK} (hr : Room 11 (A.deeper (envOfC "law" (defScope (topS 64)) s.heap.objs.size f cdv))) (hg : A.guards = some []) {m : Md} {σ : L2.St} {H : Hp} {i fs : Int} {cs : List Call} {cl : List PP.Claim} {p qa : Addr} {Dn : Ends}
    (hi : 0 ≤ i ∧ i < 2) (hcs : CsOk fs cs) (hcl : ∀ c ∈ cl, ClOk fs cs c) (hl : cl.length ≤ 10) (S : Ats K m C H σ i fs cs cl p qa) (q : ∀ H', Sl K m C H' σ (dlE (some (.int fs))) → Dn.nx σ H') :
    wSs (lawX P w K mg base f cdv A outer s H0 E0) (turnB.drop 14) Dn σ H := by
  have hfew := hcs.few
  obtain ⟨v1, h5, r1⟩ := S.F.at_ 5 _ rfl
  obtain ⟨v2, h7, r2⟩ := S.F.at_ 7 _ rfl
  obtain ⟨v3, h2, r3⟩ := S.F.at_ 2 _ rfl
  cases (show v3 = .int i from r3)
  refine ws_cons (X := lawX P w K mg base f cdv A outer s H0 E0) (ofPS (ps_if (pt_not (pt_val peW (by intro _; rfl))) pssW pss_nil) (we_g (X := lawX P w K mg base f cdv A outer s H0 E0) (gx_again T) hg hr (ofPA (pa_cons (pe_var (i := 5) rfl (Or.inr (Or.inl rfl))) (pa_cons (pe_var (i := 7) rfl (Or.inl rfl)) (pa_cons (pe_var (i := 10) rfl (Or.inr (Or.inl rfl))) (pa_cons (pe_op op_sub pe_int (pe_var (i := 2) rfl (Or.inl rfl))) pa_nil))))
    ⟨v1, h5, v2, h7, _, S.slot, .int i, h2, 2, i, rfl, rfl, fs, cs, cl, v1, v2, p, qa, 2 - i, rfl, by omega, by omega, hcl, by omega, by omega, ⟨scD_weak (fun _ => mut_m0) r1, r2.weak (fun _ => mut_m0) (clDs_fine cl).ok, S.told, S.list⟩, fun H' rest => ⟨true, rfl, ?_⟩⟩)))
  refine iteF (ws_nil (q H' ?_))
  have hq : H' qa ≠ none := rest.2 qa (by rw [S.list]; exact fun z => nomatch z)
  have F2 := Sl.shrink (S.F.lw List.mem_cons_self rest.lw hq)
  refine Sl.forget F2 rfl fun j d h => ?_
  rcases j with _ | _ | _ | _ | _ | _ | _ | _ | _ | _ | _ | _ | _ | _ | j <;> cases h <;> rfl
def spLaw (K : PySem.W.Frag) : Sp := fun vs H Q _ => ∃ (a : Addr) (ns : List Int), vs = [.ref a] ∧ SqL K H a (ns.map V.int) ∧ ns.length ≤ 1000 ∧ ∀ H', Q (.bl true) H'
theorem ok_law (T : Txt K w mg C) {f : Addr} {fd : FuncData} (F : Fun K "law" "law" (topS 64) f fd) : FnG P w K mg base 12 f fd ["_law_script"] (spG (spLaw K)) := by
  refine fnG_mk (k := 11) F sc_law (fun A s vs H Q E h => ?_) fun cdv A outer s H vs Q E hr h => ?_
  · obtain ⟨_, a, ns, rfl, _⟩ := h
    rfl
  obtain ⟨hg, a, ns, rfl, hS, hl, done⟩ := h
  obtain ⟨fb, fdb, psb, Gb, hmb, hkb, hbb⟩ := ok_bag (P := P) (base := base) T
  refine ws_cons (X := lawX P w K mg base f cdv A outer s H E) (ofPS (ps_set (i := 1) sc_law.nd rfl (Or.inl rfl) (pe_call (X := lawX P w K mg base f cdv A outer s H E) Gb (hr.mono (by decide)) (by rfl) hmb hkb hbb .nil pass0 (pa_cons (pe_var (i := 0) rfl (Or.inl rfl)) pa_nil))) ⟨_, rfl, a, ns, rfl, hS, hl, fun p H1 s1 hb => ?_⟩)
  have E1 : Sl K ⟨some p, []⟩ C H1 ((L2.start nLaw [.ref a]).set 1 (some (.ref p))) (dlE none) := by
    refine ⟨rfl, fun j d h => ?_, fun b e => ?_, fun b e => (by cases e)⟩
    · rcases j with _ | _ | _ | _ | _ | _ | _ | _ | _ | _ | _ | _ | _ | _ | j <;> cases h <;> exact ⟨_, rfl, p, rfl, rfl⟩
    · cases e
      exact hb
  refine ws_cons (X := lawX P w K mg base f cdv A outer s H E) (ws_forR (m := ⟨some p, []⟩) (C := C) (j := 2) (N := 2) (fun i σ' H' => ∃ o : Option D, Sl K ⟨some p, []⟩ C H' σ' (dlE o) ∧ (i = 0 ∨ ∃ fs : Int, (fs = 2 ∨ fs = 3) ∧ o = some (.int fs))) T.b.range ev_int (by decide) E1 PassesOwn.never rfl sc_law.nd (fun H2 l2 => ⟨none, E1.le l2, .inl rfl⟩) (fun i σ' H' hi ⟨o, E2, _⟩ => ?_) fun σ' H' ⟨o, E2, ho⟩ => ?_)
  · refine turnA T hr hi (E2.set (i := 2) (v := .int (i : Int)) (d := .int (i : Int)) rfl) fun fs cs cl σ3 H3 hfs hcs hcl hlen E3 => ?_
    refine turnT T hr hcs hcl hlen E3 fun σ4 H4 p4 q4 S4 => ?_
    refine turnC T hr hg ⟨by omega, by omega⟩ hcs hcl hlen S4 fun H5 S5 => ?_
    exact turnD T hr hg ⟨by omega, by omega⟩ hcs hcl hlen S5 fun H6 E6 => ⟨_, E6, .inr ⟨fs, hfs, rfl⟩⟩
  · rcases ho with ho | ⟨fs, hfs, rfl⟩
    · exact absurd ho (by decide)
    · obtain ⟨fi, fdi, Gi, Mi, bi⟩ := ok_init (P := P) (base := base) T
      exact ws_cons (X := lawX P w K mg base f cdv A outer s H E) (ws_ret (ec_g (gx_bare T) hg hr (ea_cons (ev_name 1) (ea_cons (ev_make (cs := []) Gi Mi bi (hr.mono (by decide)) T.mgC (ea_cons (ev_name 3) (ea_cons (ev_lst ea_nil) ea_nil)) hfs (fun c hc => (by cases hc)) (by decide)) ea_nil)) ⟨_, ⟨fs, rfl, hfs, rfl⟩, rfl⟩) E2 fun d v H2 hd l r => by
        subst hd
        rw [show v = .bl true from r]
        exact done H2)
end
end PB

namespace PB
open PySem PySem.Spec PyProof.Rows L2
/-- texts, one after another -/
def isStrs : List Value → List Str → Bool
  | [], [] => true
  | .str y _ :: vs, x :: xs => decide (y = x) && isStrs vs xs
  | _, _ => false
theorem isStrs_ok : ∀ {vs : List Value} {xs : List Str}, isStrs vs xs = true → Vals (xs.map V.str) vs ∧ vs.length = xs.length
  | [], [], _ => ⟨.nil, rfl⟩
  | .str y t :: vs, x :: xs, h => by
    rw [isStrs, Bool.and_eq_true, decide_eq_true_eq] at h
    obtain ⟨h1, h2⟩ := h
    obtain ⟨h3, h4⟩ := isStrs_ok h2
    subst h1
    exact ⟨.cons ⟨t, rfl⟩ h3, by rw [List.length_cons, List.length_cons, h4]⟩
section
variable {w : World} {K : PySem.W.Frag} {h : Heap} {mg : Str → Option Value} {C : Addr}
theorem tup_mk {nm : Str} {xs : List Str} {p : Addr} {o : Option Addr} {v : Array Value} {n : Nat} {sl : Array (Option Value)} (X : K.In h) (G : h.Ns mainGlobals mg) (a : PySem.W.nsIn K mainGlobals nm = some (some (.ref p))) (l : K.lookup p = some ⟨.type "tuple", o, .seq v n, sl⟩) (hv : isStrs v.toList xs = true) (few : xs.length ≤ 1000 := by decide) : KTup K mg nm xs := by
  obtain ⟨h1, h2⟩ := isStrs_ok hv
  exact ⟨p, PySem.W.mg_of X G a, fun H => .inr ⟨_, v, n, l, rfl, rfl, by rw [← Array.length_toList, h2]; exact Nat.le_of_lt (small1000 few), h1⟩⟩
theorem def_mk {gn nm : Str} {st : Stmt} {ps : List Str} {f : Addr} {od an : Option Addr} {sl : Array (Option Value)} {oc kV dc pm cd ct : Value} (X : K.In h) (G : h.Ns mainGlobals mg) (a : PySem.W.nsIn K mainGlobals gn = some (some (.ref f)))
    (l : K.lookup f = some ⟨oc, od, .func (PySem.W.fnOf nm nm (defArgs st) (defBody st) (defScope st) .none kV dc pm an cd ct), sl⟩) (c : PySem.W.codeIn K cd nm = true) (k : PySem.W.keepIn K (.ref f) = true)
    (hb : ∀ (kV doc pm : Value) (an : Option Addr) (cdv ct : Value) (us : List Value), us.length = ps.length → bindArgs (PySem.W.fnOf nm nm (defArgs st) (defBody st) (defScope st) .none kV doc pm an cdv ct) ⟨us, []⟩ = pure (ps.zip us)) : DefAs K mg gn nm st ps :=
  ⟨f, _, fun_mk (st := st) l c k, PySem.W.mg_of X G a, Fun.binds (ps := ps) (fun_mk (st := st) l c k) hb⟩
/-- what the top has left, as one -/
theorem all_mk {fa : Addr} (X : K.In h) (G : h.Ns mainGlobals mg) (hfa : mg "law" = some (.ref fa))
    (aC : PySem.W.nsIn K mainGlobals "Script" = some (some (.ref C)))
    {fd0 : Addr} {odd0 and0 : Option Addr} {sld0 : Array (Option Value)} {ocd0 kVd0 dcd0 pmd0 cdd0 ctd0 : Value}
    (ad0 : PySem.W.nsIn K mainGlobals "is_integer" = some (some (.ref fd0)))
    (ld0 : K.lookup fd0 = some ⟨ocd0, odd0, .func (PySem.W.fnOf "is_integer" "is_integer" (defArgs (topS 9)) (defBody (topS 9)) (defScope (topS 9)) .none kVd0 dcd0 pmd0 and0 cdd0 ctd0), sld0⟩)
    (cd0 : PySem.W.codeIn K cdd0 "is_integer" = true)
    (kd0 : PySem.W.keepIn K (.ref fd0) = true)
    {fd1 : Addr} {odd1 and1 : Option Addr} {sld1 : Array (Option Value)} {ocd1 kVd1 dcd1 pmd1 cdd1 ctd1 : Value}
    (ad1 : PySem.W.nsIn K mainGlobals "is_files" = some (some (.ref fd1)))
    (ld1 : K.lookup fd1 = some ⟨ocd1, odd1, .func (PySem.W.fnOf "is_files" "is_files" (defArgs (topS 10)) (defBody (topS 10)) (defScope (topS 10)) .none kVd1 dcd1 pmd1 and1 cdd1 ctd1), sld1⟩)
    (cd1 : PySem.W.codeIn K cdd1 "is_files" = true)
    (kd1 : PySem.W.keepIn K (.ref fd1) = true)
    {fd2 : Addr} {odd2 and2 : Option Addr} {sld2 : Array (Option Value)} {ocd2 kVd2 dcd2 pmd2 cdd2 ctd2 : Value}
    (ad2 : PySem.W.nsIn K mainGlobals "is_index" = some (some (.ref fd2)))
    (ld2 : K.lookup fd2 = some ⟨ocd2, odd2, .func (PySem.W.fnOf "is_index" "is_index" (defArgs (topS 11)) (defBody (topS 11)) (defScope (topS 11)) .none kVd2 dcd2 pmd2 and2 cdd2 ctd2), sld2⟩)
    (cd2 : PySem.W.codeIn K cdd2 "is_index" = true)
    (kd2 : PySem.W.keepIn K (.ref fd2) = true)
    {fd3 : Addr} {odd3 and3 : Option Addr} {sld3 : Array (Option Value)} {ocd3 kVd3 dcd3 pmd3 cdd3 ctd3 : Value}
    (ad3 : PySem.W.nsIn K mainGlobals "is_call" = some (some (.ref fd3)))
    (ld3 : K.lookup fd3 = some ⟨ocd3, odd3, .func (PySem.W.fnOf "is_call" "is_call" (defArgs (topS 16)) (defBody (topS 16)) (defScope (topS 16)) .none kVd3 dcd3 pmd3 and3 cdd3 ctd3), sld3⟩)
    (cd3 : PySem.W.codeIn K cdd3 "is_call" = true)
    (kd3 : PySem.W.keepIn K (.ref fd3) = true)
    {fd4 : Addr} {odd4 and4 : Option Addr} {sld4 : Array (Option Value)} {ocd4 kVd4 dcd4 pmd4 cdd4 ctd4 : Value}
    (ad4 : PySem.W.nsIn K mainGlobals "is_straight_calls" = some (some (.ref fd4)))
    (ld4 : K.lookup fd4 = some ⟨ocd4, odd4, .func (PySem.W.fnOf "is_straight" "is_straight" (defArgs (topS 17)) (defBody (topS 17)) (defScope (topS 17)) .none kVd4 dcd4 pmd4 and4 cdd4 ctd4), sld4⟩)
    (cd4 : PySem.W.codeIn K cdd4 "is_straight" = true)
    (kd4 : PySem.W.keepIn K (.ref fd4) = true)
    {fd5 : Addr} {odd5 and5 : Option Addr} {sld5 : Array (Option Value)} {ocd5 kVd5 dcd5 pmd5 cdd5 ctd5 : Value}
    (ad5 : PySem.W.nsIn K mainGlobals "size_of" = some (some (.ref fd5)))
    (ld5 : K.lookup fd5 = some ⟨ocd5, odd5, .func (PySem.W.fnOf "size_of" "size_of" (defArgs (topS 19)) (defBody (topS 19)) (defScope (topS 19)) .none kVd5 dcd5 pmd5 and5 cdd5 ctd5), sld5⟩)
    (cd5 : PySem.W.codeIn K cdd5 "size_of" = true)
    (kd5 : PySem.W.keepIn K (.ref fd5) = true)
    {fd6 : Addr} {odd6 and6 : Option Addr} {sld6 : Array (Option Value)} {ocd6 kVd6 dcd6 pmd6 cdd6 ctd6 : Value}
    (ad6 : PySem.W.nsIn K mainGlobals "turned" = some (some (.ref fd6)))
    (ld6 : K.lookup fd6 = some ⟨ocd6, odd6, .func (PySem.W.fnOf "turned" "turned" (defArgs (topS 20)) (defBody (topS 20)) (defScope (topS 20)) .none kVd6 dcd6 pmd6 and6 cdd6 ctd6), sld6⟩)
    (cd6 : PySem.W.codeIn K cdd6 "turned" = true)
    (kd6 : PySem.W.keepIn K (.ref fd6) = true)
    {fd7 : Addr} {odd7 and7 : Option Addr} {sld7 : Array (Option Value)} {ocd7 kVd7 dcd7 pmd7 cdd7 ctd7 : Value}
    (ad7 : PySem.W.nsIn K mainGlobals "on_wheel" = some (some (.ref fd7)))
    (ld7 : K.lookup fd7 = some ⟨ocd7, odd7, .func (PySem.W.fnOf "on_wheel" "on_wheel" (defArgs (topS 21)) (defBody (topS 21)) (defScope (topS 21)) .none kVd7 dcd7 pmd7 and7 cdd7 ctd7), sld7⟩)
    (cd7 : PySem.W.codeIn K cdd7 "on_wheel" = true)
    (kd7 : PySem.W.keepIn K (.ref fd7) = true)
    {fd8 : Addr} {odd8 and8 : Option Addr} {sld8 : Array (Option Value)} {ocd8 kVd8 dcd8 pmd8 cdd8 ctd8 : Value}
    (ad8 : PySem.W.nsIn K mainGlobals "moved_by" = some (some (.ref fd8)))
    (ld8 : K.lookup fd8 = some ⟨ocd8, odd8, .func (PySem.W.fnOf "moved_by" "moved_by" (defArgs (topS 23)) (defBody (topS 23)) (defScope (topS 23)) .none kVd8 dcd8 pmd8 and8 cdd8 ctd8), sld8⟩)
    (cd8 : PySem.W.codeIn K cdd8 "moved_by" = true)
    (kd8 : PySem.W.keepIn K (.ref fd8) = true)
    {fd9 : Addr} {odd9 and9 : Option Addr} {sld9 : Array (Option Value)} {ocd9 kVd9 dcd9 pmd9 cdd9 ctd9 : Value}
    (ad9 : PySem.W.nsIn K mainGlobals "is_place" = some (some (.ref fd9)))
    (ld9 : K.lookup fd9 = some ⟨ocd9, odd9, .func (PySem.W.fnOf "is_place" "is_place" (defArgs (topS 25)) (defBody (topS 25)) (defScope (topS 25)) .none kVd9 dcd9 pmd9 and9 cdd9 ctd9), sld9⟩)
    (cd9 : PySem.W.codeIn K cdd9 "is_place" = true)
    (kd9 : PySem.W.keepIn K (.ref fd9) = true)
    {fd10 : Addr} {odd10 and10 : Option Addr} {sld10 : Array (Option Value)} {ocd10 kVd10 dcd10 pmd10 cdd10 ctd10 : Value}
    (ad10 : PySem.W.nsIn K mainGlobals "passed" = some (some (.ref fd10)))
    (ld10 : K.lookup fd10 = some ⟨ocd10, odd10, .func (PySem.W.fnOf "passed" "passed" (defArgs (topS 26)) (defBody (topS 26)) (defScope (topS 26)) .none kVd10 dcd10 pmd10 and10 cdd10 ctd10), sld10⟩)
    (cd10 : PySem.W.codeIn K cdd10 "passed" = true)
    (kd10 : PySem.W.keepIn K (.ref fd10) = true)
    {fd11 : Addr} {odd11 and11 : Option Addr} {sld11 : Array (Option Value)} {ocd11 kVd11 dcd11 pmd11 cdd11 ctd11 : Value}
    (ad11 : PySem.W.nsIn K mainGlobals "moved" = some (some (.ref fd11)))
    (ld11 : K.lookup fd11 = some ⟨ocd11, odd11, .func (PySem.W.fnOf "moved" "moved" (defArgs (topS 27)) (defBody (topS 27)) (defScope (topS 27)) .none kVd11 dcd11 pmd11 and11 cdd11 ctd11), sld11⟩)
    (cd11 : PySem.W.codeIn K cdd11 "moved" = true)
    (kd11 : PySem.W.keepIn K (.ref fd11) = true)
    {fd12 : Addr} {odd12 and12 : Option Addr} {sld12 : Array (Option Value)} {ocd12 kVd12 dcd12 pmd12 cdd12 ctd12 : Value}
    (ad12 : PySem.W.nsIn K mainGlobals "is_spot" = some (some (.ref fd12)))
    (ld12 : K.lookup fd12 = some ⟨ocd12, odd12, .func (PySem.W.fnOf "is_spot" "is_spot" (defArgs (topS 33)) (defBody (topS 33)) (defScope (topS 33)) .none kVd12 dcd12 pmd12 and12 cdd12 ctd12), sld12⟩)
    (cd12 : PySem.W.codeIn K cdd12 "is_spot" = true)
    (kd12 : PySem.W.keepIn K (.ref fd12) = true)
    {fd13 : Addr} {odd13 and13 : Option Addr} {sld13 : Array (Option Value)} {ocd13 kVd13 dcd13 pmd13 cdd13 ctd13 : Value}
    (ad13 : PySem.W.nsIn K mainGlobals "check_straight" = some (some (.ref fd13)))
    (ld13 : K.lookup fd13 = some ⟨ocd13, odd13, .func (PySem.W.fnOf "check_straight" "check_straight" (defArgs (topS 34)) (defBody (topS 34)) (defScope (topS 34)) .none kVd13 dcd13 pmd13 and13 cdd13 ctd13), sld13⟩)
    (cd13 : PySem.W.codeIn K cdd13 "check_straight" = true)
    (kd13 : PySem.W.keepIn K (.ref fd13) = true)
    {fd14 : Addr} {odd14 and14 : Option Addr} {sld14 : Array (Option Value)} {ocd14 kVd14 dcd14 pmd14 cdd14 ctd14 : Value}
    (ad14 : PySem.W.nsIn K mainGlobals "is_claim" = some (some (.ref fd14)))
    (ld14 : K.lookup fd14 = some ⟨ocd14, odd14, .func (PySem.W.fnOf "is_claim" "is_claim" (defArgs (topS 35)) (defBody (topS 35)) (defScope (topS 35)) .none kVd14 dcd14 pmd14 and14 cdd14 ctd14), sld14⟩)
    (cd14 : PySem.W.codeIn K cdd14 "is_claim" = true)
    (kd14 : PySem.W.keepIn K (.ref fd14) = true)
    {fd15 : Addr} {odd15 and15 : Option Addr} {sld15 : Array (Option Value)} {ocd15 kVd15 dcd15 pmd15 cdd15 ctd15 : Value}
    (ad15 : PySem.W.nsIn K mainGlobals "check_claim" = some (some (.ref fd15)))
    (ld15 : K.lookup fd15 = some ⟨ocd15, odd15, .func (PySem.W.fnOf "check_claim" "check_claim" (defArgs (topS 36)) (defBody (topS 36)) (defScope (topS 36)) .none kVd15 dcd15 pmd15 and15 cdd15 ctd15), sld15⟩)
    (cd15 : PySem.W.codeIn K cdd15 "check_claim" = true)
    (kd15 : PySem.W.keepIn K (.ref fd15) = true)
    {fd16 : Addr} {odd16 and16 : Option Addr} {sld16 : Array (Option Value)} {ocd16 kVd16 dcd16 pmd16 cdd16 ctd16 : Value}
    (ad16 : PySem.W.nsIn K mainGlobals "place_at" = some (some (.ref fd16)))
    (ld16 : K.lookup fd16 = some ⟨ocd16, odd16, .func (PySem.W.fnOf "place_at" "place_at" (defArgs (topS 37)) (defBody (topS 37)) (defScope (topS 37)) .none kVd16 dcd16 pmd16 and16 cdd16 ctd16), sld16⟩)
    (cd16 : PySem.W.codeIn K cdd16 "place_at" = true)
    (kd16 : PySem.W.keepIn K (.ref fd16) = true)
    {fd17 : Addr} {odd17 and17 : Option Addr} {sld17 : Array (Option Value)} {ocd17 kVd17 dcd17 pmd17 cdd17 ctd17 : Value}
    (ad17 : PySem.W.nsIn K mainGlobals "after" = some (some (.ref fd17)))
    (ld17 : K.lookup fd17 = some ⟨ocd17, odd17, .func (PySem.W.fnOf "after" "after" (defArgs (topS 38)) (defBody (topS 38)) (defScope (topS 38)) .none kVd17 dcd17 pmd17 and17 cdd17 ctd17), sld17⟩)
    (cd17 : PySem.W.codeIn K cdd17 "after" = true)
    (kd17 : PySem.W.keepIn K (.ref fd17) = true)
    {fd18 : Addr} {odd18 and18 : Option Addr} {sld18 : Array (Option Value)} {ocd18 kVd18 dcd18 pmd18 cdd18 ctd18 : Value}
    (ad18 : PySem.W.nsIn K mainGlobals "is_so" = some (some (.ref fd18)))
    (ld18 : K.lookup fd18 = some ⟨ocd18, odd18, .func (PySem.W.fnOf "is_so" "is_so" (defArgs (topS 39)) (defBody (topS 39)) (defScope (topS 39)) .none kVd18 dcd18 pmd18 and18 cdd18 ctd18), sld18⟩)
    (cd18 : PySem.W.codeIn K cdd18 "is_so" = true)
    (kd18 : PySem.W.keepIn K (.ref fd18) = true)
    {fd19 : Addr} {odd19 and19 : Option Addr} {sld19 : Array (Option Value)} {ocd19 kVd19 dcd19 pmd19 cdd19 ctd19 : Value}
    (ad19 : PySem.W.nsIn K mainGlobals "holds" = some (some (.ref fd19)))
    (ld19 : K.lookup fd19 = some ⟨ocd19, odd19, .func (PySem.W.fnOf "holds" "holds" (defArgs (topS 40)) (defBody (topS 40)) (defScope (topS 40)) .none kVd19 dcd19 pmd19 and19 cdd19 ctd19), sld19⟩)
    (cd19 : PySem.W.codeIn K cdd19 "holds" = true)
    (kd19 : PySem.W.keepIn K (.ref fd19) = true)
    {fd20 : Addr} {odd20 and20 : Option Addr} {sld20 : Array (Option Value)} {ocd20 kVd20 dcd20 pmd20 cdd20 ctd20 : Value}
    (ad20 : PySem.W.nsIn K mainGlobals "settled_at" = some (some (.ref fd20)))
    (ld20 : K.lookup fd20 = some ⟨ocd20, odd20, .func (PySem.W.fnOf "settled_at" "settled_at" (defArgs (topS 41)) (defBody (topS 41)) (defScope (topS 41)) .none kVd20 dcd20 pmd20 and20 cdd20 ctd20), sld20⟩)
    (cd20 : PySem.W.codeIn K cdd20 "settled_at" = true)
    (kd20 : PySem.W.keepIn K (.ref fd20) = true)
    {fd21 : Addr} {odd21 and21 : Option Addr} {sld21 : Array (Option Value)} {ocd21 kVd21 dcd21 pmd21 cdd21 ctd21 : Value}
    (ad21 : PySem.W.nsIn K mainGlobals "answer_of" = some (some (.ref fd21)))
    (ld21 : K.lookup fd21 = some ⟨ocd21, odd21, .func (PySem.W.fnOf "answer_of" "answer_of" (defArgs (topS 42)) (defBody (topS 42)) (defScope (topS 42)) .none kVd21 dcd21 pmd21 and21 cdd21 ctd21), sld21⟩)
    (cd21 : PySem.W.codeIn K cdd21 "answer_of" = true)
    (kd21 : PySem.W.keepIn K (.ref fd21) = true)
    {fd22 : Addr} {odd22 and22 : Option Addr} {sld22 : Array (Option Value)} {ocd22 kVd22 dcd22 pmd22 cdd22 ctd22 : Value}
    (ad22 : PySem.W.nsIn K mainGlobals "answer" = some (some (.ref fd22)))
    (ld22 : K.lookup fd22 = some ⟨ocd22, odd22, .func (PySem.W.fnOf "answer" "answer" (defArgs (topS 43)) (defBody (topS 43)) (defScope (topS 43)) .none kVd22 dcd22 pmd22 and22 cdd22 ctd22), sld22⟩)
    (cd22 : PySem.W.codeIn K cdd22 "answer" = true)
    (kd22 : PySem.W.keepIn K (.ref fd22) = true)
    {fd23 : Addr} {odd23 and23 : Option Addr} {sld23 : Array (Option Value)} {ocd23 kVd23 dcd23 pmd23 cdd23 ctd23 : Value}
    (ad23 : PySem.W.nsIn K mainGlobals "answer_all" = some (some (.ref fd23)))
    (ld23 : K.lookup fd23 = some ⟨ocd23, odd23, .func (PySem.W.fnOf "answer_all" "answer_all" (defArgs (topS 44)) (defBody (topS 44)) (defScope (topS 44)) .none kVd23 dcd23 pmd23 and23 cdd23 ctd23), sld23⟩)
    (cd23 : PySem.W.codeIn K cdd23 "answer_all" = true)
    (kd23 : PySem.W.keepIn K (.ref fd23) = true)
    {fd24 : Addr} {odd24 and24 : Option Addr} {sld24 : Array (Option Value)} {ocd24 kVd24 dcd24 pmd24 cdd24 ctd24 : Value}
    (ad24 : PySem.W.nsIn K mainGlobals "_law_bag" = some (some (.ref fd24)))
    (ld24 : K.lookup fd24 = some ⟨ocd24, odd24, .func (PySem.W.fnOf "_law_bag" "_law_bag" (defArgs (topS 48)) (defBody (topS 48)) (defScope (topS 48)) .none kVd24 dcd24 pmd24 and24 cdd24 ctd24), sld24⟩)
    (cd24 : PySem.W.codeIn K cdd24 "_law_bag" = true)
    (kd24 : PySem.W.keepIn K (.ref fd24) = true)
    {fd25 : Addr} {odd25 and25 : Option Addr} {sld25 : Array (Option Value)} {ocd25 kVd25 dcd25 pmd25 cdd25 ctd25 : Value}
    (ad25 : PySem.W.nsIn K mainGlobals "_law_take" = some (some (.ref fd25)))
    (ld25 : K.lookup fd25 = some ⟨ocd25, odd25, .func (PySem.W.fnOf "_law_take" "_law_take" (defArgs (topS 49)) (defBody (topS 49)) (defScope (topS 49)) .none kVd25 dcd25 pmd25 and25 cdd25 ctd25), sld25⟩)
    (cd25 : PySem.W.codeIn K cdd25 "_law_take" = true)
    (kd25 : PySem.W.keepIn K (.ref fd25) = true)
    {fd26 : Addr} {odd26 and26 : Option Addr} {sld26 : Array (Option Value)} {ocd26 kVd26 dcd26 pmd26 cdd26 ctd26 : Value}
    (ad26 : PySem.W.nsIn K mainGlobals "_law_one" = some (some (.ref fd26)))
    (ld26 : K.lookup fd26 = some ⟨ocd26, odd26, .func (PySem.W.fnOf "_law_one" "_law_one" (defArgs (topS 50)) (defBody (topS 50)) (defScope (topS 50)) .none kVd26 dcd26 pmd26 and26 cdd26 ctd26), sld26⟩)
    (cd26 : PySem.W.codeIn K cdd26 "_law_one" = true)
    (kd26 : PySem.W.keepIn K (.ref fd26) = true)
    {fd27 : Addr} {odd27 and27 : Option Addr} {sld27 : Array (Option Value)} {ocd27 kVd27 dcd27 pmd27 cdd27 ctd27 : Value}
    (ad27 : PySem.W.nsIn K mainGlobals "_law_mixed" = some (some (.ref fd27)))
    (ld27 : K.lookup fd27 = some ⟨ocd27, odd27, .func (PySem.W.fnOf "_law_mixed" "_law_mixed" (defArgs (topS 51)) (defBody (topS 51)) (defScope (topS 51)) .none kVd27 dcd27 pmd27 and27 cdd27 ctd27), sld27⟩)
    (cd27 : PySem.W.codeIn K cdd27 "_law_mixed" = true)
    (kd27 : PySem.W.keepIn K (.ref fd27) = true)
    {fd28 : Addr} {odd28 and28 : Option Addr} {sld28 : Array (Option Value)} {ocd28 kVd28 dcd28 pmd28 cdd28 ctd28 : Value}
    (ad28 : PySem.W.nsIn K mainGlobals "_law_alike" = some (some (.ref fd28)))
    (ld28 : K.lookup fd28 = some ⟨ocd28, odd28, .func (PySem.W.fnOf "_law_alike" "_law_alike" (defArgs (topS 52)) (defBody (topS 52)) (defScope (topS 52)) .none kVd28 dcd28 pmd28 and28 cdd28 ctd28), sld28⟩)
    (cd28 : PySem.W.codeIn K cdd28 "_law_alike" = true)
    (kd28 : PySem.W.keepIn K (.ref fd28) = true)
    {fd29 : Addr} {odd29 and29 : Option Addr} {sld29 : Array (Option Value)} {ocd29 kVd29 dcd29 pmd29 cdd29 ctd29 : Value}
    (ad29 : PySem.W.nsIn K mainGlobals "_law_call" = some (some (.ref fd29)))
    (ld29 : K.lookup fd29 = some ⟨ocd29, odd29, .func (PySem.W.fnOf "_law_call" "_law_call" (defArgs (topS 53)) (defBody (topS 53)) (defScope (topS 53)) .none kVd29 dcd29 pmd29 and29 cdd29 ctd29), sld29⟩)
    (cd29 : PySem.W.codeIn K cdd29 "_law_call" = true)
    (kd29 : PySem.W.keepIn K (.ref fd29) = true)
    {fd30 : Addr} {odd30 and30 : Option Addr} {sld30 : Array (Option Value)} {ocd30 kVd30 dcd30 pmd30 cdd30 ctd30 : Value}
    (ad30 : PySem.W.nsIn K mainGlobals "_law_size" = some (some (.ref fd30)))
    (ld30 : K.lookup fd30 = some ⟨ocd30, odd30, .func (PySem.W.fnOf "_law_size" "_law_size" (defArgs (topS 54)) (defBody (topS 54)) (defScope (topS 54)) .none kVd30 dcd30 pmd30 and30 cdd30 ctd30), sld30⟩)
    (cd30 : PySem.W.codeIn K cdd30 "_law_size" = true)
    (kd30 : PySem.W.keepIn K (.ref fd30) = true)
    {fd31 : Addr} {odd31 and31 : Option Addr} {sld31 : Array (Option Value)} {ocd31 kVd31 dcd31 pmd31 cdd31 ctd31 : Value}
    (ad31 : PySem.W.nsIn K mainGlobals "_law_calls" = some (some (.ref fd31)))
    (ld31 : K.lookup fd31 = some ⟨ocd31, odd31, .func (PySem.W.fnOf "_law_calls" "_law_calls" (defArgs (topS 55)) (defBody (topS 55)) (defScope (topS 55)) .none kVd31 dcd31 pmd31 and31 cdd31 ctd31), sld31⟩)
    (cd31 : PySem.W.codeIn K cdd31 "_law_calls" = true)
    (kd31 : PySem.W.keepIn K (.ref fd31) = true)
    {fd32 : Addr} {odd32 and32 : Option Addr} {sld32 : Array (Option Value)} {ocd32 kVd32 dcd32 pmd32 cdd32 ctd32 : Value}
    (ad32 : PySem.W.nsIn K mainGlobals "_law_spot" = some (some (.ref fd32)))
    (ld32 : K.lookup fd32 = some ⟨ocd32, odd32, .func (PySem.W.fnOf "_law_spot" "_law_spot" (defArgs (topS 56)) (defBody (topS 56)) (defScope (topS 56)) .none kVd32 dcd32 pmd32 and32 cdd32 ctd32), sld32⟩)
    (cd32 : PySem.W.codeIn K cdd32 "_law_spot" = true)
    (kd32 : PySem.W.keepIn K (.ref fd32) = true)
    {fd33 : Addr} {odd33 and33 : Option Addr} {sld33 : Array (Option Value)} {ocd33 kVd33 dcd33 pmd33 cdd33 ctd33 : Value}
    (ad33 : PySem.W.nsIn K mainGlobals "_law_claim" = some (some (.ref fd33)))
    (ld33 : K.lookup fd33 = some ⟨ocd33, odd33, .func (PySem.W.fnOf "_law_claim" "_law_claim" (defArgs (topS 57)) (defBody (topS 57)) (defScope (topS 57)) .none kVd33 dcd33 pmd33 and33 cdd33 ctd33), sld33⟩)
    (cd33 : PySem.W.codeIn K cdd33 "_law_claim" = true)
    (kd33 : PySem.W.keepIn K (.ref fd33) = true)
    {fd34 : Addr} {odd34 and34 : Option Addr} {sld34 : Array (Option Value)} {ocd34 kVd34 dcd34 pmd34 cdd34 ctd34 : Value}
    (ad34 : PySem.W.nsIn K mainGlobals "_law_towards" = some (some (.ref fd34)))
    (ld34 : K.lookup fd34 = some ⟨ocd34, odd34, .func (PySem.W.fnOf "_law_towards" "_law_towards" (defArgs (topS 58)) (defBody (topS 58)) (defScope (topS 58)) .none kVd34 dcd34 pmd34 and34 cdd34 ctd34), sld34⟩)
    (cd34 : PySem.W.codeIn K cdd34 "_law_towards" = true)
    (kd34 : PySem.W.keepIn K (.ref fd34) = true)
    {fd35 : Addr} {odd35 and35 : Option Addr} {sld35 : Array (Option Value)} {ocd35 kVd35 dcd35 pmd35 cdd35 ctd35 : Value}
    (ad35 : PySem.W.nsIn K mainGlobals "_law_in" = some (some (.ref fd35)))
    (ld35 : K.lookup fd35 = some ⟨ocd35, odd35, .func (PySem.W.fnOf "_law_in" "_law_in" (defArgs (topS 59)) (defBody (topS 59)) (defScope (topS 59)) .none kVd35 dcd35 pmd35 and35 cdd35 ctd35), sld35⟩)
    (cd35 : PySem.W.codeIn K cdd35 "_law_in" = true)
    (kd35 : PySem.W.keepIn K (.ref fd35) = true)
    {fd36 : Addr} {odd36 and36 : Option Addr} {sld36 : Array (Option Value)} {ocd36 kVd36 dcd36 pmd36 cdd36 ctd36 : Value}
    (ad36 : PySem.W.nsIn K mainGlobals "_law_lines_right" = some (some (.ref fd36)))
    (ld36 : K.lookup fd36 = some ⟨ocd36, odd36, .func (PySem.W.fnOf "_law_lines_right" "_law_lines_right" (defArgs (topS 60)) (defBody (topS 60)) (defScope (topS 60)) .none kVd36 dcd36 pmd36 and36 cdd36 ctd36), sld36⟩)
    (cd36 : PySem.W.codeIn K cdd36 "_law_lines_right" = true)
    (kd36 : PySem.W.keepIn K (.ref fd36) = true)
    {fd37 : Addr} {odd37 and37 : Option Addr} {sld37 : Array (Option Value)} {ocd37 kVd37 dcd37 pmd37 cdd37 ctd37 : Value}
    (ad37 : PySem.W.nsIn K mainGlobals "_law_again_right" = some (some (.ref fd37)))
    (ld37 : K.lookup fd37 = some ⟨ocd37, odd37, .func (PySem.W.fnOf "_law_again_right" "_law_again_right" (defArgs (topS 61)) (defBody (topS 61)) (defScope (topS 61)) .none kVd37 dcd37 pmd37 and37 cdd37 ctd37), sld37⟩)
    (cd37 : PySem.W.codeIn K cdd37 "_law_again_right" = true)
    (kd37 : PySem.W.keepIn K (.ref fd37) = true)
    {fd38 : Addr} {odd38 and38 : Option Addr} {sld38 : Array (Option Value)} {ocd38 kVd38 dcd38 pmd38 cdd38 ctd38 : Value}
    (ad38 : PySem.W.nsIn K mainGlobals "_law_bare_right" = some (some (.ref fd38)))
    (ld38 : K.lookup fd38 = some ⟨ocd38, odd38, .func (PySem.W.fnOf "_law_bare_right" "_law_bare_right" (defArgs (topS 62)) (defBody (topS 62)) (defScope (topS 62)) .none kVd38 dcd38 pmd38 and38 cdd38 ctd38), sld38⟩)
    (cd38 : PySem.W.codeIn K cdd38 "_law_bare_right" = true)
    (kd38 : PySem.W.keepIn K (.ref fd38) = true)
    {fd39 : Addr} {odd39 and39 : Option Addr} {sld39 : Array (Option Value)} {ocd39 kVd39 dcd39 pmd39 cdd39 ctd39 : Value}
    (ad39 : PySem.W.nsIn K mainGlobals "_law_form_right" = some (some (.ref fd39)))
    (ld39 : K.lookup fd39 = some ⟨ocd39, odd39, .func (PySem.W.fnOf "_law_form_right" "_law_form_right" (defArgs (topS 63)) (defBody (topS 63)) (defScope (topS 63)) .none kVd39 dcd39 pmd39 and39 cdd39 ctd39), sld39⟩)
    (cd39 : PySem.W.codeIn K cdd39 "_law_form_right" = true)
    (kd39 : PySem.W.keepIn K (.ref fd39) = true)
    {fmis_straight : Addr} {odmis_straight anmis_straight : Option Addr} {slmis_straight : Array (Option Value)} {ocmis_straight kVmis_straight dcmis_straight pmmis_straight cdmis_straight ctmis_straight : Value}
    (amis_straight : PySem.W.findIn K (.ref C) "is_straight" = some (some (.ref fmis_straight)))
    (imis_straight : PySem.W.isFn K (.ref fmis_straight) = true)
    (lmis_straight : K.lookup fmis_straight = some ⟨ocmis_straight, odmis_straight, .func (PySem.W.fnOf "is_straight" "Script.is_straight" (defArgs (inClass (topS 46) 8)) (defBody (inClass (topS 46) 8)) (defScope (inClass (topS 46) 8)) .none kVmis_straight dcmis_straight pmmis_straight anmis_straight cdmis_straight ctmis_straight), slmis_straight⟩)
    (cmis_straight : PySem.W.codeIn K cdmis_straight "Script.is_straight" = true)
    (kmis_straight : PySem.W.keepIn K (.ref fmis_straight) = true)
    {fpfiles : Addr} {odpfiles anpfiles : Option Addr} {slpfiles : Array (Option Value)} {ocpfiles kVpfiles dcpfiles pmpfiles cdpfiles ctpfiles : Value}
    {qpfiles : Addr} {rpfiles : List Value}
    (apfiles : PySem.W.findIn K (.ref C) "files" = some (some (.ref qpfiles)))
    (gpfiles : PySem.W.specialIn K (.ref qpfiles) "__get__" = some (some (.builtin "property.__get__")))
    (tpfiles : PySem.W.takesIn K (.ref qpfiles) = some true)
    (r0pfiles : PySem.W.recIn K qpfiles "property" = some (.ref fpfiles :: rpfiles))
    (lpfiles : K.lookup fpfiles = some ⟨ocpfiles, odpfiles, .func (PySem.W.fnOf "files" "Script.files" (defArgs (inClass (topS 46) 4)) (defBody (inClass (topS 46) 4)) (defScope (inClass (topS 46) 4)) .none kVpfiles dcpfiles pmpfiles anpfiles cdpfiles ctpfiles), slpfiles⟩)
    (cpfiles : PySem.W.codeIn K cdpfiles "Script.files" = true)
    (kpfiles : PySem.W.keepIn K (.ref fpfiles) = true)
    {fpsize : Addr} {odpsize anpsize : Option Addr} {slpsize : Array (Option Value)} {ocpsize kVpsize dcpsize pmpsize cdpsize ctpsize : Value}
    {qpsize : Addr} {rpsize : List Value}
    (apsize : PySem.W.findIn K (.ref C) "size" = some (some (.ref qpsize)))
    (gpsize : PySem.W.specialIn K (.ref qpsize) "__get__" = some (some (.builtin "property.__get__")))
    (tpsize : PySem.W.takesIn K (.ref qpsize) = some true)
    (r0psize : PySem.W.recIn K qpsize "property" = some (.ref fpsize :: rpsize))
    (lpsize : K.lookup fpsize = some ⟨ocpsize, odpsize, .func (PySem.W.fnOf "size" "Script.size" (defArgs (inClass (topS 46) 5)) (defBody (inClass (topS 46) 5)) (defScope (inClass (topS 46) 5)) .none kVpsize dcpsize pmpsize anpsize cdpsize ctpsize), slpsize⟩)
    (cpsize : PySem.W.codeIn K cdpsize "Script.size" = true)
    (kpsize : PySem.W.keepIn K (.ref fpsize) = true)
    {fslen : Addr} {odslen anslen : Option Addr} {slslen : Array (Option Value)} {ocslen kVslen dcslen pmslen cdslen ctslen : Value}
    (aslen : PySem.W.findIn K (.ref C) "__len__" = some (some (.ref fslen)))
    (islen : PySem.W.isFn K (.ref fslen) = true)
    (lslen : K.lookup fslen = some ⟨ocslen, odslen, .func (PySem.W.fnOf "__len__" "Script.__len__" (defArgs (inClass (topS 46) 2)) (defBody (inClass (topS 46) 2)) (defScope (inClass (topS 46) 2)) .none kVslen dcslen pmslen anslen cdslen ctslen), slslen⟩)
    (cslen : PySem.W.codeIn K cdslen "Script.__len__" = true)
    (kslen : PySem.W.keepIn K (.ref fslen) = true)
    {fsiter : Addr} {odsiter ansiter : Option Addr} {slsiter : Array (Option Value)} {ocsiter kVsiter dcsiter pmsiter cdsiter ctsiter : Value}
    (asiter : PySem.W.findIn K (.ref C) "__iter__" = some (some (.ref fsiter)))
    (isiter : PySem.W.isFn K (.ref fsiter) = true)
    (lsiter : K.lookup fsiter = some ⟨ocsiter, odsiter, .func (PySem.W.fnOf "__iter__" "Script.__iter__" (defArgs (inClass (topS 46) 3)) (defBody (inClass (topS 46) 3)) (defScope (inClass (topS 46) 3)) .none kVsiter dcsiter pmsiter ansiter cdsiter ctsiter), slsiter⟩)
    (csiter : PySem.W.codeIn K cdsiter "Script.__iter__" = true)
    (ksiter : PySem.W.keepIn K (.ref fsiter) = true)
    {fsinvert : Addr} {odsinvert ansinvert : Option Addr} {slsinvert : Array (Option Value)} {ocsinvert kVsinvert dcsinvert pmsinvert cdsinvert ctsinvert : Value}
    (asinvert : PySem.W.findIn K (.ref C) "__invert__" = some (some (.ref fsinvert)))
    (isinvert : PySem.W.isFn K (.ref fsinvert) = true)
    (lsinvert : K.lookup fsinvert = some ⟨ocsinvert, odsinvert, .func (PySem.W.fnOf "__invert__" "Script.__invert__" (defArgs (inClass (topS 46) 10)) (defBody (inClass (topS 46) 10)) (defScope (inClass (topS 46) 10)) .none kVsinvert dcsinvert pmsinvert ansinvert cdsinvert ctsinvert), slsinvert⟩)
    (csinvert : PySem.W.codeIn K cdsinvert "Script.__invert__" = true)
    (ksinvert : PySem.W.keepIn K (.ref fsinvert) = true)
    {finit : Addr} {odinit aninit : Option Addr} {slinit : Array (Option Value)} {ocinit kVinit dcinit pminit cdinit ctinit : Value}
    (ainit : PySem.W.findIn K (.ref C) "__init__" = some (some (.ref finit)))
    (iinit : PySem.W.isFn K (.ref finit) = true)
    (linit : K.lookup finit = some ⟨ocinit, odinit, .func (PySem.W.fnOf "__init__" "Script.__init__" (defArgs (inClass (topS 46) 0)) (defBody (inClass (topS 46) 0)) (defScope (inClass (topS 46) 0)) .none kVinit dcinit pminit aninit cdinit ctinit), slinit⟩)
    (cinit : PySem.W.codeIn K cdinit "Script.__init__" = true)
    (kinit : PySem.W.keepIn K (.ref finit) = true)
    (mk : PySem.W.makesIn K C = true)
    (kc : PySem.W.keepIn K (.ref C) = true)
    (pg : PySem.W.plainGet K C Str.empty = true)
    (hd : PySem.W.hasDictIn K C = true)
    (po : PySem.W.plainOver K C = true)
    (sa : PySem.W.findIn K (.ref C) "__setattr__" = some (some (.builtin "object.__setattr__")))
    (nW : PySem.W.findIn K (.ref C) "width" = some none)
    (nS : PySem.W.findIn K (.ref C) "steps" = some none)
    (zisi : PySem.W.nsIn K mainGlobals "isinstance" = some none)
    (zint : PySem.W.nsIn K mainGlobals "int" = some none)
    (zbool : PySem.W.nsIn K mainGlobals "bool" = some none)
    (zstr : PySem.W.nsIn K mainGlobals "str" = some none)
    (ztuple : PySem.W.nsIn K mainGlobals "tuple" = some none)
    (zlist : PySem.W.nsIn K mainGlobals "list" = some none)
    (zset : PySem.W.nsIn K mainGlobals "set" = some none)
    (zlen : PySem.W.nsIn K mainGlobals "len" = some none)
    (zall : PySem.W.nsIn K mainGlobals "all" = some none)
    (zabs : PySem.W.nsIn K mainGlobals "abs" = some none)
    (zmax : PySem.W.nsIn K mainGlobals "max" = some none)
    (zmin : PySem.W.nsIn K mainGlobals "min" = some none)
    (zsum : PySem.W.nsIn K mainGlobals "sum" = some none)
    (zrange : PySem.W.nsIn K mainGlobals "range" = some none)
    (zrepr : PySem.W.nsIn K mainGlobals "repr" = some none)
    (zsorted : PySem.W.nsIn K mainGlobals "sorted" = some none)
    (ziter : PySem.W.nsIn K mainGlobals "iter" = some none)
    {pbyNumber : Addr} {obyNumber : Option Addr} {vbyNumber : Array Value} {nbyNumber : Nat} {wbyNumber : Array (Option Value)}
    (abyNumber : PySem.W.nsIn K mainGlobals "BY_NUMBER" = some (some (.ref pbyNumber)))
    (lbyNumber : K.lookup pbyNumber = some ⟨.type "tuple", obyNumber, .seq vbyNumber nbyNumber, wbyNumber⟩)
    (vbyNumber : isStrs vbyNumber.toList ["all", "up", "wheel"] = true)
    {pends : Addr} {oends : Option Addr} {vends : Array Value} {nends : Nat} {wends : Array (Option Value)}
    (aends : PySem.W.nsIn K mainGlobals "ENDS" = some (some (.ref pends)))
    (lends : K.lookup pends = some ⟨.type "tuple", oends, .seq vends nends, wends⟩)
    (vends : isStrs vends.toList ["front", "back"] = true)
    {pbyFiles : Addr} {ebyFiles : Array DictEntry} {nbyFiles : Nat}
    (abyFiles : PySem.W.nsIn K mainGlobals "BY_FILES" = some (some (.ref pbyFiles)))
    (lbyFiles : K.lookup pbyFiles = some ⟨.type "dict", none, .dict ebyFiles nbyFiles, #[]⟩)
    (ybyFiles : PySem.W.KeysLit w.params ebyFiles.toList)
    (sbyFiles : (pbyFiles == sysModules) = false)
    {tbyFiles0 : Tok}
    (ybyFiles0 : PySem.W.nsIn K pbyFiles "all" = some (some (.int 0 tbyFiles0)))
    {tbyFiles1 : Tok}
    (ybyFiles1 : PySem.W.nsIn K pbyFiles "up" = some (some (.int 1 tbyFiles1)))
    {tbyFiles2 : Tok}
    (ybyFiles2 : PySem.W.nsIn K pbyFiles "swap" = some (some (.int 2 tbyFiles2)))
    {tbyFiles3 : Tok}
    (ybyFiles3 : PySem.W.nsIn K pbyFiles "wheel" = some (some (.int 2 tbyFiles3)))
    {tbyFiles4 : Tok}
    (ybyFiles4 : PySem.W.nsIn K pbyFiles "about" = some (some (.int 0 tbyFiles4)))
    {tbyFiles5 : Tok}
    (ybyFiles5 : PySem.W.nsIn K pbyFiles "front" = some (some (.int 2 tbyFiles5)))
    {popenCalls : Addr} {eopenCalls : Array DictEntry} {nopenCalls : Nat}
    (aopenCalls : PySem.W.nsIn K mainGlobals "OPEN_CALLS" = some (some (.ref popenCalls)))
    (lopenCalls : K.lookup popenCalls = some ⟨.type "dict", none, .dict eopenCalls nopenCalls, #[]⟩)
    (yopenCalls : PySem.W.KeysLit w.params eopenCalls.toList)
    (sopenCalls : (popenCalls == sysModules) = false)
    (nopenCalls0 : PySem.W.nsIn K popenCalls "all" = some none)
    (nopenCalls1 : PySem.W.nsIn K popenCalls "up" = some none)
    (nopenCalls2 : PySem.W.nsIn K popenCalls "swap" = some none)
    (nopenCalls3 : PySem.W.nsIn K popenCalls "wheel" = some none)
    (nopenCalls4 : PySem.W.nsIn K popenCalls "about" = some none)
    (nopenCalls5 : PySem.W.nsIn K popenCalls "front" = some none)
    {pwords : Addr} {ewords : Array DictEntry} {nwords : Nat}
    (awords : PySem.W.nsIn K mainGlobals "WORDS" = some (some (.ref pwords)))
    (lwords : K.lookup pwords = some ⟨.type "dict", none, .dict ewords nwords, #[]⟩)
    (ywords : PySem.W.KeysLit w.params ewords.toList)
    (swords : (pwords == sysModules) = false)
    {twords0 : Tok}
    (ywords0 : PySem.W.nsIn K pwords "at" = some (some (.int 2 twords0)))
    {twords1 : Tok}
    (ywords1 : PySem.W.nsIn K pwords "beside" = some (some (.int 2 twords1)))
    {twords2 : Tok}
    (ywords2 : PySem.W.nsIn K pwords "leads" = some (some (.int 1 twords2)))
    {tmostRows : Tok}
    (amostRows : PySem.W.nsIn K mainGlobals "MOST_ROWS" = some (some (.int 10 tmostRows)))
    {tmostTurns : Tok}
    (amostTurns : PySem.W.nsIn K mainGlobals "MOST_TURNS" = some (some (.int 90 tmostTurns)))
    {flaw : Addr} {odlaw anlaw : Option Addr} {sllaw : Array (Option Value)} {oclaw kVlaw dclaw pmlaw cdlaw ctlaw : Value}
    (alaw : PySem.W.nsIn K mainGlobals "law" = some (some (.ref flaw)))
    (llaw : K.lookup flaw = some ⟨oclaw, odlaw, .func (PySem.W.fnOf "law" "law" (defArgs (topS 64)) (defBody (topS 64)) (defScope (topS 64)) .none kVlaw dclaw pmlaw anlaw cdlaw ctlaw), sllaw⟩)
    (claw : PySem.W.codeIn K cdlaw "law" = true)
    (klaw : PySem.W.keepIn K (.ref flaw) = true) :
    Txt K w mg C ∧ ∃ fd : FuncData, Fun K "law" "law" (topS 64) fa fd ∧ ∀ (s : Shared) (u : Value), BindsTo s fd ⟨[u], []⟩ [("_law_script", u)] := by
  have e := hfa.symm.trans (PySem.W.mg_of X G alaw)
  cases e
  exact ⟨{
    b := ⟨PySem.W.mg_none_of X G zisi, PySem.W.mg_none_of X G zint, PySem.W.mg_none_of X G zbool, PySem.W.mg_none_of X G zstr, PySem.W.mg_none_of X G ztuple, PySem.W.mg_none_of X G zlist, PySem.W.mg_none_of X G zset, PySem.W.mg_none_of X G zlen, PySem.W.mg_none_of X G zall, PySem.W.mg_none_of X G zabs, PySem.W.mg_none_of X G zmax, PySem.W.mg_none_of X G zmin, PySem.W.mg_none_of X G zsum, PySem.W.mg_none_of X G zrange, PySem.W.mg_none_of X G zrepr, PySem.W.mg_none_of X G zsorted, PySem.W.mg_none_of X G ziter⟩
    byNumber := tup_mk X G abyNumber lbyNumber vbyNumber
    byFiles := ⟨pbyFiles, ebyFiles, nbyFiles, PySem.W.mg_of X G abyFiles, ⟨lbyFiles, ybyFiles, sbyFiles⟩, by
    intro q hq
    simp only [List.mem_cons, List.not_mem_nil, or_false] at hq
    rcases hq with rfl | rfl | rfl | rfl | rfl | rfl
    · exact ⟨_, ybyFiles0⟩
    · exact ⟨_, ybyFiles1⟩
    · exact ⟨_, ybyFiles2⟩
    · exact ⟨_, ybyFiles3⟩
    · exact ⟨_, ybyFiles4⟩
    · exact ⟨_, ybyFiles5⟩, by
    intro z hz
    simp only [List.mem_cons, List.not_mem_nil, or_false] at hz
    try exact hz.elim⟩
    openCalls := ⟨popenCalls, eopenCalls, nopenCalls, PySem.W.mg_of X G aopenCalls, ⟨lopenCalls, yopenCalls, sopenCalls⟩, by
    intro q hq
    simp only [List.mem_cons, List.not_mem_nil, or_false] at hq
    try exact hq.elim, by
    intro z hz
    simp only [List.mem_cons, List.not_mem_nil, or_false] at hz
    rcases hz with rfl | rfl | rfl | rfl | rfl | rfl
    · exact nopenCalls0
    · exact nopenCalls1
    · exact nopenCalls2
    · exact nopenCalls3
    · exact nopenCalls4
    · exact nopenCalls5⟩
    ends := tup_mk X G aends lends vends
    words := ⟨pwords, ewords, nwords, PySem.W.mg_of X G awords, ⟨lwords, ywords, swords⟩, by
    intro q hq
    simp only [List.mem_cons, List.not_mem_nil, or_false] at hq
    rcases hq with rfl | rfl | rfl
    · exact ⟨_, ywords0⟩
    · exact ⟨_, ywords1⟩
    · exact ⟨_, ywords2⟩, by
    intro z hz
    simp only [List.mem_cons, List.not_mem_nil, or_false] at hz
    try exact hz.elim⟩
    mostRows := ⟨_, PySem.W.mg_of X G amostRows⟩
    mostTurns := ⟨_, PySem.W.mg_of X G amostTurns⟩
    is_integer := def_mk (gn := "is_integer") (nm := "is_integer") (st := (topS 9)) (ps := ["thing"]) X G ad0 ld0 cd0 kd0 fun _ _ _ _ _ _ us hl => match us, hl with | [_], _ => rfl
    is_files := def_mk (gn := "is_files") (nm := "is_files") (st := (topS 10)) (ps := ["thing"]) X G ad1 ld1 cd1 kd1 fun _ _ _ _ _ _ us hl => match us, hl with | [_], _ => rfl
    is_index := def_mk (gn := "is_index") (nm := "is_index") (st := (topS 11)) (ps := ["thing", "many"]) X G ad2 ld2 cd2 kd2 fun _ _ _ _ _ _ us hl => match us, hl with | [_, _], _ => rfl
    is_call := def_mk (gn := "is_call") (nm := "is_call") (st := (topS 16)) (ps := ["files", "thing"]) X G ad3 ld3 cd3 kd3 fun _ _ _ _ _ _ us hl => match us, hl with | [_, _], _ => rfl
    is_straight := def_mk (gn := "is_straight_calls") (nm := "is_straight") (st := (topS 17)) (ps := ["call"]) X G ad4 ld4 cd4 kd4 fun _ _ _ _ _ _ us hl => match us, hl with | [_], _ => rfl
    size_of := def_mk (gn := "size_of") (nm := "size_of") (st := (topS 19)) (ps := ["call"]) X G ad5 ld5 cd5 kd5 fun _ _ _ _ _ _ us hl => match us, hl with | [_], _ => rfl
    turned := def_mk (gn := "turned") (nm := "turned") (st := (topS 20)) (ps := ["call"]) X G ad6 ld6 cd6 kd6 fun _ _ _ _ _ _ us hl => match us, hl with | [_], _ => rfl
    on_wheel := def_mk (gn := "on_wheel") (nm := "on_wheel") (st := (topS 21)) (ps := ["call", "rows", "place"]) X G ad7 ld7 cd7 kd7 fun _ _ _ _ _ _ us hl => match us, hl with | [_, _, _], _ => rfl
    moved_by := def_mk (gn := "moved_by") (nm := "moved_by") (st := (topS 23)) (ps := ["call", "files", "rows", "place"]) X G ad8 ld8 cd8 kd8 fun _ _ _ _ _ _ us hl => match us, hl with | [_, _, _, _], _ => rfl
    is_place := def_mk (gn := "is_place") (nm := "is_place") (st := (topS 25)) (ps := ["files", "rows", "thing"]) X G ad9 ld9 cd9 kd9 fun _ _ _ _ _ _ us hl => match us, hl with | [_, _, _], _ => rfl
    passed := def_mk (gn := "passed") (nm := "passed") (st := (topS 26)) (ps := ["script", "rows", "place"]) X G ad10 ld10 cd10 kd10 fun _ _ _ _ _ _ us hl => match us, hl with | [_, _, _], _ => rfl
    moved := def_mk (gn := "moved") (nm := "moved") (st := (topS 27)) (ps := ["script", "rows", "place"]) X G ad11 ld11 cd11 kd11 fun _ _ _ _ _ _ us hl => match us, hl with | [_, _, _], _ => rfl
    is_spot := def_mk (gn := "is_spot") (nm := "is_spot") (st := (topS 33)) (ps := ["files", "thing"]) X G ad12 ld12 cd12 kd12 fun _ _ _ _ _ _ us hl => match us, hl with | [_, _], _ => rfl
    check_straight := def_mk (gn := "check_straight") (nm := "check_straight") (st := (topS 34)) (ps := ["script"]) X G ad13 ld13 cd13 kd13 fun _ _ _ _ _ _ us hl => match us, hl with | [_], _ => rfl
    is_claim := def_mk (gn := "is_claim") (nm := "is_claim") (st := (topS 35)) (ps := ["script", "thing"]) X G ad14 ld14 cd14 kd14 fun _ _ _ _ _ _ us hl => match us, hl with | [_, _], _ => rfl
    check_claim := def_mk (gn := "check_claim") (nm := "check_claim") (st := (topS 36)) (ps := ["script", "claim"]) X G ad15 ld15 cd15 kd15 fun _ _ _ _ _ _ us hl => match us, hl with | [_, _], _ => rfl
    place_at := def_mk (gn := "place_at") (nm := "place_at") (st := (topS 37)) (ps := ["rows", "spot"]) X G ad16 ld16 cd16 kd16 fun _ _ _ _ _ _ us hl => match us, hl with | [_, _], _ => rfl
    after := def_mk (gn := "after") (nm := "after") (st := (topS 38)) (ps := ["script", "rows", "place", "rounds"]) X G ad17 ld17 cd17 kd17 fun _ _ _ _ _ _ us hl => match us, hl with | [_, _, _, _], _ => rfl
    is_so := def_mk (gn := "is_so") (nm := "is_so") (st := (topS 39)) (ps := ["script", "rows", "claim"]) X G ad18 ld18 cd18 kd18 fun _ _ _ _ _ _ us hl => match us, hl with | [_, _, _], _ => rfl
    holds := def_mk (gn := "holds") (nm := "holds") (st := (topS 40)) (ps := ["script", "rows", "claim"]) X G ad19 ld19 cd19 kd19 fun _ _ _ _ _ _ us hl => match us, hl with | [_, _, _], _ => rfl
    settled_at := def_mk (gn := "settled_at") (nm := "settled_at") (st := (topS 41)) (ps := ["script", "claim"]) X G ad20 ld20 cd20 kd20 fun _ _ _ _ _ _ us hl => match us, hl with | [_, _], _ => rfl
    answer_of := def_mk (gn := "answer_of") (nm := "answer_of") (st := (topS 42)) (ps := ["script", "claims"]) X G ad21 ld21 cd21 kd21 fun _ _ _ _ _ _ us hl => match us, hl with | [_, _], _ => rfl
    answer := def_mk (gn := "answer") (nm := "answer") (st := (topS 43)) (ps := ["script", "claim"]) X G ad22 ld22 cd22 kd22 fun _ _ _ _ _ _ us hl => match us, hl with | [_, _], _ => rfl
    answer_all := def_mk (gn := "answer_all") (nm := "answer_all") (st := (topS 44)) (ps := ["script", "claims"]) X G ad23 ld23 cd23 kd23 fun _ _ _ _ _ _ us hl => match us, hl with | [_, _], _ => rfl
    bag := def_mk (gn := "_law_bag") (nm := "_law_bag") (st := (topS 48)) (ps := ["_law_script"]) X G ad24 ld24 cd24 kd24 fun _ _ _ _ _ _ us hl => match us, hl with | [_], _ => rfl
    take := def_mk (gn := "_law_take") (nm := "_law_take") (st := (topS 49)) (ps := ["_law_bag_here", "_law_upto"]) X G ad25 ld25 cd25 kd25 fun _ _ _ _ _ _ us hl => match us, hl with | [_, _], _ => rfl
    one := def_mk (gn := "_law_one") (nm := "_law_one") (st := (topS 50)) (ps := ["_law_bag_here", "_law_some"]) X G ad26 ld26 cd26 kd26 fun _ _ _ _ _ _ us hl => match us, hl with | [_, _], _ => rfl
    mixed := def_mk (gn := "_law_mixed") (nm := "_law_mixed") (st := (topS 51)) (ps := ["_law_bag_here", "_law_things"]) X G ad27 ld27 cd27 kd27 fun _ _ _ _ _ _ us hl => match us, hl with | [_, _], _ => rfl
    alike := def_mk (gn := "_law_alike") (nm := "_law_alike") (st := (topS 52)) (ps := ["_law_found", "_law_due"]) X G ad28 ld28 cd28 kd28 fun _ _ _ _ _ _ us hl => match us, hl with | [_, _], _ => rfl
    call := def_mk (gn := "_law_call") (nm := "_law_call") (st := (topS 53)) (ps := ["_law_bag_here", "_law_files", "_law_kinds", "_law_most"]) X G ad29 ld29 cd29 kd29 fun _ _ _ _ _ _ us hl => match us, hl with | [_, _, _, _], _ => rfl
    size := def_mk (gn := "_law_size") (nm := "_law_size") (st := (topS 54)) (ps := ["_law_calls_here"]) X G ad30 ld30 cd30 kd30 fun _ _ _ _ _ _ us hl => match us, hl with | [_], _ => rfl
    calls := def_mk (gn := "_law_calls") (nm := "_law_calls") (st := (topS 55)) (ps := ["_law_bag_here", "_law_files", "_law_many", "_law_is_open"]) X G ad31 ld31 cd31 kd31 fun _ _ _ _ _ _ us hl => match us, hl with | [_, _, _, _], _ => rfl
    spot := def_mk (gn := "_law_spot") (nm := "_law_spot") (st := (topS 56)) (ps := ["_law_bag_here", "_law_files"]) X G ad32 ld32 cd32 kd32 fun _ _ _ _ _ _ us hl => match us, hl with | [_, _], _ => rfl
    claim := def_mk (gn := "_law_claim") (nm := "_law_claim") (st := (topS 57)) (ps := ["_law_bag_here", "_law_files", "_law_calls_here"]) X G ad33 ld33 cd33 kd33 fun _ _ _ _ _ _ us hl => match us, hl with | [_, _, _], _ => rfl
    towards := def_mk (gn := "_law_towards") (nm := "_law_towards") (st := (topS 58)) (ps := ["_law_bag_here", "_law_files", "_law_most"]) X G ad34 ld34 cd34 kd34 fun _ _ _ _ _ _ us hl => match us, hl with | [_, _, _], _ => rfl
    in_ := def_mk (gn := "_law_in") (nm := "_law_in") (st := (topS 59)) (ps := ["_law_told", "_law_rows"]) X G ad35 ld35 cd35 kd35 fun _ _ _ _ _ _ us hl => match us, hl with | [_, _], _ => rfl
    lines_right := def_mk (gn := "_law_lines_right") (nm := "_law_lines_right") (st := (topS 60)) (ps := ["_law_bag_here", "_law_rule", "_law_some", "_law_told", "_law_single"]) X G ad36 ld36 cd36 kd36 fun _ _ _ _ _ _ us hl => match us, hl with | [_, _, _, _, _], _ => rfl
    again_right := def_mk (gn := "_law_again_right") (nm := "_law_again_right") (st := (topS 61)) (ps := ["_law_rule", "_law_given", "_law_told", "_law_many"]) X G ad37 ld37 cd37 kd37 fun _ _ _ _ _ _ us hl => match us, hl with | [_, _, _, _], _ => rfl
    bare_right := def_mk (gn := "_law_bare_right") (nm := "_law_bare_right") (st := (topS 62)) (ps := ["_law_bag_here", "_law_bare"]) X G ad38 ld38 cd38 kd38 fun _ _ _ _ _ _ us hl => match us, hl with | [_, _], _ => rfl
    form_right := def_mk (gn := "_law_form_right") (nm := "_law_form_right") (st := (topS 63)) (ps := ["_law_told"]) X G ad39 ld39 cd39 kd39 fun _ _ _ _ _ _ us hl => match us, hl with | [_], _ => rfl
    cl := ⟨pg, hd, po, sa⟩
    nW := nW
    nS := nS
    mgC := PySem.W.mg_of X G aC
    make := ⟨_, _, fun_mk (st := (inClass (topS 46) 0)) linit cinit kinit, ⟨mk, ainit, iinit, kc⟩, Fun.binds (ps := ["self", "files", "calls"]) (fun_mk (st := (inClass (topS 46) 0)) linit cinit kinit) fun _ _ _ _ _ _ us hl => match us, hl with | [_, _, _], _ => rfl⟩
    len_ := ⟨_, _, fun_mk (st := (inClass (topS 46) 2)) lslen cslen kslen, aslen, islen, Fun.binds (ps := ["self"]) (fun_mk (st := (inClass (topS 46) 2)) lslen cslen kslen) fun _ _ _ _ _ _ us hl => match us, hl with | [_], _ => rfl⟩
    iter_ := ⟨_, _, fun_mk (st := (inClass (topS 46) 3)) lsiter csiter ksiter, asiter, isiter, Fun.binds (ps := ["self"]) (fun_mk (st := (inClass (topS 46) 3)) lsiter csiter ksiter) fun _ _ _ _ _ _ us hl => match us, hl with | [_], _ => rfl⟩
    files := ⟨_, _, _, fun_mk (st := (inClass (topS 46) 4)) lpfiles cpfiles kpfiles, ⟨apfiles, gpfiles, tpfiles, ⟨_, r0pfiles⟩⟩, Fun.binds (ps := ["self"]) (fun_mk (st := (inClass (topS 46) 4)) lpfiles cpfiles kpfiles) fun _ _ _ _ _ _ us hl => match us, hl with | [_], _ => rfl⟩
    sizeP := ⟨_, _, _, fun_mk (st := (inClass (topS 46) 5)) lpsize cpsize kpsize, ⟨apsize, gpsize, tpsize, ⟨_, r0psize⟩⟩, Fun.binds (ps := ["self"]) (fun_mk (st := (inClass (topS 46) 5)) lpsize cpsize kpsize) fun _ _ _ _ _ _ us hl => match us, hl with | [_], _ => rfl⟩
    straight := ⟨_, _, fun_mk (st := (inClass (topS 46) 8)) lmis_straight cmis_straight kmis_straight, ⟨amis_straight, imis_straight, kmis_straight⟩, Fun.binds (ps := ["self"]) (fun_mk (st := (inClass (topS 46) 8)) lmis_straight cmis_straight kmis_straight) fun _ _ _ _ _ _ us hl => match us, hl with | [_], _ => rfl⟩
    inv_ := ⟨_, _, fun_mk (st := (inClass (topS 46) 10)) lsinvert csinvert ksinvert, asinvert, isinvert, Fun.binds (ps := ["self"]) (fun_mk (st := (inClass (topS 46) 10)) lsinvert csinvert ksinvert) fun _ _ _ _ _ _ us hl => match us, hl with | [_], _ => rfl⟩ }, _, fun_mk (st := topS 64) llaw claw klaw, fun s u => .of_eq rfl⟩
end
end PB

/-! the head of the law, from a promise that asks that nothing is being shown -/
namespace PB
open PySem PySem.Spec PyProof.Rows L2
section
variable {P : Program} {w : World} {K : PySem.W.Frag} {mg mb : Str → Option Value} {k : Nat} {fa a : Addr} {fd : FuncData} {x : Str} {s₁ : Shared} {vs : List Value} {ns : List Int}
/-- from a heap in which at most the script is tracked -/
theorem head_at (KX : K.In s₁.heap) (hns : s₁.heap.Ns mainGlobals mg) (hb : s₁.heap.Ns builtinsNs mb) (hbb : ∀ x : Str, x ≠ "__name__" → mb x = bootBuiltins x) (hlim : s₁.heap.NoLimit) (hg : s₁.gens = #[]) (ha : s₁.heap.get? a = some { cls := .type "list", data := .seq vs.toArray }) (hl : ns.length ≤ 1000) (hr : Room k callerA)
    (G : ∀ base : Heap, K.In base → base.Ns mainGlobals mg → FnG P w K mg base k fa fd [x] (spG (spLaw K))) (hbind : ∀ (s : Shared) (u : Value), BindsTo s fd ⟨[u], []⟩ [(x, u)]) {H : Hp} (only : Only H) (hS : SqL K H a (ns.map V.int)) (hok : HOk P w H s₁.heap) (alone : ∀ b, H b ≠ none → b = a) (apart : H a ≠ none → K.lookup a = none) :
    codeAny (model P w) callerA (.call (.ref fa) ⟨[.ref a], []⟩) (fun r s' => r = .ok (.ret (.bool true)) ∧ OldK s₁.heap s'.heap ∧ s'.os = s₁.os ∧ AllBare s'.gens) s₁ := by
  -- dicts are not tracked; what is not tracked is part of the base
  have dict0 : ∀ {b : Addr} {o : Obj} {es : Array DictEntry} {ep : Nat}, s₁.heap.get? b = some o → o.data = .dict es ep → H b = none := by
    intro b o es ep e d
    cases u : H b with
    | none => rfl
    | some z =>
      obtain rfl := alone b (by rw [u]; exact fun z => nomatch z)
      rw [ha] at e
      cases e
      exact nomatch (show Data.seq vs.toArray _ = Data.dict es ep from d)
  have nsB : ∀ {b : Addr} {m : Str → Option Value}, s₁.heap.Ns b m → (hidT s₁.heap H).Ns b m := fun {b m} ⟨o, es, ep, e, d, r⟩ => ⟨o, es, ep, hidT_get e (dict0 e d), d, r⟩
  have kB : K.In (hidT s₁.heap H) := by
    intro b o e
    refine hidT_get (KX b o e) ?_
    cases u : H b with
    | none => rfl
    | some z =>
      have hn : H b ≠ none := by rw [u]; exact fun z => nomatch z
      obtain rfl := alone b hn
      rw [apart hn] at e
      cases e
  obtain ⟨mc, lim1, lim2⟩ := hlim
  have env0 : Env0 P w K mg (hidT s₁.heap H) callerA [] s₁ H := ⟨rfl, ⟨kB, nsB hns, ⟨mb, nsB hb, hbb⟩, ⟨mc, nsB lim1, lim2⟩⟩, fun b o e => of_hidT e, Nat.le_of_eq (hidT_size _ _), trivial, (fun b h => by cases h), hok, .of_eq hg⟩
  refine codeAny_mono ((G _ kB (nsB hns)).run callerA [] s₁ H ⟨[.ref a], []⟩ [.ref a] [.ref a] (fun v _ => v = .bl true) E0 hr env0 (hbind s₁ (.ref a)) (.cons rfl .nil) ⟨rfl, a, ns, rfl, hS, hl, fun _ => rfl⟩) fun r s' h => ?_
  match r, h with
  | .ok (.ret u), h =>
    obtain ⟨v, H', os, bare, un, hok', rv, rfl⟩ := h
    obtain rfl : u = Value.bool true := rv
    refine ⟨rfl, OldK.of_keep fun b o e => ?_, os, bare⟩
    rcases only b with z | ⟨ob, xs, z⟩
    · exact un.keep b o e z (fun y => by cases y) (by simp)
    · obtain ⟨e1, _⟩ := hok b _ z
      obtain ⟨e2, _⟩ := hok' b _ (un.frzs b ob _ z)
      rw [e] at e1
      cases e1
      exact e2
theorem head_call (KX : K.In s₁.heap) (hns : s₁.heap.Ns mainGlobals mg) (hb : s₁.heap.Ns builtinsNs mb) (hbb : ∀ x : Str, x ≠ "__name__" → mb x = bootBuiltins x) (hlim : s₁.heap.NoLimit) (hg : s₁.gens = #[]) (ha : s₁.heap.get? a = some { cls := .type "list", data := .seq vs.toArray }) (hi : IntsAre vs ns) (hl : ns.length ≤ 1000) (hr : Room k callerA)
    (G : ∀ base : Heap, K.In base → base.Ns mainGlobals mg → FnG P w K mg base k fa fd [x] (spG (spLaw K))) (hbind : ∀ (s : Shared) (u : Value), BindsTo s fd ⟨[u], []⟩ [(x, u)]) :
    codeAny (model P w) callerA (.call (.ref fa) ⟨[.ref a], []⟩) (fun r s' => r = .ok (.ret (.bool true)) ∧ OldK s₁.heap s'.heap ∧ s'.os = s₁.os ∧ AllBare s'.gens) s₁ := by
  have rv := vals_ints hi
  have line : ns.length ≤ sizeLine := by rw [sizeLine_eq]; omega
  cases hk : K.lookup a with
  | some o =>
    -- the script is an object of the module
    have e := KX a o hk
    rw [ha] at e
    cases e
    exact head_at (H := fun _ => none) KX hns hb hbb hlim hg ha hl hr G hbind (fun _ => .inl rfl) (.inr ⟨_, vs.toArray, _, hk, rfl, rfl, rfl, by rw [List.size_toArray, hi.length]; exact line, by simpa using rv⟩) (fun b u z => (by cases z)) (fun b z => absurd rfl z) fun z => absurd rfl z
  | none =>
    let Hs : Hp := fun b => if b = a then some (.frz { cls := .type "list", data := .seq vs.toArray } (.lst (ns.map V.int))) else none
    have here : Hs a = some (.frz { cls := .type "list", data := .seq vs.toArray } (.lst (ns.map V.int))) := if_pos rfl
    have there : ∀ b, b ≠ a → Hs b = none := fun b n => if_neg n
    refine head_at (H := Hs) KX hns hb hbb hlim hg ha hl hr G hbind (fun b => ?_) (.inl (.inr ⟨_, here⟩)) (fun b u z => ?_) (fun b z => Decidable.byContradiction fun n => z (there b n)) fun _ => hk
    · by_cases e : b = a
      · rw [e]
        exact .inr ⟨_, _, here⟩
      · exact .inl (there b e)
    · by_cases e : b = a
      · subst e
        rw [here] at z
        cases z
        exact ⟨ha, by rw [List.length_map]; exact line, vs, _, rv, ha⟩
      · rw [there b e] at z
        cases z
end
theorem walkG {l : PySem.W.OpenLaw} {q : Program} {loose : List Str} {XP : (Str → Option Value) → Heap → Prop} {YP : World → Heap → Prop} {d : DefRec} {K : Params → PySem.W.Frag} (hn : l.most = some 63) (hdf : d.params.defaults = [])
    (hY : ∀ (w : World) (h : Heap), YP w h → (K w.params).In h)
    (F : ∀ (w : World) (mg : Str → Option Value) (fa : Addr) (h : Heap), (K w.params).In h → h.Ns mainGlobals mg → mg d.name = some (.ref fa) →
      ∃ C : Addr, Txt (K w.params) w mg C ∧ ∃ fd : FuncData, Fun (K w.params) "law" "law" (topS 64) fa fd ∧ ∀ (s : Shared) (u : Value), BindsTo s fd ⟨[u], []⟩ [("_law_script", u)]) :
    PySem.W.WalkO q loose XP YP l.row.toRowW d [] (fun f vs => PySem.call f vs) := by
  refine Att.attach_call hn hdf fun w s₀ s₁ mg mb fa o pm cd doc a vs ns G Y ho hd hcd hmg hobj hints hlen hg => ?_
  have KX := hY w _ Y
  obtain ⟨C, T, fd, FL, hb⟩ := F w mg fa _ KX G.T.g hmg
  exact head_call (k := 12) KX G.T.g G.T.b G.T.builtins G.T.nolimit hg hobj hints (by omega) ⟨rfl, by decide, by decide⟩ (fun base _ _ => ok_law T FL) hb
end PB
open PySem PySem.W PyProof.Rows
set_option maxRecDepth 100000 in
set_option maxHeartbeats 0 in
theorem PySem.Challenge.cw_pupilpairs_k73_whole_claims_together_holds : PySem.Challenge.rw_pupilpairs_k73_whole_claims_together.Holds := by
  w_on; o_law; k_head; (case hw => w_witness2)
  k_fill
  refine PB.walkG (l := PySem.Challenge.rw_pupilpairs_k73_whole_claims_together) rfl rfl (fun w h Y => PySem.W.kIn_of Y) ?F
  case F =>
    intro w mg fa h KX G hmg
    refine' ⟨_, PB.all_mk KX G hmg ?aC ?ad0 ?ld0 ?cd0 ?kd0 ?ad1 ?ld1 ?cd1 ?kd1 ?ad2 ?ld2 ?cd2 ?kd2 ?ad3 ?ld3 ?cd3 ?kd3 ?ad4 ?ld4 ?cd4 ?kd4 ?ad5 ?ld5 ?cd5 ?kd5 ?ad6 ?ld6 ?cd6 ?kd6 ?ad7 ?ld7 ?cd7 ?kd7 ?ad8 ?ld8 ?cd8 ?kd8 ?ad9 ?ld9 ?cd9 ?kd9 ?ad10 ?ld10 ?cd10 ?kd10 ?ad11 ?ld11 ?cd11 ?kd11 ?ad12 ?ld12 ?cd12 ?kd12 ?ad13 ?ld13 ?cd13 ?kd13 ?ad14 ?ld14 ?cd14 ?kd14 ?ad15 ?ld15 ?cd15 ?kd15 ?ad16 ?ld16 ?cd16 ?kd16 ?ad17 ?ld17 ?cd17 ?kd17 ?ad18 ?ld18 ?cd18 ?kd18 ?ad19 ?ld19 ?cd19 ?kd19 ?ad20 ?ld20 ?cd20 ?kd20 ?ad21 ?ld21 ?cd21 ?kd21 ?ad22 ?ld22 ?cd22 ?kd22 ?ad23 ?ld23 ?cd23 ?kd23 ?ad24 ?ld24 ?cd24 ?kd24 ?ad25 ?ld25 ?cd25 ?kd25 ?ad26 ?ld26 ?cd26 ?kd26 ?ad27 ?ld27 ?cd27 ?kd27 ?ad28 ?ld28 ?cd28 ?kd28 ?ad29 ?ld29 ?cd29 ?kd29 ?ad30 ?ld30 ?cd30 ?kd30 ?ad31 ?ld31 ?cd31 ?kd31 ?ad32 ?ld32 ?cd32 ?kd32 ?ad33 ?ld33 ?cd33 ?kd33 ?ad34 ?ld34 ?cd34 ?kd34 ?ad35 ?ld35 ?cd35 ?kd35 ?ad36 ?ld36 ?cd36 ?kd36 ?ad37 ?ld37 ?cd37 ?kd37 ?ad38 ?ld38 ?cd38 ?kd38 ?ad39 ?ld39 ?cd39 ?kd39 ?amis_straight ?imis_straight ?lmis_straight ?cmis_straight ?kmis_straight ?apfiles ?gpfiles ?tpfiles ?r0pfiles ?lpfiles ?cpfiles ?kpfiles ?apsize ?gpsize ?tpsize ?r0psize ?lpsize ?cpsize ?kpsize ?aslen ?islen ?lslen ?cslen ?kslen ?asiter ?isiter ?lsiter ?csiter ?ksiter ?asinvert ?isinvert ?lsinvert ?csinvert ?ksinvert ?ainit ?iinit ?linit ?cinit ?kinit ?mk ?kc ?pg ?hd ?po ?sa ?nW ?nS ?zisi ?zint ?zbool ?zstr ?ztuple ?zlist ?zset ?zlen ?zall ?zabs ?zmax ?zmin ?zsum ?zrange ?zrepr ?zsorted ?ziter ?abyNumber ?lbyNumber ?vbyNumber ?aends ?lends ?vends ?abyFiles ?lbyFiles ?ybyFiles ?sbyFiles ?ybyFiles0 ?ybyFiles1 ?ybyFiles2 ?ybyFiles3 ?ybyFiles4 ?ybyFiles5 ?aopenCalls ?lopenCalls ?yopenCalls ?sopenCalls ?nopenCalls0 ?nopenCalls1 ?nopenCalls2 ?nopenCalls3 ?nopenCalls4 ?nopenCalls5 ?awords ?lwords ?ywords ?swords ?ywords0 ?ywords1 ?ywords2 ?amostRows ?amostTurns ?alaw ?llaw ?claw ?klaw⟩
    (case aC => k_is)
    (case ad0 => k_is)
    (case ld0 => k_is)
    (case cd0 => k_is)
    (case kd0 => k_is)
    (case ad1 => k_is)
    (case ld1 => k_is)
    (case cd1 => k_is)
    (case kd1 => k_is)
    (case ad2 => k_is)
    (case ld2 => k_is)
    (case cd2 => k_is)
    (case kd2 => k_is)
    (case ad3 => k_is)
    (case ld3 => k_is)
    (case cd3 => k_is)
    (case kd3 => k_is)
    (case ad4 => k_is)
    (case ld4 => k_is)
    (case cd4 => k_is)
    (case kd4 => k_is)
    (case ad5 => k_is)
    (case ld5 => k_is)
    (case cd5 => k_is)
    (case kd5 => k_is)
    (case ad6 => k_is)
    (case ld6 => k_is)
    (case cd6 => k_is)
    (case kd6 => k_is)
    (case ad7 => k_is)
    (case ld7 => k_is)
    (case cd7 => k_is)
    (case kd7 => k_is)
    (case ad8 => k_is)
    (case ld8 => k_is)
    (case cd8 => k_is)
    (case kd8 => k_is)
    (case ad9 => k_is)
    (case ld9 => k_is)
    (case cd9 => k_is)
    (case kd9 => k_is)
    (case ad10 => k_is)
    (case ld10 => k_is)
    (case cd10 => k_is)
    (case kd10 => k_is)
    (case ad11 => k_is)
    (case ld11 => k_is)
    (case cd11 => k_is)
    (case kd11 => k_is)
    (case ad12 => k_is)
    (case ld12 => k_is)
    (case cd12 => k_is)
    (case kd12 => k_is)
    (case ad13 => k_is)
    (case ld13 => k_is)
    (case cd13 => k_is)
    (case kd13 => k_is)
    (case ad14 => k_is)
    (case ld14 => k_is)
    (case cd14 => k_is)
    (case kd14 => k_is)
    (case ad15 => k_is)
    (case ld15 => k_is)
    (case cd15 => k_is)
    (case kd15 => k_is)
    (case ad16 => k_is)
    (case ld16 => k_is)
    (case cd16 => k_is)
    (case kd16 => k_is)
    (case ad17 => k_is)
    (case ld17 => k_is)
    (case cd17 => k_is)
    (case kd17 => k_is)
    (case ad18 => k_is)
    (case ld18 => k_is)
    (case cd18 => k_is)
    (case kd18 => k_is)
    (case ad19 => k_is)
    (case ld19 => k_is)
    (case cd19 => k_is)
    (case kd19 => k_is)
    (case ad20 => k_is)
    (case ld20 => k_is)
    (case cd20 => k_is)
    (case kd20 => k_is)
    (case ad21 => k_is)
    (case ld21 => k_is)
    (case cd21 => k_is)
    (case kd21 => k_is)
    (case ad22 => k_is)
    (case ld22 => k_is)
    (case cd22 => k_is)
    (case kd22 => k_is)
    (case ad23 => k_is)
    (case ld23 => k_is)
    (case cd23 => k_is)
    (case kd23 => k_is)
    (case ad24 => k_is)
    (case ld24 => k_is)
    (case cd24 => k_is)
    (case kd24 => k_is)
    (case ad25 => k_is)
    (case ld25 => k_is)
    (case cd25 => k_is)
    (case kd25 => k_is)
    (case ad26 => k_is)
    (case ld26 => k_is)
    (case cd26 => k_is)
    (case kd26 => k_is)
    (case ad27 => k_is)
    (case ld27 => k_is)
    (case cd27 => k_is)
    (case kd27 => k_is)
    (case ad28 => k_is)
    (case ld28 => k_is)
    (case cd28 => k_is)
    (case kd28 => k_is)
    (case ad29 => k_is)
    (case ld29 => k_is)
    (case cd29 => k_is)
    (case kd29 => k_is)
    (case ad30 => k_is)
    (case ld30 => k_is)
    (case cd30 => k_is)
    (case kd30 => k_is)
    (case ad31 => k_is)
    (case ld31 => k_is)
    (case cd31 => k_is)
    (case kd31 => k_is)
    (case ad32 => k_is)
    (case ld32 => k_is)
    (case cd32 => k_is)
    (case kd32 => k_is)
    (case ad33 => k_is)
    (case ld33 => k_is)
    (case cd33 => k_is)
    (case kd33 => k_is)
    (case ad34 => k_is)
    (case ld34 => k_is)
    (case cd34 => k_is)
    (case kd34 => k_is)
    (case ad35 => k_is)
    (case ld35 => k_is)
    (case cd35 => k_is)
    (case kd35 => k_is)
    (case ad36 => k_is)
    (case ld36 => k_is)
    (case cd36 => k_is)
    (case kd36 => k_is)
    (case ad37 => k_is)
    (case ld37 => k_is)
    (case cd37 => k_is)
    (case kd37 => k_is)
    (case ad38 => k_is)
    (case ld38 => k_is)
    (case cd38 => k_is)
    (case kd38 => k_is)
    (case ad39 => k_is)
    (case ld39 => k_is)
    (case cd39 => k_is)
    (case kd39 => k_is)
    (case amis_straight => k_is)
    (case imis_straight => k_is)
    (case lmis_straight => k_is)
    (case cmis_straight => k_is)
    (case kmis_straight => k_is)
    (case apfiles => k_is)
    (case gpfiles => k_is)
    (case tpfiles => k_is)
    (case r0pfiles => k_is)
    (case lpfiles => k_is)
    (case cpfiles => k_is)
    (case kpfiles => k_is)
    (case apsize => k_is)
    (case gpsize => k_is)
    (case tpsize => k_is)
    (case r0psize => k_is)
    (case lpsize => k_is)
    (case cpsize => k_is)
    (case kpsize => k_is)
    (case aslen => k_is)
    (case islen => k_is)
    (case lslen => k_is)
    (case cslen => k_is)
    (case kslen => k_is)
    (case asiter => k_is)
    (case isiter => k_is)
    (case lsiter => k_is)
    (case csiter => k_is)
    (case ksiter => k_is)
    (case asinvert => k_is)
    (case isinvert => k_is)
    (case lsinvert => k_is)
    (case csinvert => k_is)
    (case ksinvert => k_is)
    (case ainit => k_is)
    (case iinit => k_is)
    (case linit => k_is)
    (case cinit => k_is)
    (case kinit => k_is)
    (case mk => k_is)
    (case kc => k_is)
    (case pg => k_is)
    (case hd => k_is)
    (case po => k_is)
    (case sa => k_is)
    (case nW => k_is)
    (case nS => k_is)
    (case zisi => k_is)
    (case zint => k_is)
    (case zbool => k_is)
    (case zstr => k_is)
    (case ztuple => k_is)
    (case zlist => k_is)
    (case zset => k_is)
    (case zlen => k_is)
    (case zall => k_is)
    (case zabs => k_is)
    (case zmax => k_is)
    (case zmin => k_is)
    (case zsum => k_is)
    (case zrange => k_is)
    (case zrepr => k_is)
    (case zsorted => k_is)
    (case ziter => k_is)
    (case abyNumber => k_is)
    (case lbyNumber => k_is)
    (case vbyNumber => rfl)
    (case aends => k_is)
    (case lends => k_is)
    (case vends => rfl)
    (case abyFiles => k_is)
    (case lbyFiles => k_is)
    (case ybyFiles => (repeat (first | exact True.intro | refine ⟨⟨_, _, rfl, rfl⟩, ?_⟩)))
    (case sbyFiles => rfl)
    (case ybyFiles0 => k_is)
    (case ybyFiles1 => k_is)
    (case ybyFiles2 => k_is)
    (case ybyFiles3 => k_is)
    (case ybyFiles4 => k_is)
    (case ybyFiles5 => k_is)
    (case aopenCalls => k_is)
    (case lopenCalls => k_is)
    (case yopenCalls => (repeat (first | exact True.intro | refine ⟨⟨_, _, rfl, rfl⟩, ?_⟩)))
    (case sopenCalls => rfl)
    (case nopenCalls0 => k_is)
    (case nopenCalls1 => k_is)
    (case nopenCalls2 => k_is)
    (case nopenCalls3 => k_is)
    (case nopenCalls4 => k_is)
    (case nopenCalls5 => k_is)
    (case awords => k_is)
    (case lwords => k_is)
    (case ywords => (repeat (first | exact True.intro | refine ⟨⟨_, _, rfl, rfl⟩, ?_⟩)))
    (case swords => rfl)
    (case ywords0 => k_is)
    (case ywords1 => k_is)
    (case ywords2 => k_is)
    (case amostRows => k_is)
    (case amostTurns => k_is)
    (case alaw => k_is)
    (case llaw => k_is)
    (case claw => k_is)
    (case klaw => k_is)
#print axioms PySem.Challenge.cw_pupilpairs_k73_whole_claims_together_holds
