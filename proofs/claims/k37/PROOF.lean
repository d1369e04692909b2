import PyProof.Rows.All
import Wide.All
import OpenK.AllK
import Wide.FinOn
import KE.GoesNew
import KE.GoesEnum
import KE.GoesMore
import HandS.ForMost
import HandS.Walk
import HandS.WordsExc
import HandS.Deep
import HandS.Defaults
import HandS.MakeKwOnly
import HandS.IsInst
import HandS.Conv
import HandS.Style
import HandS.TupAny
import HandS.Wide
import HandS.CallLocal
import HandS.Sort
import HandS.SortRule
import PySem.Challenge.RW_diagramtext_k37_whole_put_together
import KE.GoesZip
import KE.KDictZip
import PyProof.CollectWalk
import HandS.DictTup
import KE.KStateDown
import HandS.Base
import HandS.Call
import HandS.Ends
import HandS.More
import HandS.Words
import HandS.Head0
import HandS.Head1
import HandS.Head2
import HandS.HeadEnd
import HandS.HeadHook1
import HandS.HeadHook2
section
set_option linter.all false
namespace Dt
/-! the mathematics of problems: bounds, terms, flows -/
structure Bd where
  i : Nat
  j : Nat
  d : Int
structure Ln where
  i : Nat
  j : Nat
  w : Int
structure Bn where
  i : Nat
  j : Nat
  k : Int
  w : Int
inductive Tm where
  | ln (l : Ln)
  | bn (b : Bn)
def lnOf : Tm → Option Ln
  | .ln l => some l
  | .bn _ => none
def bnOf : Tm → Option Bn
  | .ln _ => none
  | .bn b => some b
def lines (ts : List Tm) : List Ln := ts.filterMap lnOf
def bends (ts : List Tm) : List Bn := ts.filterMap bnOf

/-! ### sums -/
theorem sum_map_add {α : Type} (f g : α → Int) : ∀ l : List α, (l.map fun x => f x + g x).sum = (l.map f).sum + (l.map g).sum
  | [] => rfl
  | x :: l => by
    simp only [List.map_cons, List.sum_cons, sum_map_add f g l]
    omega
theorem sum_map_sub {α : Type} (f g : α → Int) : ∀ l : List α, (l.map fun x => f x - g x).sum = (l.map f).sum - (l.map g).sum
  | [] => rfl
  | x :: l => by
    simp only [List.map_cons, List.sum_cons, sum_map_sub f g l]
    omega
theorem sum_nn {α : Type} (f : α → Int) : ∀ l : List α, (∀ x ∈ l, 0 ≤ f x) → 0 ≤ (l.map f).sum
  | [], _ => Int.le_refl 0
  | x :: l, h => by
    simp only [List.map_cons, List.sum_cons]
    have h1 := h x (List.mem_cons_self ..)
    have h2 := sum_nn f l fun y hy => h y (List.mem_cons_of_mem _ hy)
    omega
theorem sum_zero {α : Type} (f : α → Int) : ∀ l : List α, (∀ x ∈ l, f x = 0) → (l.map f).sum = 0
  | [], _ => rfl
  | x :: l, h => by
    simp only [List.map_cons, List.sum_cons]
    rw [h x (List.mem_cons_self ..), sum_zero f l fun y hy => h y (List.mem_cons_of_mem _ hy)]
    rfl
theorem zero_of_sum {α : Type} (f : α → Int) : ∀ l : List α, (∀ x ∈ l, 0 ≤ f x) → (l.map f).sum ≤ 0 → ∀ x ∈ l, f x = 0
  | [], _, _, x, hx => by cases hx
  | a :: l, h, e, x, hx => by
    simp only [List.map_cons, List.sum_cons] at e
    have h1 := h a (List.mem_cons_self ..)
    have h2 := sum_nn f l fun y hy => h y (List.mem_cons_of_mem _ hy)
    rcases List.mem_cons.mp hx with r | r
    · subst r
      omega
    · exact zero_of_sum f l (fun y hy => h y (List.mem_cons_of_mem _ hy)) (by omega) x r
theorem sum_mul {α : Type} (m : Int) (f : α → Int) : ∀ l : List α, (l.map fun x => m * f x).sum = m * (l.map f).sum
  | [] => by simp
  | x :: l => by
    simp only [List.map_cons, List.sum_cons, sum_mul m f l, Int.mul_add]
theorem sum_congr {α : Type} {f g : α → Int} : ∀ {l : List α}, (∀ x ∈ l, f x = g x) → (l.map f).sum = (l.map g).sum
  | [], _ => rfl
  | x :: l, h => by
    simp only [List.map_cons, List.sum_cons]
    rw [h x (List.mem_cons_self ..), sum_congr fun y hy => h y (List.mem_cons_of_mem _ hy)]
theorem sum_perm : ∀ {l₁ l₂ : List Int}, l₁.Perm l₂ → l₁.sum = l₂.sum := by
  intro l1 l2 h
  induction h with
  | nil => rfl
  | cons x _ ih => simp only [List.sum_cons, ih]
  | swap x y l =>
    simp only [List.sum_cons]
    omega
  | trans _ _ h1 h2 => exact h1.trans h2

/-! ### costs, flows -/
def mag (z : Int) : Int := if z < 0 then -z else z
theorem mag_nn (z : Int) : 0 ≤ mag z := by unfold mag; split <;> omega
def tcost (x : Nat → Int) : Tm → Int
  | .ln l => l.w * (x l.j - x l.i)
  | .bn b => b.w * mag (x b.j - x b.i - b.k)
def cost (ts : List Tm) (x : Nat → Int) : Int := (ts.map (tcost x)).sum
def sumB (bs : List Bd) (ps : List Int) (y : Nat → Int) : Int := ((bs.zip ps).map fun t => t.2 * (y t.1.j - y t.1.i)).sum
def sumT (bn : List Bn) (gs : List Int) (y : Nat → Int) : Int := ((bn.zip gs).map fun t => t.2 * (y t.1.j - y t.1.i)).sum
def sumL (ls : List Ln) (y : Nat → Int) : Int := (ls.map fun l => l.w * (y l.j - y l.i)).sum
def worthB (bs : List Bd) (ps : List Int) : Int := ((bs.zip ps).map fun t => t.2 * t.1.d).sum
def worthT (bn : List Bn) (gs : List Int) : Int := ((bn.zip gs).map fun t => t.2 * t.1.k).sum
def worth (bs : List Bd) (bn : List Bn) (ps gs : List Int) : Int := worthB bs ps + worthT bn gs
structure FlOk (bs : List Bd) (ls : List Ln) (bn : List Bn) (ps gs : List Int) : Prop where
  lp : ps.length = bs.length
  lg : gs.length = bn.length
  nn : ∀ (k : Nat) (p : Int), ps[k]? = some p → 0 ≤ p
  lim : ∀ (k : Nat) (b : Bn) (g : Int), bn[k]? = some b → gs[k]? = some g → 0 - b.w ≤ g ∧ g ≤ b.w
  bal : ∀ y : Nat → Int, sumB bs ps y + sumT bn gs y = sumL ls y
/-- a row meets the bounds -/
def BF (bs : List Bd) (x : Nat → Int) : Prop := ∀ b ∈ bs, b.d ≤ x b.j - x b.i

theorem cost_split (x : Nat → Int) : ∀ ts : List Tm, cost ts x = sumL (lines ts) x + ((bends ts).map fun b => b.w * mag (x b.j - x b.i - b.k)).sum
  | [] => rfl
  | .ln l :: ts => by
    have ih := cost_split x ts
    unfold cost at ih ⊢
    show (tcost x (.ln l) :: ts.map (tcost x)).sum = (l.w * (x l.j - x l.i) :: (lines ts).map _).sum + ((bends ts).map _).sum
    rw [List.sum_cons, List.sum_cons, ih]
    show l.w * (x l.j - x l.i) + _ = _
    unfold sumL
    omega
  | .bn b :: ts => by
    have ih := cost_split x ts
    unfold cost at ih ⊢
    show (tcost x (.bn b) :: ts.map (tcost x)).sum = sumL (lines ts) x + (b.w * mag (x b.j - x b.i - b.k) :: (bends ts).map _).sum
    rw [List.sum_cons, List.sum_cons, ih]
    show b.w * mag (x b.j - x b.i - b.k) + _ = _
    omega
def gapB (x : Nat → Int) (t : Bd × Int) : Int := t.2 * (x t.1.j - x t.1.i - t.1.d)
def gapT (x : Nat → Int) (t : Bn × Int) : Int := t.1.w * mag (x t.1.j - x t.1.i - t.1.k) + t.2 * (x t.1.j - x t.1.i - t.1.k)
theorem zip_fst {α β γ : Type} (f : α → γ) : ∀ (l : List α) (m : List β), m.length = l.length → (l.zip m).map (fun t => f t.1) = l.map f
  | [], _, _ => rfl
  | a :: l, [], h => by simp at h
  | a :: l, b :: m, h => by
    show f a :: (l.zip m).map (fun t => f t.1) = f a :: l.map f
    rw [zip_fst f l m (by simpa using h)]
theorem gap {bs : List Bd} {ts : List Tm} {ps gs : List Int} (F : FlOk bs (lines ts) (bends ts) ps gs) (x : Nat → Int) :
    cost ts x - worth bs (bends ts) ps gs = ((bs.zip ps).map (gapB x)).sum + (((bends ts).zip gs).map (gapT x)).sum := by
  have h1 : ((bs.zip ps).map (gapB x)).sum = sumB bs ps x - worthB bs ps := by
    unfold sumB worthB
    rw [← sum_map_sub]
    exact sum_congr fun t _ => by unfold gapB; rw [Int.mul_sub]
  have h2 : (((bends ts).zip gs).map (gapT x)).sum = ((bends ts).map fun b => b.w * mag (x b.j - x b.i - b.k)).sum + (sumT (bends ts) gs x - worthT (bends ts) gs) := by
    have e := zip_fst (fun b : Bn => b.w * mag (x b.j - x b.i - b.k)) (bends ts) gs F.lg
    rw [← e]
    unfold sumT worthT
    rw [← sum_map_sub, ← sum_map_add]
    exact sum_congr fun t _ => by unfold gapT; simp only [Int.mul_sub]; try omega
  rw [h1, h2, cost_split]
  have b := F.bal x
  unfold worth
  omega
theorem zip_mem {α β : Type} : ∀ {l : List α} {m : List β} {t : α × β}, t ∈ l.zip m → ∃ k : Nat, l[k]? = some t.1 ∧ m[k]? = some t.2
  | [], _, _, h => by simp at h
  | a :: l, [], _, h => by simp at h
  | a :: l, b :: m, t, h => by
    rcases List.mem_cons.mp h with r | r
    · subst r
      exact ⟨0, rfl, rfl⟩
    · obtain ⟨k, h1, h2⟩ := zip_mem r
      exact ⟨k + 1, h1, h2⟩
theorem mem_zip {α β : Type} : ∀ {l : List α} {m : List β} {k : Nat} {a : α} {b : β}, l[k]? = some a → m[k]? = some b → (a, b) ∈ l.zip m
  | [], _, _, _, _, h, _ => by simp at h
  | _ :: _, [], _, _, _, _, h => by simp at h
  | x :: l, y :: m, 0, a, b, h1, h2 => by
    have e1 : x = a := Option.some.inj h1
    have e2 : y = b := Option.some.inj h2
    subst e1 e2
    exact List.mem_cons_self ..
  | x :: l, y :: m, k + 1, a, b, h1, h2 => List.mem_cons_of_mem _ (mem_zip (k := k) h1 h2)
theorem gapT_nn {b : Bn} {g : Int} (h1 : 0 - b.w ≤ g) (h2 : g ≤ b.w) (x : Nat → Int) : 0 ≤ gapT x (b, g) := by
  unfold gapT mag
  show 0 ≤ b.w * (if x b.j - x b.i - b.k < 0 then -(x b.j - x b.i - b.k) else x b.j - x b.i - b.k) + g * (x b.j - x b.i - b.k)
  split
  · have : b.w * -(x b.j - x b.i - b.k) + g * (x b.j - x b.i - b.k) = (b.w - g) * (-(x b.j - x b.i - b.k)) := by rw [Int.sub_mul, Int.mul_neg g]; omega
    show 0 ≤ b.w * -(x b.j - x b.i - b.k) + g * (x b.j - x b.i - b.k)
    rw [this]
    exact Int.mul_nonneg (by omega) (by omega)
  · have : b.w * (x b.j - x b.i - b.k) + g * (x b.j - x b.i - b.k) = (b.w + g) * (x b.j - x b.i - b.k) := by rw [Int.add_mul]
    show 0 ≤ b.w * (x b.j - x b.i - b.k) + g * (x b.j - x b.i - b.k)
    rw [this]
    exact Int.mul_nonneg (by omega) (by omega)
/-- what it says when it is zero -/
theorem gapT_zero {b : Bn} {g : Int} (h1 : 0 - b.w ≤ g) (h2 : g ≤ b.w) {x : Nat → Int} (e : gapT x (b, g) = 0) : (g < b.w → b.k ≤ x b.j - x b.i) ∧ (0 - b.w < g → x b.j - x b.i ≤ b.k) := by
  unfold gapT mag at e
  have e' : b.w * (if x b.j - x b.i - b.k < 0 then -(x b.j - x b.i - b.k) else x b.j - x b.i - b.k) + g * (x b.j - x b.i - b.k) = 0 := e
  refine ⟨fun hg => ?_, fun hg => ?_⟩
  · apply Decidable.byContradiction
    intro hn
    rw [if_pos (show x b.j - x b.i - b.k < 0 by omega)] at e'
    have : b.w * -(x b.j - x b.i - b.k) + g * (x b.j - x b.i - b.k) = (b.w - g) * (-(x b.j - x b.i - b.k)) := by rw [Int.sub_mul, Int.mul_neg g]; omega
    rw [this] at e'
    have : 0 < (b.w - g) * (-(x b.j - x b.i - b.k)) := Int.mul_pos (by omega) (by omega)
    omega
  · apply Decidable.byContradiction
    intro hn
    rw [if_neg (show ¬ x b.j - x b.i - b.k < 0 by omega)] at e'
    have : b.w * (x b.j - x b.i - b.k) + g * (x b.j - x b.i - b.k) = (b.w + g) * (x b.j - x b.i - b.k) := by rw [Int.add_mul]
    rw [this] at e'
    have : 0 < (b.w + g) * (x b.j - x b.i - b.k) := Int.mul_pos (by omega) (by omega)
    omega
theorem gapT_of {b : Bn} {g : Int} (h1 : 0 - b.w ≤ g) (h2 : g ≤ b.w) {x : Nat → Int} (p : g < b.w → b.k ≤ x b.j - x b.i) (q : 0 - b.w < g → x b.j - x b.i ≤ b.k) : gapT x (b, g) = 0 := by
  unfold gapT mag
  show b.w * (if x b.j - x b.i - b.k < 0 then -(x b.j - x b.i - b.k) else x b.j - x b.i - b.k) + g * (x b.j - x b.i - b.k) = 0
  split
  · rename_i h
    have : g = b.w := by
      apply Decidable.byContradiction
      intro hn
      have := p (by omega)
      omega
    rw [this, Int.mul_neg]
    omega
  · rename_i h
    by_cases h0 : x b.j - x b.i - b.k = 0
    · rw [h0]; simp
    · have : g = 0 - b.w := by
        apply Decidable.byContradiction
        intro hn
        have := q (by omega)
        omega
      rw [this, Int.sub_mul]
      omega
/-- weak duality -/
theorem weak {bs : List Bd} {ts : List Tm} {ps gs : List Int} (F : FlOk bs (lines ts) (bends ts) ps gs) {x : Nat → Int} (hx : BF bs x) : worth bs (bends ts) ps gs ≤ cost ts x := by
  have e := gap F x
  have h1 : 0 ≤ ((bs.zip ps).map (gapB x)).sum := sum_nn _ _ fun t ht => by
    obtain ⟨k, e1, e2⟩ := zip_mem ht
    have := hx t.1 (List.mem_of_getElem? e1)
    exact Int.mul_nonneg (F.nn k _ e2) (by omega)
  have h2 : 0 ≤ (((bends ts).zip gs).map (gapT x)).sum := sum_nn _ _ fun t ht => by
    obtain ⟨k, e1, e2⟩ := zip_mem ht
    have := F.lim k _ _ e1 e2
    exact gapT_nn this.1 this.2 x
  omega

/-! ### residual arcs -/
structure Arc where
  u : Nat
  v : Nat
  c : Int
  most : Option Int
  kind : Nat
  ix : Nat
  sg : Int
def arcB (k : Nat) (b : Bd) (p : Int) : List Arc := ⟨b.i, b.j, 0 - b.d, none, 0, k, 1⟩ :: (if 0 < p then [⟨b.j, b.i, b.d, some p, 0, k, -1⟩] else [])
def arcT (k : Nat) (b : Bn) (g : Int) : List Arc :=
  (if g < b.w then [⟨b.i, b.j, 0 - b.k, some (b.w - g), 1, k, 1⟩] else []) ++ (if 0 - b.w < g then [⟨b.j, b.i, b.k, some (b.w + g), 1, k, -1⟩] else [])
def arcBs (bs : List Bd) (ps : List Int) (k : Nat) : List Arc := match bs[k]?, ps[k]? with
  | some b, some p => arcB k b p
  | _, _ => []
def arcTs (bn : List Bn) (gs : List Int) (k : Nat) : List Arc := match bn[k]?, gs[k]? with
  | some b, some g => arcT k b g
  | _, _ => []
def resid (bs : List Bd) (bn : List Bn) (ps gs : List Int) : List Arc := (List.range bs.length).flatMap (arcBs bs ps) ++ (List.range bn.length).flatMap (arcTs bn gs)
theorem arcBs_at {bs : List Bd} {ps : List Int} {k : Nat} {b : Bd} {p : Int} (h1 : bs[k]? = some b) (h2 : ps[k]? = some p) : arcBs bs ps k = arcB k b p := by
  unfold arcBs
  rw [h1, h2]
theorem arcTs_at {bn : List Bn} {gs : List Int} {k : Nat} {b : Bn} {g : Int} (h1 : bn[k]? = some b) (h2 : gs[k]? = some g) : arcTs bn gs k = arcT k b g := by
  unfold arcTs
  rw [h1, h2]
theorem flat_succ {α : Type} (f : Nat → List α) (n : Nat) : (List.range (n + 1)).flatMap f = (List.range n).flatMap f ++ f n := by
  rw [List.range_succ, List.flatMap_append]
  simp
theorem mem_arcBs {bs : List Bd} {ps : List Int} {k : Nat} {a : Arc} (h : a ∈ arcBs bs ps k) : ∃ b p, bs[k]? = some b ∧ ps[k]? = some p ∧ a ∈ arcB k b p := by
  unfold arcBs at h
  split at h
  · rename_i b p h1 h2
    exact ⟨b, p, h1, h2, h⟩
  · cases h
theorem mem_arcTs {bn : List Bn} {gs : List Int} {k : Nat} {a : Arc} (h : a ∈ arcTs bn gs k) : ∃ b g, bn[k]? = some b ∧ gs[k]? = some g ∧ a ∈ arcT k b g := by
  unfold arcTs at h
  split at h
  · rename_i b p h1 h2
    exact ⟨b, p, h1, h2, h⟩
  · cases h
theorem mem_arcB {k : Nat} {b : Bd} {p : Int} {a : Arc} (h : a ∈ arcB k b p) : a = ⟨b.i, b.j, 0 - b.d, none, 0, k, 1⟩ ∨ (0 < p ∧ a = ⟨b.j, b.i, b.d, some p, 0, k, -1⟩) := by
  unfold arcB at h
  rcases List.mem_cons.mp h with r | r
  · exact .inl r
  · split at r
    · rename_i hp
      exact .inr ⟨hp, by simpa using r⟩
    · cases r
theorem mem_arcT {k : Nat} {b : Bn} {g : Int} {a : Arc} (h : a ∈ arcT k b g) : (g < b.w ∧ a = ⟨b.i, b.j, 0 - b.k, some (b.w - g), 1, k, 1⟩) ∨ (0 - b.w < g ∧ a = ⟨b.j, b.i, b.k, some (b.w + g), 1, k, -1⟩) := by
  unfold arcT at h
  rcases List.mem_append.mp h with r | r
  · split at r
    · rename_i hp
      exact .inl ⟨hp, by simpa using r⟩
    · cases r
  · split at r
    · rename_i hp
      exact .inr ⟨hp, by simpa using r⟩
    · cases r
theorem mem_resid {bs : List Bd} {bn : List Bn} {ps gs : List Int} {a : Arc} (h : a ∈ resid bs bn ps gs) :
    (∃ k b p, bs[k]? = some b ∧ ps[k]? = some p ∧ (a = ⟨b.i, b.j, 0 - b.d, none, 0, k, 1⟩ ∨ (0 < p ∧ a = ⟨b.j, b.i, b.d, some p, 0, k, -1⟩))) ∨
    (∃ k b g, bn[k]? = some b ∧ gs[k]? = some g ∧ ((g < b.w ∧ a = ⟨b.i, b.j, 0 - b.k, some (b.w - g), 1, k, 1⟩) ∨ (0 - b.w < g ∧ a = ⟨b.j, b.i, b.k, some (b.w + g), 1, k, -1⟩))) := by
  unfold resid at h
  rcases List.mem_append.mp h with r | r
  · obtain ⟨k, _, hk⟩ := List.mem_flatMap.mp r
    obtain ⟨b, p, h1, h2, h3⟩ := mem_arcBs hk
    exact .inl ⟨k, b, p, h1, h2, mem_arcB h3⟩
  · obtain ⟨k, _, hk⟩ := List.mem_flatMap.mp r
    obtain ⟨b, p, h1, h2, h3⟩ := mem_arcTs hk
    exact .inr ⟨k, b, p, h1, h2, mem_arcT h3⟩
theorem resid_B {bs : List Bd} {bn : List Bn} {ps gs : List Int} {k : Nat} {b : Bd} {p : Int} (h1 : bs[k]? = some b) (h2 : ps[k]? = some p) {a : Arc} (h : a ∈ arcB k b p) : a ∈ resid bs bn ps gs := by
  unfold resid
  refine List.mem_append_left _ (List.mem_flatMap.mpr ⟨k, List.mem_range.mpr (List.getElem?_eq_some_iff.mp h1).1, ?_⟩)
  rw [arcBs_at h1 h2]
  exact h
theorem resid_T {bs : List Bd} {bn : List Bn} {ps gs : List Int} {k : Nat} {b : Bn} {g : Int} (h1 : bn[k]? = some b) (h2 : gs[k]? = some g) {a : Arc} (h : a ∈ arcT k b g) : a ∈ resid bs bn ps gs := by
  unfold resid
  refine List.mem_append_right _ (List.mem_flatMap.mpr ⟨k, List.mem_range.mpr (List.getElem?_eq_some_iff.mp h1).1, ?_⟩)
  rw [arcTs_at h1 h2]
  exact h
/-- a row satisfies the steps of arcs -/
def Sat (as : List Arc) (x : Nat → Int) : Prop := ∀ a ∈ as, x a.u + (0 - a.c) ≤ x a.v
theorem at_of_len {α β : Type} {l : List α} {m : List β} (h : m.length = l.length) {k : Nat} {a : α} (e : l[k]? = some a) : ∃ b, m[k]? = some b := by
  have := (List.getElem?_eq_some_iff.mp e).1
  exact ⟨m[k]'(by omega), List.getElem?_eq_getElem _⟩
theorem BF_of_sat {bs : List Bd} {bn : List Bn} {ps gs : List Int} (lp : ps.length = bs.length) {x : Nat → Int} (h : Sat (resid bs bn ps gs) x) : BF bs x := fun b hb => by
  obtain ⟨k, hk⟩ := List.mem_iff_getElem?.mp hb
  obtain ⟨p, hp⟩ := at_of_len lp hk
  have := h _ (resid_B (bn := bn) (gs := gs) hk hp (a := ⟨b.i, b.j, 0 - b.d, none, 0, k, 1⟩) (List.mem_cons_self ..))
  have e : x b.i + (0 - (0 - b.d)) ≤ x b.j := this
  omega
/-- complementary slackness -/
theorem sat_cost {bs : List Bd} {ts : List Tm} {ps gs : List Int} (F : FlOk bs (lines ts) (bends ts) ps gs) {x : Nat → Int} (h : Sat (resid bs (bends ts) ps gs) x) : cost ts x = worth bs (bends ts) ps gs := by
  have e := gap F x
  have hB := BF_of_sat F.lp h
  have h1 : ((bs.zip ps).map (gapB x)).sum = 0 := sum_zero _ _ fun t ht => by
    obtain ⟨k, e1, e2⟩ := zip_mem ht
    have hp := F.nn k _ e2
    have hb := hB t.1 (List.mem_of_getElem? e1)
    unfold gapB
    by_cases z : t.2 = 0
    · rw [z]; simp
    · have q := h _ (resid_B (bn := bends ts) (gs := gs) e1 e2 (a := ⟨t.1.j, t.1.i, t.1.d, some t.2, 0, k, -1⟩) (by
        unfold arcB
        rw [if_pos (by omega)]
        simp))
      have q' : x t.1.j + (0 - t.1.d) ≤ x t.1.i := q
      have : x t.1.j - x t.1.i - t.1.d = 0 := by omega
      rw [this]; simp
  have h2 : (((bends ts).zip gs).map (gapT x)).sum = 0 := sum_zero _ _ fun t ht => by
    obtain ⟨k, e1, e2⟩ := zip_mem ht
    have hl := F.lim k _ _ e1 e2
    refine gapT_of hl.1 hl.2 (fun hg => ?_) fun hg => ?_
    · have q := h _ (resid_T (bs := bs) (ps := ps) e1 e2 (a := ⟨t.1.i, t.1.j, 0 - t.1.k, some (t.1.w - t.2), 1, k, 1⟩) (by
        unfold arcT
        rw [if_pos hg]
        simp))
      have q' : x t.1.i + (0 - (0 - t.1.k)) ≤ x t.1.j := q
      omega
    · have q := h _ (resid_T (bs := bs) (ps := ps) e1 e2 (a := ⟨t.1.j, t.1.i, t.1.k, some (t.1.w + t.2), 1, k, -1⟩) (by
        unfold arcT
        rw [if_pos hg]
        simp))
      have q' : x t.1.j + (0 - t.1.k) ≤ x t.1.i := q
      omega
  omega
theorem cost_sat {bs : List Bd} {ts : List Tm} {ps gs : List Int} (F : FlOk bs (lines ts) (bends ts) ps gs) {x : Nat → Int} (hx : BF bs x) (hc : cost ts x ≤ worth bs (bends ts) ps gs) : Sat (resid bs (bends ts) ps gs) x := by
  have e := gap F x
  have n1 : ∀ t ∈ bs.zip ps, 0 ≤ gapB x t := fun t ht => by
    obtain ⟨k, e1, e2⟩ := zip_mem ht
    have := hx t.1 (List.mem_of_getElem? e1)
    exact Int.mul_nonneg (F.nn k _ e2) (by omega)
  have n2 : ∀ t ∈ (bends ts).zip gs, 0 ≤ gapT x t := fun t ht => by
    obtain ⟨k, e1, e2⟩ := zip_mem ht
    have := F.lim k _ _ e1 e2
    exact gapT_nn this.1 this.2 x
  have h1 := sum_nn _ _ n1
  have h2 := sum_nn _ _ n2
  have z1 := zero_of_sum _ _ n1 (by omega)
  have z2 := zero_of_sum _ _ n2 (by omega)
  intro a ha
  rcases mem_resid ha with ⟨k, b, p, e1, e2, r⟩ | ⟨k, b, g, e1, e2, r⟩
  · have hb := hx b (List.mem_of_getElem? e1)
    rcases r with r | ⟨hp, r⟩
    · subst r
      show x b.i + (0 - (0 - b.d)) ≤ x b.j
      omega
    · subst r
      show x b.j + (0 - b.d) ≤ x b.i
      have z := z1 _ (mem_zip e1 e2)
      unfold gapB at z
      have z' : p * (x b.j - x b.i - b.d) = 0 := z
      rcases Int.mul_eq_zero.mp z' with q | q <;> omega
  · have hl := F.lim k _ _ e1 e2
    have z := gapT_zero hl.1 hl.2 (z2 _ (mem_zip e1 e2))
    rcases r with ⟨hg, r⟩ | ⟨hg, r⟩
    · subst r
      show x b.i + (0 - (0 - b.k)) ≤ x b.j
      have := z.1 hg
      omega
    · subst r
      show x b.j + (0 - b.k) ≤ x b.i
      have := z.2 hg
      omega
end Dt
end

section
set_option linter.all false
namespace Dt
/-! augmentation along a cycle -/
def bump (l : List Int) (k : Nat) (z : Int) : List Int := l.set k (l.getD k 0 + z)
def app1 (m : Int) (s : List Int × List Int) (a : Arc) : List Int × List Int := if a.kind = 0 then (bump s.1 a.ix (a.sg * m), s.2) else (s.1, bump s.2 a.ix (a.sg * m))
def appAll (m : Int) (s : List Int × List Int) (cyc : List Arc) : List Int × List Int := cyc.foldl (app1 m) s
theorem bump_len (l : List Int) (k : Nat) (z : Int) : (bump l k z).length = l.length := by unfold bump; rw [List.length_set]
theorem bump_sum {α : Type} (F : α → Int) (z : Int) : ∀ (l : List α) (m : List Int) (k : Nat) (a : α), l[k]? = some a → m.length = l.length →
    ((l.zip (bump m k z)).map fun t => t.2 * F t.1).sum = ((l.zip m).map fun t => t.2 * F t.1).sum + z * F a
  | [], _, _, _, h, _ => by simp at h
  | _ :: _, [], _, _, _, h => by simp at h
  | x :: l, y :: m, 0, a, h, _ => by
    have e : x = a := Option.some.inj h
    subst e
    show (((x, y + z) :: l.zip m).map fun t => t.2 * F t.1).sum = (((x, y) :: l.zip m).map fun t => t.2 * F t.1).sum + z * F x
    simp only [List.map_cons, List.sum_cons, Int.add_mul]
    omega
  | x :: l, y :: m, k + 1, a, h, hl => by
    have ih := bump_sum F z l m k a (by simpa using h) (by simpa using hl)
    have e : bump (y :: m) (k + 1) z = y :: bump m k z := by simp [bump]
    rw [e]
    show (((x, y) :: l.zip (bump m k z)).map fun t => t.2 * F t.1).sum = (((x, y) :: l.zip m).map fun t => t.2 * F t.1).sum + z * F a
    simp only [List.map_cons, List.sum_cons, ih]
    omega
theorem bump_getD (l : List Int) (k j : Nat) (z : Int) (h : j < l.length) : (bump l k z).getD j 0 = l.getD j 0 + (if k = j then z else 0) := by
  unfold bump
  simp only [List.getD_eq_getElem?_getD]
  by_cases e : k = j
  · subst e
    rw [List.getElem?_set_self h, if_pos rfl]
    rfl
  · rw [List.getElem?_set_ne e, if_neg e]
    omega
/-- an arc of some bound, of some bend term -/
def ArcIn (bs : List Bd) (bn : List Bn) (a : Arc) : Prop :=
  (a.kind = 0 ∧ ∃ b, bs[a.ix]? = some b ∧ ((a.sg = 1 ∧ a.u = b.i ∧ a.v = b.j ∧ a.c = 0 - b.d) ∨ (a.sg = -1 ∧ a.u = b.j ∧ a.v = b.i ∧ a.c = b.d))) ∨
  (a.kind = 1 ∧ ∃ b, bn[a.ix]? = some b ∧ ((a.sg = 1 ∧ a.u = b.i ∧ a.v = b.j ∧ a.c = 0 - b.k) ∨ (a.sg = -1 ∧ a.u = b.j ∧ a.v = b.i ∧ a.c = b.k)))
theorem arcIn_of {bs : List Bd} {bn : List Bn} {ps gs : List Int} {a : Arc} (h : a ∈ resid bs bn ps gs) : ArcIn bs bn a := by
  rcases mem_resid h with ⟨k, b, p, e1, e2, r⟩ | ⟨k, b, g, e1, e2, r⟩
  · refine .inl ?_
    rcases r with r | ⟨_, r⟩
    · subst r
      exact ⟨rfl, b, e1, .inl ⟨rfl, rfl, rfl, rfl⟩⟩
    · subst r
      exact ⟨rfl, b, e1, .inr ⟨rfl, rfl, rfl, rfl⟩⟩
  · refine .inr ?_
    rcases r with ⟨_, r⟩ | ⟨_, r⟩
    · subst r
      exact ⟨rfl, b, e1, .inl ⟨rfl, rfl, rfl, rfl⟩⟩
    · subst r
      exact ⟨rfl, b, e1, .inr ⟨rfl, rfl, rfl, rfl⟩⟩
structure Lens (bs : List Bd) (bn : List Bn) (s : List Int × List Int) : Prop where
  p : s.1.length = bs.length
  g : s.2.length = bn.length
section
variable {bs : List Bd} {bn : List Bn}
theorem app1_len {m : Int} {s : List Int × List Int} (h : Lens bs bn s) (a : Arc) : Lens bs bn (app1 m s a) := by
  unfold app1
  split
  · exact ⟨by rw [bump_len]; exact h.p, h.g⟩
  · exact ⟨h.p, by rw [bump_len]; exact h.g⟩
theorem app1_tot {m : Int} {s : List Int × List Int} (h : Lens bs bn s) {a : Arc} (ha : ArcIn bs bn a) (y : Nat → Int) :
    sumB bs (app1 m s a).1 y + sumT bn (app1 m s a).2 y = sumB bs s.1 y + sumT bn s.2 y + m * (y a.v - y a.u) := by
  rcases ha with ⟨hk, b, hb, r⟩ | ⟨hk, b, hb, r⟩
  · have e : app1 m s a = (bump s.1 a.ix (a.sg * m), s.2) := by unfold app1; rw [if_pos hk]
    rw [e]
    have q := bump_sum (fun b : Bd => y b.j - y b.i) (a.sg * m) bs s.1 a.ix b hb h.p
    unfold sumB at q ⊢
    show ((bs.zip (bump s.1 a.ix (a.sg * m))).map fun t => t.2 * (y t.1.j - y t.1.i)).sum + sumT bn s.2 y = _
    rw [q]
    rcases r with ⟨r1, r2, r3, _⟩ | ⟨r1, r2, r3, _⟩
    · rw [r1, r2, r3, Int.one_mul]; omega
    · rw [r1, r2, r3]
      have : -1 * m * (y b.j - y b.i) = m * (y b.i - y b.j) := by
        rw [Int.mul_sub, Int.mul_sub, Int.neg_mul, Int.one_mul, Int.neg_mul, Int.neg_mul]; omega
      omega
  · have e : app1 m s a = (s.1, bump s.2 a.ix (a.sg * m)) := by unfold app1; rw [if_neg (by omega)]
    rw [e]
    have q := bump_sum (fun b : Bn => y b.j - y b.i) (a.sg * m) bn s.2 a.ix b hb h.g
    unfold sumT at q ⊢
    show sumB bs s.1 y + ((bn.zip (bump s.2 a.ix (a.sg * m))).map fun t => t.2 * (y t.1.j - y t.1.i)).sum = _
    rw [q]
    rcases r with ⟨r1, r2, r3, _⟩ | ⟨r1, r2, r3, _⟩
    · rw [r1, r2, r3, Int.one_mul]; omega
    · rw [r1, r2, r3]
      have : -1 * m * (y b.j - y b.i) = m * (y b.i - y b.j) := by
        rw [Int.mul_sub, Int.mul_sub, Int.neg_mul, Int.one_mul, Int.neg_mul, Int.neg_mul]; omega
      omega
theorem app1_wor {m : Int} {s : List Int × List Int} (h : Lens bs bn s) {a : Arc} (ha : ArcIn bs bn a) :
    worth bs bn (app1 m s a).1 (app1 m s a).2 = worth bs bn s.1 s.2 - m * a.c := by
  rcases ha with ⟨hk, b, hb, r⟩ | ⟨hk, b, hb, r⟩
  · have e : app1 m s a = (bump s.1 a.ix (a.sg * m), s.2) := by unfold app1; rw [if_pos hk]
    rw [e]
    have q := bump_sum (fun b : Bd => b.d) (a.sg * m) bs s.1 a.ix b hb h.p
    unfold worth worthB
    show ((bs.zip (bump s.1 a.ix (a.sg * m))).map fun t => t.2 * t.1.d).sum + worthT bn s.2 = _
    rw [q]
    rcases r with ⟨r1, _, _, r2⟩ | ⟨r1, _, _, r2⟩
    · rw [r1, r2, Int.one_mul, Int.mul_sub]; omega
    · rw [r1, r2, Int.neg_mul, Int.one_mul, Int.neg_mul]; omega
  · have e : app1 m s a = (s.1, bump s.2 a.ix (a.sg * m)) := by unfold app1; rw [if_neg (by omega)]
    rw [e]
    have q := bump_sum (fun b : Bn => b.k) (a.sg * m) bn s.2 a.ix b hb h.g
    unfold worth worthT
    show worthB bs s.1 + ((bn.zip (bump s.2 a.ix (a.sg * m))).map fun t => t.2 * t.1.k).sum = _
    rw [q]
    rcases r with ⟨r1, _, _, r2⟩ | ⟨r1, _, _, r2⟩
    · rw [r1, r2, Int.one_mul, Int.mul_sub]; omega
    · rw [r1, r2, Int.neg_mul, Int.one_mul, Int.neg_mul]; omega
theorem appAll_facts (m : Int) : ∀ (cyc : List Arc) (s : List Int × List Int), Lens bs bn s → (∀ a ∈ cyc, ArcIn bs bn a) →
    Lens bs bn (appAll m s cyc) ∧ (∀ y : Nat → Int, sumB bs (appAll m s cyc).1 y + sumT bn (appAll m s cyc).2 y = sumB bs s.1 y + sumT bn s.2 y + m * (cyc.map fun a => y a.v - y a.u).sum) ∧
    worth bs bn (appAll m s cyc).1 (appAll m s cyc).2 = worth bs bn s.1 s.2 - m * (cyc.map fun a => a.c).sum
  | [], s, h, _ => ⟨h, fun y => by simp [appAll], by simp [appAll]⟩
  | a :: r, s, h, hin => by
    have ha := hin a (List.mem_cons_self ..)
    obtain ⟨h1, h2, h3⟩ := appAll_facts m r (app1 m s a) (app1_len h a) fun b hb => hin b (List.mem_cons_of_mem _ hb)
    refine ⟨h1, fun y => ?_, ?_⟩
    · have q := h2 y
      have q2 := app1_tot (m := m) h ha y
      show sumB bs (appAll m (app1 m s a) r).1 y + sumT bn (appAll m (app1 m s a) r).2 y = _
      rw [q, q2]
      simp only [List.map_cons, List.sum_cons, Int.mul_add]
      omega
    · have q2 := app1_wor (m := m) h ha
      show worth bs bn (appAll m (app1 m s a) r).1 (appAll m (app1 m s a) r).2 = _
      rw [h3, q2]
      simp only [List.map_cons, List.sum_cons, Int.mul_add]
      omega
end
def net (q : Arc → Bool) (cyc : List Arc) : Int := (cyc.map fun a => if q a then a.sg else 0).sum
def isB (k : Nat) (a : Arc) : Bool := decide (a.kind = 0 ∧ a.ix = k)
def isT (k : Nat) (a : Arc) : Bool := decide (¬ a.kind = 0 ∧ a.ix = k)
theorem appAll_getB (m : Int) (k : Nat) : ∀ (cyc : List Arc) (s : List Int × List Int), k < s.1.length → (appAll m s cyc).1.getD k 0 = s.1.getD k 0 + m * net (isB k) cyc
  | [], s, _ => by simp [appAll, net]
  | a :: r, s, h => by
    have hl : k < (app1 m s a).1.length := by
      unfold app1
      split
      · rw [bump_len]; exact h
      · exact h
    have ih := appAll_getB m k r (app1 m s a) hl
    show (appAll m (app1 m s a) r).1.getD k 0 = _
    rw [ih]
    unfold net
    rw [List.map_cons, List.sum_cons, Int.mul_add]
    have e : (app1 m s a).1.getD k 0 = s.1.getD k 0 + m * (if isB k a then a.sg else 0) := by
      unfold app1 isB
      by_cases hk : a.kind = 0
      · rw [if_pos hk]
        show (bump s.1 a.ix (a.sg * m)).getD k 0 = _
        rw [bump_getD _ _ _ _ h]
        by_cases hi : a.ix = k
        · rw [if_pos hi]
          have : decide (a.kind = 0 ∧ a.ix = k) = true := decide_eq_true ⟨hk, hi⟩
          rw [if_pos this, Int.mul_comm]
        · rw [if_neg hi]
          have : ¬ decide (a.kind = 0 ∧ a.ix = k) = true := fun z => hi (of_decide_eq_true z).2
          rw [if_neg this]
          omega
      · rw [if_neg hk]
        have : ¬ decide (a.kind = 0 ∧ a.ix = k) = true := fun z => hk (of_decide_eq_true z).1
        rw [if_neg this]
        show s.1.getD k 0 = _
        omega
    rw [e]
    omega
theorem appAll_getT (m : Int) (k : Nat) : ∀ (cyc : List Arc) (s : List Int × List Int), k < s.2.length → (appAll m s cyc).2.getD k 0 = s.2.getD k 0 + m * net (isT k) cyc
  | [], s, _ => by simp [appAll, net]
  | a :: r, s, h => by
    have hl : k < (app1 m s a).2.length := by
      unfold app1
      split
      · exact h
      · rw [bump_len]; exact h
    have ih := appAll_getT m k r (app1 m s a) hl
    show (appAll m (app1 m s a) r).2.getD k 0 = _
    rw [ih]
    unfold net
    rw [List.map_cons, List.sum_cons, Int.mul_add]
    have e : (app1 m s a).2.getD k 0 = s.2.getD k 0 + m * (if isT k a then a.sg else 0) := by
      unfold app1 isT
      by_cases hk : a.kind = 0
      · rw [if_pos hk]
        have : ¬ decide (¬ a.kind = 0 ∧ a.ix = k) = true := fun z => (of_decide_eq_true z).1 hk
        rw [if_neg this]
        show s.2.getD k 0 = _
        omega
      · rw [if_neg hk]
        show (bump s.2 a.ix (a.sg * m)).getD k 0 = _
        rw [bump_getD _ _ _ _ h]
        by_cases hi : a.ix = k
        · rw [if_pos hi]
          have : decide (¬ a.kind = 0 ∧ a.ix = k) = true := decide_eq_true ⟨hk, hi⟩
          rw [if_pos this, Int.mul_comm]
        · rw [if_neg hi]
          have : ¬ decide (¬ a.kind = 0 ∧ a.ix = k) = true := fun z => hi (of_decide_eq_true z).2
          rw [if_neg this]
          omega
    rw [e]
    omega
/-- how often each arc of one bound is in a cycle -/
theorem net_small (q : Arc → Bool) (i j : Nat) : ∀ cyc : List Arc, (cyc.map fun a => a.u).Nodup → (∀ a ∈ cyc, q a = true → (a.sg = 1 ∧ a.u = i) ∨ (a.sg = -1 ∧ a.u = j)) →
    ∃ p n : Nat, net q cyc = (p : Int) - n ∧ p ≤ 1 ∧ n ≤ 1 ∧ (p = 1 → ∃ a ∈ cyc, q a = true ∧ a.sg = 1 ∧ a.u = i) ∧ (n = 1 → ∃ a ∈ cyc, q a = true ∧ a.sg = -1 ∧ a.u = j)
  | [], _, _ => ⟨0, 0, rfl, by omega, by omega, by omega, by omega⟩
  | a :: r, nd, h => by
    rw [List.map_cons, List.nodup_cons] at nd
    obtain ⟨p, n, e, hp, hn, ep, en⟩ := net_small q i j r nd.2 fun b hb => h b (List.mem_cons_of_mem _ hb)
    have up : (p = 1 → ∃ b ∈ a :: r, q b = true ∧ b.sg = 1 ∧ b.u = i) := fun z => by
      obtain ⟨b, hb, rest⟩ := ep z
      exact ⟨b, List.mem_cons_of_mem _ hb, rest⟩
    have un : (n = 1 → ∃ b ∈ a :: r, q b = true ∧ b.sg = -1 ∧ b.u = j) := fun z => by
      obtain ⟨b, hb, rest⟩ := en z
      exact ⟨b, List.mem_cons_of_mem _ hb, rest⟩
    have e2 : net q (a :: r) = (if q a then a.sg else 0) + net q r := by unfold net; rw [List.map_cons, List.sum_cons]
    by_cases hq : q a = true
    · rw [if_pos hq] at e2
      rcases h a (List.mem_cons_self ..) hq with ⟨h1, h2⟩ | ⟨h1, h2⟩
      · have p0 : p = 0 := by
          apply Decidable.byContradiction
          intro hne
          obtain ⟨b, hb, _, _, hu⟩ := ep (by omega)
          exact nd.1 (List.mem_map.mpr ⟨b, hb, by rw [hu, h2]⟩)
        exact ⟨1, n, by omega, by omega, hn, fun _ => ⟨a, List.mem_cons_self .., hq, h1, h2⟩, un⟩
      · have n0 : n = 0 := by
          apply Decidable.byContradiction
          intro hne
          obtain ⟨b, hb, _, _, hu⟩ := en (by omega)
          exact nd.1 (List.mem_map.mpr ⟨b, hb, by rw [hu, h2]⟩)
        exact ⟨p, 1, by omega, hp, by omega, up, fun _ => ⟨a, List.mem_cons_self .., hq, h1, h2⟩⟩
    · rw [if_neg hq] at e2
      exact ⟨p, n, by omega, hp, hn, up, un⟩
theorem getD_of {l : List Int} {k : Nat} {z : Int} (h : l[k]? = some z) : l.getD k 0 = z := by
  rw [List.getD_eq_getElem?_getD, h]
  rfl
theorem augment {bs : List Bd} {ls : List Ln} {bn : List Bn} {ps gs : List Int} (F : FlOk bs ls bn ps gs) {cyc : List Arc} (hin : ∀ a ∈ cyc, a ∈ resid bs bn ps gs) (nd : (cyc.map fun a => a.u).Nodup)
    (closed : ∀ y : Nat → Int, (cyc.map fun a => y a.v - y a.u).sum = 0) {m : Int} (hm : 0 < m) (lim : ∀ a ∈ cyc, ∀ t, a.most = some t → m ≤ t) :
    FlOk bs ls bn (appAll m (ps, gs) cyc).1 (appAll m (ps, gs) cyc).2 ∧ worth bs bn (appAll m (ps, gs) cyc).1 (appAll m (ps, gs) cyc).2 = worth bs bn ps gs - m * (cyc.map fun a => a.c).sum := by
  obtain ⟨h1, h2, h3⟩ := appAll_facts (bs := bs) (bn := bn) m cyc (ps, gs) ⟨F.lp, F.lg⟩ fun a ha => arcIn_of (hin a ha)
  refine ⟨⟨h1.p, h1.g, fun k p hp => ?_, fun k b g hb hg => ?_, fun y => ?_⟩, h3⟩
  · have hk : k < bs.length := by
      have := (List.getElem?_eq_some_iff.mp hp).1
      rw [h1.p] at this
      exact this
    have hkp : k < ps.length := by rw [F.lp]; exact hk
    have e := appAll_getB m k cyc (ps, gs) hkp
    rw [getD_of hp] at e
    have hp0 : ps[k]? = some ps[k] := List.getElem?_eq_getElem hkp
    have e' : p = ps[k] + m * net (isB k) cyc := by rw [e]; show ps.getD k 0 + _ = _; rw [getD_of hp0]
    have nn := F.nn k _ hp0
    have kinds : ∀ a ∈ cyc, isB k a = true → (a.sg = 1 ∧ a.u = bs[k].i) ∨ (a.sg = -1 ∧ a.u = bs[k].j) := fun a ha hq => by
      have hq' := of_decide_eq_true hq
      rcases arcIn_of (hin a ha) with ⟨_, b, hb, r⟩ | ⟨z, _⟩
      · rw [hq'.2, List.getElem?_eq_getElem hk] at hb
        have eb := Option.some.inj hb
        rw [eb]
        rcases r with r | r
        · exact .inl ⟨r.1, r.2.1⟩
        · exact .inr ⟨r.1, r.2.1⟩
      · rw [hq'.1] at z
        cases z
    obtain ⟨p1, n1, en, b1, b2, c1, c2⟩ := net_small (isB k) bs[k].i bs[k].j cyc nd kinds
    rw [en] at e'
    have n01 : n1 = 0 ∨ n1 = 1 := by omega
    have p01 : p1 = 0 ∨ p1 = 1 := by omega
    have lo : n1 = 1 → m ≤ ps[k] := fun z => by
      obtain ⟨a, ha, hq, hs, hu⟩ := c2 z
      have hq' := of_decide_eq_true hq
      rcases mem_resid (hin a ha) with ⟨k', b, p', f1, f2, r⟩ | ⟨k', b, g, f1, f2, r⟩
      · rcases r with r | ⟨_, r⟩
        · rw [r] at hs; cases hs
        · have hk' : k' = k := by have := hq'.2; rw [r] at this; exact this
          subst hk'
          rw [hp0] at f2
          have ep := Option.some.inj f2
          rw [ep]
          exact lim a ha p' (by rw [r])
      · rcases r with ⟨_, r⟩ | ⟨_, r⟩ <;> (have := hq'.1; rw [r] at this; cases this)
    rcases n01 with z | z
    · rw [z] at e'
      rcases p01 with w | w
      · rw [w] at e'; simp at e'; omega
      · rw [w] at e'; simp at e'; omega
    · have := lo z
      rw [z] at e'
      rcases p01 with w | w
      · rw [w] at e'; simp at e'; omega
      · rw [w] at e'; simp at e'; omega
  · have hk : k < gs.length := by
      have := (List.getElem?_eq_some_iff.mp hb).1
      rw [F.lg]
      exact this
    have e := appAll_getT m k cyc (ps, gs) hk
    rw [getD_of hg] at e
    have hg0 : gs[k]? = some gs[k] := List.getElem?_eq_getElem hk
    have e' : g = gs[k] + m * net (isT k) cyc := by rw [e]; show gs.getD k 0 + _ = _; rw [getD_of hg0]
    have ll := F.lim k _ _ hb hg0
    have kinds : ∀ a ∈ cyc, isT k a = true → (a.sg = 1 ∧ a.u = b.i) ∨ (a.sg = -1 ∧ a.u = b.j) := fun a ha hq => by
      have hq' := of_decide_eq_true hq
      rcases arcIn_of (hin a ha) with ⟨z, _⟩ | ⟨_, b', hb', r⟩
      · exact absurd z hq'.1
      · rw [hq'.2, hb] at hb'
        have eb := Option.some.inj hb'
        rw [eb]
        rcases r with r | r
        · exact .inl ⟨r.1, r.2.1⟩
        · exact .inr ⟨r.1, r.2.1⟩
    obtain ⟨p1, n1, en, b1, b2, c1, c2⟩ := net_small (isT k) b.i b.j cyc nd kinds
    rw [en] at e'
    have n01 : n1 = 0 ∨ n1 = 1 := by omega
    have p01 : p1 = 0 ∨ p1 = 1 := by omega
    have lo : n1 = 1 → m ≤ b.w + gs[k] := fun z => by
      obtain ⟨a, ha, hq, hs, hu⟩ := c2 z
      have hq' := of_decide_eq_true hq
      rcases mem_resid (hin a ha) with ⟨k', b', p', f1, f2, r⟩ | ⟨k', b', g', f1, f2, r⟩
      · rcases r with r | ⟨_, r⟩ <;> exact absurd (by rw [r]) hq'.1
      · rcases r with ⟨_, r⟩ | ⟨_, r⟩
        · rw [r] at hs; cases hs
        · have hk' : k' = k := by have := hq'.2; rw [r] at this; exact this
          subst hk'
          rw [hg0] at f2
          rw [hb] at f1
          have ep := Option.some.inj f2
          have eb := Option.some.inj f1
          rw [ep, eb]
          exact lim a ha _ (by rw [r])
    have hi : p1 = 1 → m ≤ b.w - gs[k] := fun z => by
      obtain ⟨a, ha, hq, hs, hu⟩ := c1 z
      have hq' := of_decide_eq_true hq
      rcases mem_resid (hin a ha) with ⟨k', b', p', f1, f2, r⟩ | ⟨k', b', g', f1, f2, r⟩
      · rcases r with r | ⟨_, r⟩ <;> exact absurd (by rw [r]) hq'.1
      · rcases r with ⟨_, r⟩ | ⟨_, r⟩
        · have hk' : k' = k := by have := hq'.2; rw [r] at this; exact this
          subst hk'
          rw [hg0] at f2
          rw [hb] at f1
          have ep := Option.some.inj f2
          have eb := Option.some.inj f1
          rw [ep, eb]
          exact lim a ha _ (by rw [r])
        · rw [r] at hs; cases hs
    rcases n01 with z | z
    · rw [z] at e'
      rcases p01 with w | w
      · rw [w] at e'; simp at e'; omega
      · have := hi w
        rw [w] at e'; simp at e'; omega
    · have := lo z
      rw [z] at e'
      rcases p01 with w | w
      · rw [w] at e'; simp at e'; omega
      · rw [w] at e'; simp at e'; omega
  · rw [h2 y, closed y, F.bal y]
    simp
/-- a cycle whose arcs are all without limit would be a ring of bounds -/
theorem has_limit {bs : List Bd} {bn : List Bn} {ps gs : List Int} {cyc : List Arc} (hin : ∀ a ∈ cyc, a ∈ resid bs bn ps gs) (closed : ∀ y : Nat → Int, (cyc.map fun a => y a.v - y a.u).sum = 0) (ne : cyc ≠ [])
    (rk : Nat → Nat) (hrk : ∀ b ∈ bs, rk b.i < rk b.j) : ∃ a ∈ cyc, ∃ t, a.most = some t := by
  apply Classical.byContradiction
  intro hno
  have pos : ∀ a ∈ cyc, 1 ≤ ((rk a.v : Nat) : Int) - ((rk a.u : Nat) : Int) := fun a ha => by
    rcases mem_resid (hin a ha) with ⟨k, b, p, f1, f2, r⟩ | ⟨k, b, g, f1, f2, r⟩
    · rcases r with r | ⟨_, r⟩
      · have := hrk b (List.mem_of_getElem? f1)
        rw [r]
        show 1 ≤ ((rk b.j : Nat) : Int) - ((rk b.i : Nat) : Int)
        omega
      · exact absurd ⟨a, ha, p, by rw [r]⟩ hno
    · rcases r with ⟨_, r⟩ | ⟨_, r⟩
      · exact absurd ⟨a, ha, _, by rw [r]⟩ hno
      · exact absurd ⟨a, ha, _, by rw [r]⟩ hno
  have c := closed fun v => (rk v : Int)
  cases cyc with
  | nil => exact ne rfl
  | cons a r =>
    simp only [List.map_cons, List.sum_cons] at c
    have h1 := pos a (List.mem_cons_self ..)
    have h2 := sum_nn (fun a : Arc => ((rk a.v : Nat) : Int) - ((rk a.u : Nat) : Int)) r fun b hb => by
      have := pos b (List.mem_cons_of_mem _ hb)
      omega
    omega
theorem most_pos {bs : List Bd} {bn : List Bn} {ps gs : List Int} {a : Arc} (h : a ∈ resid bs bn ps gs) {t : Int} (e : a.most = some t) : 0 < t := by
  rcases mem_resid h with ⟨k, b, p, f1, f2, r⟩ | ⟨k, b, g, f1, f2, r⟩
  · rcases r with r | ⟨hp, r⟩
    · rw [r] at e; cases e
    · rw [r] at e; cases e; exact hp
  · rcases r with ⟨hp, r⟩ | ⟨hp, r⟩
    · rw [r] at e; cases e; omega
    · rw [r] at e; cases e; omega
end Dt
end

section
set_option linter.all false
namespace Dt
/-! walks of least cost -/
structure Rows (n : Nat) (arcs : List Arc) (C : Nat → Nat → Option Int) (L : Nat → Nat → Option Arc) : Prop where
  zero : ∀ v, v < n → C 0 v = some 0
  relax : ∀ k, k < n → ∀ a ∈ arcs, ∀ x, C k a.u = some x → ∃ y, C (k + 1) a.v = some y ∧ y ≤ x + a.c
  last : ∀ k, k < n → ∀ v, v < n → ∀ y, C (k + 1) v = some y → ∃ a x, L (k + 1) v = some a ∧ a ∈ arcs ∧ a.v = v ∧ C k a.u = some x ∧ y = x + a.c
/-- arcs between nodes below n -/
def ArcsLt (n : Nat) (arcs : List Arc) : Prop := ∀ a ∈ arcs, a.u < n ∧ a.v < n
/-! the potential -/
def low (C : Nat → Nat → Option Int) (v : Nat) : Nat → Int
  | 0 => (C 0 v).getD 0
  | k + 1 => match C (k + 1) v with
    | some y => if y < low C v k then y else low C v k
    | none => low C v k
theorem low_le (C : Nat → Nat → Option Int) (v : Nat) : ∀ (K k : Nat) (y : Int), k ≤ K → C k v = some y → low C v K ≤ y
  | 0, k, y, hk, e => by
    have : k = 0 := by omega
    subst this
    unfold low
    rw [e]
    exact Int.le_refl y
  | K + 1, k, y, hk, e => by
    by_cases h : k = K + 1
    · subst h
      unfold low
      rw [e]
      show (if y < low C v K then y else low C v K) ≤ y
      split <;> omega
    · have ih := low_le C v K k y (by omega) e
      unfold low
      split
      · rename_i z hz
        split <;> omega
      · exact ih
theorem low_at (C : Nat → Nat → Option Int) (v : Nat) (h0 : ∃ z, C 0 v = some z) : ∀ K : Nat, ∃ k, k ≤ K ∧ C k v = some (low C v K)
  | 0 => by
    obtain ⟨z, hz⟩ := h0
    refine ⟨0, Nat.le_refl _, ?_⟩
    unfold low
    rw [hz]
    rfl
  | K + 1 => by
    obtain ⟨k, hk, e⟩ := low_at C v h0 K
    unfold low
    split
    · rename_i z hz
      split
      · exact ⟨K + 1, Nat.le_refl _, hz⟩
      · exact ⟨k, by omega, e⟩
    · exact ⟨k, by omega, e⟩
theorem potential {n : Nat} {arcs : List Arc} {C : Nat → Nat → Option Int} {L : Nat → Nat → Option Arc} (R : Rows n arcs C L) (lt : ArcsLt n arcs)
    (hno : ∀ v, v < n → ∀ x, C n v = some x → ∃ k y, k < n ∧ C k v = some y ∧ y ≤ x) : ∃ D : Nat → Int, ∀ a ∈ arcs, D a.v ≤ D a.u + a.c := by
  refine ⟨fun v => low C v (n - 1), fun a ha => ?_⟩
  obtain ⟨hu, hv⟩ := lt a ha
  obtain ⟨k, hk, e⟩ := low_at C a.u ⟨0, R.zero _ hu⟩ (n - 1)
  obtain ⟨y, hy, hle⟩ := R.relax k (by omega) a ha _ e
  by_cases h : k + 1 = n
  · rw [h] at hy
    obtain ⟨k', y', hk', hy', hle'⟩ := hno _ hv _ hy
    have := low_le C a.v (n - 1) k' y' (by omega) hy'
    show low C a.v (n - 1) ≤ low C a.u (n - 1) + a.c
    omega
  · have := low_le C a.v (n - 1) (k + 1) y (by omega) hy
    show low C a.v (n - 1) ≤ low C a.u (n - 1) + a.c
    omega
/-! telescopes -/
theorem tele (F : Arc → Int) : ∀ (w : List Arc) (f : Nat → Int), (∀ (k : Nat) (a : Arc), w[k]? = some a → F a = f k - f (k + 1)) → (w.map F).sum = f 0 - f w.length
  | [], f, _ => by simp
  | a :: r, f, h => by
    have h0 := h 0 a rfl
    have ih := tele F r (fun k => f (k + 1)) fun k b e => h (k + 1) b e
    simp only [List.map_cons, List.sum_cons, List.length_cons]
    rw [ih]
    omega
/-! fewer than n different nodes below n -/
theorem few : ∀ (n : Nat) (l : List Nat), l.Nodup → (∀ v ∈ l, v < n) → l.length ≤ n
  | 0, l, _, h => by
    cases l with
    | nil => exact Nat.le_refl _
    | cons a r => exact absurd (h a (List.mem_cons_self ..)) (Nat.not_lt_zero _)
  | n + 1, l, nd, h => by
    have h1 : (l.erase n).Nodup := nd.erase n
    have h2 : ∀ v ∈ l.erase n, v < n := fun v hv => by
      have hm := List.mem_of_mem_erase hv
      have := h v hm
      have ne : v ≠ n := fun e => by
        subst e
        exact (List.Nodup.not_mem_erase nd) hv
      omega
    have ih := few n _ h1 h2
    by_cases hm : n ∈ l
    · have := List.length_erase_of_mem hm
      have : 0 < l.length := List.length_pos_of_mem hm
      omega
    · rw [List.erase_of_not_mem hm] at ih
      omega
/-- behind some turns of the walk back from s0: the arcs gone, the nodes seen, where it stands -/
structure WInv (n : Nat) (arcs : List Arc) (C : Nat → Nat → Option Int) (s0 : Nat) (walk : List Arc) (seen : List Nat) (step node : Nat) : Prop where
  len : walk.length + step = n
  slen : seen.length = walk.length + 1
  nd : seen.Nodup
  lt : ∀ v ∈ seen, v < n
  hd : seen[0]? = some s0
  last : seen[walk.length]? = some node
  at_ : ∀ (k : Nat) (a : Arc), walk[k]? = some a → a ∈ arcs ∧ seen[k]? = some a.v ∧ seen[k + 1]? = some a.u ∧ ∃ x, C (n - (k + 1)) a.u = some x ∧ C (n - k) a.v = some (x + a.c)
  cur : ∃ x, C step node = some x
section
variable {n : Nat} {arcs : List Arc} {C : Nat → Nat → Option Int} {L : Nat → Nat → Option Arc} {s0 : Nat} {walk : List Arc} {seen : List Nat} {step node : Nat}
theorem WInv.step_pos (W : WInv n arcs C s0 walk seen step node) : 0 < step := by
  have h1 := few n seen W.nd W.lt
  have h2 := W.slen
  have h3 := W.len
  omega
theorem WInv.node_lt (W : WInv n arcs C s0 walk seen step node) : node < n := W.lt _ (List.mem_of_getElem? W.last)
theorem WInv.start {s0 : Nat} (h : s0 < n) {x : Int} (hx : C n s0 = some x) : WInv n arcs C s0 [] [s0] n s0 :=
  ⟨by simp, rfl, by simp, fun v hv => by simp at hv; omega, rfl, rfl, fun k a e => by simp at e, ⟨x, hx⟩⟩
/-- the arc of the next turn -/
theorem WInv.arc (W : WInv n arcs C s0 walk seen step node) (R : Rows n arcs C L) : ∃ a x, L step node = some a ∧ a ∈ arcs ∧ a.v = node ∧ C (step - 1) a.u = some x ∧ C step node = some (x + a.c) := by
  obtain ⟨y, hy⟩ := W.cur
  have hp := W.step_pos
  have hl := W.len
  have e : step - 1 + 1 = step := by omega
  obtain ⟨a, x, h1, h2, h3, h4, h5⟩ := R.last (step - 1) (by omega) node W.node_lt y (by rw [e]; exact hy)
  rw [e] at h1
  exact ⟨a, x, h1, h2, h3, h4, by rw [hy, h5]⟩
theorem snoc_at {α : Type} {l : List α} {a b : α} {k : Nat} (h : (l ++ [a])[k]? = some b) : l[k]? = some b ∨ (k = l.length ∧ b = a) := by
  by_cases hk : k < l.length
  · rw [List.getElem?_append_left hk] at h
    exact .inl h
  · have hk2 : k < (l ++ [a]).length := (List.getElem?_eq_some_iff.mp h).1
    rw [List.length_append, List.length_singleton] at hk2
    have e : k = l.length := by omega
    subst e
    rw [List.getElem?_append_right (Nat.le_refl _), Nat.sub_self] at h
    exact .inr ⟨rfl, (Option.some.inj h).symm⟩
/-- the facts of the nodes and costs along walk ++ [a] -/
theorem WInv.long (W : WInv n arcs C s0 walk seen step node) {a : Arc} {x : Int} (ha : a ∈ arcs) (hv : a.v = node) (hx : C (step - 1) a.u = some x) (hc : C step node = some (x + a.c)) :
    ∀ (k : Nat) (b : Arc), (walk ++ [a])[k]? = some b → b ∈ arcs ∧ (seen ++ [a.u])[k]? = some b.v ∧ (seen ++ [a.u])[k + 1]? = some b.u ∧ ∃ x, C (n - (k + 1)) b.u = some x ∧ C (n - k) b.v = some (x + b.c) := by
  intro k b hb
  have hs := W.slen
  have hl := W.len
  have hp := W.step_pos
  rcases snoc_at hb with h | ⟨h1, h2⟩
  · obtain ⟨h1, h2, h3, h4⟩ := W.at_ k b h
    have hk := (List.getElem?_eq_some_iff.mp h).1
    exact ⟨h1, by rw [List.getElem?_append_left (by omega)]; exact h2, by rw [List.getElem?_append_left (by omega)]; exact h3, h4⟩
  · subst h1 h2
    refine ⟨ha, ?_, ?_, x, ?_, ?_⟩
    · rw [List.getElem?_append_left (by omega), W.last, hv]
    · rw [List.getElem?_append_right (by omega)]
      have : walk.length + 1 - seen.length = 0 := by omega
      rw [this]
      rfl
    · have : n - (walk.length + 1) = step - 1 := by omega
      rw [this]
      exact hx
    · have : n - walk.length = step := by omega
      rw [this, hv]
      exact hc
theorem WInv.next (W : WInv n arcs C s0 walk seen step node) {a : Arc} {x : Int} (lt : ArcsLt n arcs) (ha : a ∈ arcs) (hv : a.v = node) (hx : C (step - 1) a.u = some x) (hc : C step node = some (x + a.c)) (hn : a.u ∉ seen) :
    WInv n arcs C s0 (walk ++ [a]) (seen ++ [a.u]) (step - 1) a.u := by
  have hs := W.slen
  have hl := W.len
  have hp := W.step_pos
  refine ⟨by rw [List.length_append, List.length_singleton]; omega, by rw [List.length_append, List.length_append, List.length_singleton, List.length_singleton]; omega, ?_, fun v hv' => ?_, ?_, ?_, W.long ha hv hx hc, ⟨x, hx⟩⟩
  · rw [List.nodup_append]
    refine ⟨W.nd, by simp, fun b hb c hc' => ?_⟩
    simp at hc'
    rw [hc']
    exact fun e => hn (by rw [← e]; exact hb)
  · rcases List.mem_append.mp hv' with h | h
    · exact W.lt v h
    · simp at h
      rw [h]
      exact (lt a ha).1
  · rw [List.getElem?_append_left (by omega)]
    exact W.hd
  · rw [List.length_append, List.length_singleton, List.getElem?_append_right (by omega)]
    have : walk.length + 1 - seen.length = 0 := by omega
    rw [this]
    rfl
/-- the walk comes to a node that it has seen: a cycle of negative cost -/
theorem WInv.cycle (W : WInv n arcs C s0 walk seen step node) (R : Rows n arcs C L) {a : Arc} {x : Int} (ha : a ∈ arcs) (hv : a.v = node) (hx : C (step - 1) a.u = some x) (hc : C step node = some (x + a.c))
    (neg : ∀ X, C n s0 = some X → ∀ k y, k < n → C k s0 = some y → X < y) {s : Nat} (hs : seen[s]? = some a.u) :
    ((walk ++ [a]).drop s) ≠ [] ∧ (∀ b ∈ (walk ++ [a]).drop s, b ∈ arcs) ∧ (((walk ++ [a]).drop s).map fun b => b.u).Nodup ∧ (∀ y : Nat → Int, (((walk ++ [a]).drop s).map fun b => y b.v - y b.u).sum = 0) ∧ (((walk ++ [a]).drop s).map fun b => b.c).sum < 0 := by
  have hsl := W.slen
  have hl := W.len
  have hp := W.step_pos
  have hsn : s < seen.length := (List.getElem?_eq_some_iff.mp hs).1
  have lg := W.long ha hv hx hc
  have hwl : (walk ++ [a]).length = walk.length + 1 := by rw [List.length_append, List.length_singleton]
  have hdl : ((walk ++ [a]).drop s).length = walk.length + 1 - s := by rw [List.length_drop, hwl]
  have nodeE : (seen ++ [a.u])[walk.length + 1]? = some a.u := by
    rw [List.getElem?_append_right (by omega)]
    have : walk.length + 1 - seen.length = 0 := by omega
    rw [this]
    rfl
  have nodeS : (seen ++ [a.u])[s]? = some a.u := by
    rw [List.getElem?_append_left hsn]
    exact hs
  refine ⟨fun e => ?_, fun b hb => ?_, ?_, fun y => ?_, ?_⟩
  · rw [e] at hdl
    simp at hdl
    omega
  · obtain ⟨k, hk⟩ := List.mem_iff_getElem?.mp (List.mem_of_mem_drop hb)
    exact (lg k b hk).1
  · have e1 : walk.map (fun b => b.u) = seen.drop 1 := by
      apply List.ext_getElem?
      intro k
      rw [List.getElem?_map, List.getElem?_drop]
      by_cases hk : k < walk.length
      · rw [List.getElem?_eq_getElem hk]
        have := (W.at_ k _ (List.getElem?_eq_getElem hk)).2.2.1
        rw [Nat.add_comm 1 k, this]
        rfl
      · rw [List.getElem?_eq_none (by omega), List.getElem?_eq_none (by omega)]
        rfl
    have e2 : ((walk ++ [a]).drop s).map (fun b => b.u) = seen.drop (s + 1) ++ [a.u] := by
      rw [List.drop_append_of_le_length (by omega), List.map_append, List.map_drop, e1, List.drop_drop, Nat.add_comm 1 s]
      rfl
    rw [e2]
    have e3 : seen.drop s = a.u :: seen.drop (s + 1) := by
      have := List.getElem?_eq_some_iff.mp hs
      rw [List.drop_eq_getElem_cons hsn, this.2]
    have nd2 : (seen.drop s).Nodup := W.nd.sublist (List.drop_sublist s seen)
    rw [e3, List.nodup_cons] at nd2
    rw [List.nodup_append]
    refine ⟨nd2.2, by simp, fun b hb c hc' => ?_⟩
    simp at hc'
    rw [hc']
    exact fun e => nd2.1 (by rw [← e]; exact hb)
  · have t := tele (fun b => y b.v - y b.u) ((walk ++ [a]).drop s) (fun k => y ((seen ++ [a.u]).getD (s + k) 0)) fun k b e => by
      rw [List.getElem?_drop] at e
      obtain ⟨_, h1, h2, _⟩ := lg _ b e
      show y b.v - y b.u = y ((seen ++ [a.u]).getD (s + k) 0) - y ((seen ++ [a.u]).getD (s + (k + 1)) 0)
      rw [List.getD_eq_getElem?_getD, List.getD_eq_getElem?_getD, h1, ← Nat.add_assoc, h2]
      rfl
    rw [t, hdl, List.getD_eq_getElem?_getD, List.getD_eq_getElem?_getD, Nat.add_zero, nodeS]
    have : s + (walk.length + 1 - s) = walk.length + 1 := by omega
    rw [this, nodeE]
    simp
  · have f : ∀ k, Int := fun k => (C (n - k) ((seen ++ [a.u]).getD k 0)).getD 0
    -- the costs along the walk
    have cost_at : ∀ (k : Nat) (b : Arc), (walk ++ [a])[k]? = some b → b.c = (C (n - k) ((seen ++ [a.u]).getD k 0)).getD 0 - (C (n - (k + 1)) ((seen ++ [a.u]).getD (k + 1) 0)).getD 0 := fun k b e => by
      obtain ⟨_, h1, h2, x', h3, h4⟩ := lg _ b e
      rw [List.getD_eq_getElem?_getD, List.getD_eq_getElem?_getD, h1, h2]
      show b.c = (C (n - k) b.v).getD 0 - (C (n - (k + 1)) b.u).getD 0
      rw [h3, h4]
      show b.c = x' + b.c - x'
      omega
    have t := tele (fun b => b.c) ((walk ++ [a]).drop s) (fun k => (C (n - (s + k)) ((seen ++ [a.u]).getD (s + k) 0)).getD 0) fun k b e => by
      rw [List.getElem?_drop] at e
      have := cost_at _ b e
      show b.c = (C (n - (s + k)) ((seen ++ [a.u]).getD (s + k) 0)).getD 0 - (C (n - (s + (k + 1))) ((seen ++ [a.u]).getD (s + (k + 1)) 0)).getD 0
      rw [← Nat.add_assoc]
      exact this
    -- the shortened walk
    have short : ∀ t : Nat, t ≤ s → ∃ y, C (step - 1 + t) ((seen ++ [a.u]).getD (s - t) 0) = some y ∧ y ≤ x + (C (n - (s - t)) ((seen ++ [a.u]).getD (s - t) 0)).getD 0 - (C (n - s) ((seen ++ [a.u]).getD s 0)).getD 0 := by
      intro t
      induction t with
      | zero =>
        intro _
        refine ⟨x, ?_, ?_⟩
        · rw [Nat.sub_zero, List.getD_eq_getElem?_getD, nodeS]
          exact hx
        · rw [Nat.sub_zero]
          omega
      | succ t ih =>
        intro ht
        obtain ⟨y, hy, hle⟩ := ih (by omega)
        have hkl : s - (t + 1) < (walk ++ [a]).length := by omega
        have eb := List.getElem?_eq_getElem hkl
        obtain ⟨hb, h1, h2, _⟩ := lg _ _ eb
        have ek : s - (t + 1) + 1 = s - t := by omega
        rw [ek] at h2
        have hc' := cost_at _ _ eb
        rw [ek] at hc'
        rw [List.getD_eq_getElem?_getD, h2] at hy
        obtain ⟨z, hz, hzle⟩ := R.relax (step - 1 + t) (by omega) _ hb y hy
        refine ⟨z, ?_, ?_⟩
        · rw [List.getD_eq_getElem?_getD, h1]
          exact hz
        · omega
    obtain ⟨y, hy, hle⟩ := short s (Nat.le_refl _)
    rw [Nat.sub_self] at hy hle
    have h00 : (seen ++ [a.u]).getD 0 0 = s0 := by
      rw [List.getD_eq_getElem?_getD, List.getElem?_append_left (by omega), W.hd]
      rfl
    rw [h00] at hy hle
    -- the cost of the whole
    have hX : ∃ X, C n s0 = some X := by
      by_cases h0 : walk.length = 0
      · have : step = n := by omega
        have e := W.last
        rw [h0, W.hd] at e
        have e' := Option.some.inj e
        rw [e', ← this]
        exact W.cur
      · have eb := List.getElem?_eq_getElem (show 0 < walk.length by omega)
        obtain ⟨_, h1, _, x', _, h4⟩ := W.at_ 0 _ eb
        rw [W.hd] at h1
        rw [← Option.some.inj h1] at h4
        exact ⟨_, h4⟩
    obtain ⟨X, hX⟩ := hX
    have hlt := neg X hX (step - 1 + s) y (by omega) hy
    have e0 : n - 0 = n := by omega
    rw [e0, hX] at hle
    have eS : (seen ++ [a.u]).getD s 0 = a.u := by rw [List.getD_eq_getElem?_getD, nodeS]; rfl
    have eE : (seen ++ [a.u]).getD (walk.length + 1) 0 = a.u := by rw [List.getD_eq_getElem?_getD, nodeE]; rfl
    have es : s + (walk.length + 1 - s) = walk.length + 1 := by omega
    have en : n - (walk.length + 1) = step - 1 := by omega
    show (((walk ++ [a]).drop s).map fun b => b.c).sum < 0
    rw [t, hdl, es, Nat.add_zero, eS, eE, en, hx]
    rw [eS] at hle
    have hle' : y ≤ x + X - (C (n - s) a.u).getD 0 := hle
    show (C (n - s) a.u).getD 0 - x < 0
    omega
end
end Dt
end

section
set_option linter.all false
namespace Dt
/-! the least row that satisfies steps -/
def rowAt (l : List Int) (v : Nat) : Int := l.getD v 0
structure RInv (n : Nat) (arcs : List Arc) (row : List Int) (found : List Int) : Prop where
  len : found.length = n
  ge : ∀ v, v < n → rowAt row v ≤ rowAt found v
  le : ∀ y : Nat → Int, (∀ v, v < n → rowAt row v ≤ y v) → Sat arcs y → ∀ v, v < n → rowAt found v ≤ y v
theorem rowAt_set (l : List Int) (k j : Nat) (z : Int) (h : k < l.length) : rowAt (l.set k z) j = if k = j then z else rowAt l j := by
  unfold rowAt
  simp only [List.getD_eq_getElem?_getD]
  by_cases e : k = j
  · subst e
    rw [List.getElem?_set_self h, if_pos rfl]
    rfl
  · rw [List.getElem?_set_ne e, if_neg e]
theorem rowAt_of {l : List Int} {v : Nat} (h : v < l.length) : l[v]? = some (rowAt l v) := by
  unfold rowAt
  rw [List.getD_eq_getElem?_getD, List.getElem?_eq_getElem h]
  rfl
theorem sum_setI : ∀ (l : List Int) (k : Nat) (z : Int), k < l.length → (l.set k z).sum = l.sum - rowAt l k + z
  | [], k, z, h => by simp at h
  | a :: r, 0, z, _ => by
    show (z :: r).sum = (a :: r).sum - a + z
    rw [List.sum_cons, List.sum_cons]
    omega
  | a :: r, k + 1, z, h => by
    have ih := sum_setI r k z (by simpa using h)
    have e : rowAt (a :: r) (k + 1) = rowAt r k := by unfold rowAt; simp
    rw [e]
    show (a :: r.set k z).sum = (a :: r).sum - rowAt r k + z
    rw [List.sum_cons, List.sum_cons, ih]
    omega
theorem RInv.start {n : Nat} {arcs : List Arc} {row : List Int} (h : row.length = n) : RInv n arcs row row := ⟨h, fun _ _ => Int.le_refl _, fun y hy _ v hv => hy v hv⟩
theorem RInv.up {n : Nat} {arcs : List Arc} {row found : List Int} (I : RInv n arcs row found) {a : Arc} (ha : a ∈ arcs) (hu : a.u < n) (hv : a.v < n) (hlt : rowAt found a.v < rowAt found a.u + (0 - a.c)) :
    RInv n arcs row (found.set a.v (rowAt found a.u + (0 - a.c))) ∧ found.sum + 1 ≤ (found.set a.v (rowAt found a.u + (0 - a.c))).sum := by
  have hl : a.v < found.length := by rw [I.len]; exact hv
  refine ⟨⟨by rw [List.length_set]; exact I.len, fun v hv' => ?_, fun y hy hs v hv' => ?_⟩, ?_⟩
  · rw [rowAt_set _ _ _ _ hl]
    have := I.ge v hv'
    split
    · rename_i e
      subst e
      omega
    · exact this
  · rw [rowAt_set _ _ _ _ hl]
    split
    · rename_i e
      subst e
      have := I.le y hy hs a.u hu
      have := hs a ha
      omega
    · exact I.le y hy hs v hv'
  · rw [sum_setI _ _ _ hl]
    omega
theorem sum_le_of : ∀ (l m : List Int), m.length = l.length → (∀ v, v < l.length → rowAt l v ≤ rowAt m v) → l.sum ≤ m.sum
  | [], [], _, _ => Int.le_refl _
  | [], _ :: _, h, _ => by simp at h
  | _ :: _, [], h, _ => by simp at h
  | a :: l, b :: m, h, hle => by
    have h0 : a ≤ b := hle 0 (by simp)
    have ih := sum_le_of l m (by simpa using h) fun v hv => by
      have := hle (v + 1) (by simpa using hv)
      unfold rowAt at this ⊢
      simpa using this
    rw [List.sum_cons, List.sum_cons]
    omega
/-- a row that is an upper bound, as a list -/
def listOf (n : Nat) (y : Nat → Int) : List Int := (List.range n).map y
theorem listOf_len (n : Nat) (y : Nat → Int) : (listOf n y).length = n := by simp [listOf]
theorem listOf_at (n : Nat) (y : Nat → Int) (v : Nat) (h : v < n) : rowAt (listOf n y) v = y v := by
  unfold rowAt listOf
  rw [List.getD_eq_getElem?_getD, List.getElem?_map, List.getElem?_range h]
  rfl
theorem RInv.bound {n : Nat} {arcs : List Arc} {row found : List Int} (I : RInv n arcs row found) {y : Nat → Int} (hy : ∀ v, v < n → rowAt row v ≤ y v) (hs : Sat arcs y) : found.sum ≤ (listOf n y).sum := by
  refine sum_le_of _ _ (by rw [listOf_len, I.len]) fun v hv => ?_
  rw [I.len] at hv
  rw [listOf_at n y v hv]
  exact I.le y hy hs v hv
theorem ext_row {n : Nat} {l m : List Int} (h1 : l.length = n) (h2 : m.length = n) (h : ∀ v, v < n → rowAt l v = rowAt m v) : l = m := by
  apply List.ext_getElem?
  intro v
  by_cases hv : v < n
  · rw [rowAt_of (by omega), rowAt_of (by omega), h v hv]
  · rw [List.getElem?_eq_none (by omega), List.getElem?_eq_none (by omega)]

/-! ### solutions -/
structure Feas (n : Nat) (bs : List Bd) (lo : Nat → Int) (x : Nat → Int) : Prop where
  bf : BF bs x
  low : ∀ v, v < n → lo v ≤ x v
structure IsSol (n : Nat) (bs : List Bd) (lo : Nat → Int) (ts : List Tm) (x : Nat → Int) : Prop where
  feas : Feas n bs lo x
  opt : ∀ y, Feas n bs lo y → cost ts x ≤ cost ts y
  least : ∀ y, Feas n bs lo y → cost ts y ≤ cost ts x → ∀ v, v < n → x v ≤ y v
theorem IsSol.eq {n : Nat} {bs : List Bd} {lo : Nat → Int} {ts : List Tm} {x y : Nat → Int} (h : IsSol n bs lo ts x) (g : IsSol n bs lo ts y) : ∀ v, v < n → x v = y v := fun v hv => by
  have h1 := h.least y g.feas (g.opt x h.feas) v hv
  have h2 := g.least x h.feas (h.opt y g.feas) v hv
  omega
theorem IsSol.cost_eq {n : Nat} {bs : List Bd} {lo : Nat → Int} {ts : List Tm} {x y : Nat → Int} (h : IsSol n bs lo ts x) (g : IsSol n bs lo ts y) : cost ts x = cost ts y := by
  have h1 := h.opt y g.feas
  have h2 := g.opt x h.feas
  omega
/-- what raised gives from the lows is the solution -/
theorem sol_of {n : Nat} {bs : List Bd} {ts : List Tm} {ps gs : List Int} (F : FlOk bs (lines ts) (bends ts) ps gs) {lo z : List Int} (I : RInv n (resid bs (bends ts) ps gs) lo z) (hs : Sat (resid bs (bends ts) ps gs) (rowAt z)) :
    IsSol n bs (rowAt lo) ts (rowAt z) := by
  have hB := BF_of_sat F.lp hs
  have hc := sat_cost F hs
  refine ⟨⟨hB, I.ge⟩, fun y hy => ?_, fun y hy hle => ?_⟩
  · have := weak F hy.bf
    omega
  · exact I.le y hy.low (cost_sat F hy.bf (by omega))
/-- the solution satisfies the steps, and its cost is the worth -/
theorem sol_sat {n : Nat} {bs : List Bd} {ts : List Tm} {ps gs : List Int} (F : FlOk bs (lines ts) (bends ts) ps gs) {lo : Nat → Int} {x : Nat → Int} (S : IsSol n bs lo ts x) {y : Nat → Int} (hy : ∀ v, v < n → lo v ≤ y v) (hs : Sat (resid bs (bends ts) ps gs) y) :
    Sat (resid bs (bends ts) ps gs) x ∧ cost ts x = worth bs (bends ts) ps gs := by
  have hc := sat_cost F hs
  have h1 := S.opt y ⟨BF_of_sat F.lp hs, hy⟩
  have h2 := weak F S.feas.bf
  exact ⟨cost_sat F S.feas.bf (by omega), by omega⟩
/-! a row from a potential -/
theorem above (f : Nat → Int) : ∀ n : Nat, ∃ K, ∀ v, v < n → f v ≤ K
  | 0 => ⟨0, fun v h => absurd h (Nat.not_lt_zero v)⟩
  | n + 1 => by
    obtain ⟨K, hK⟩ := above f n
    refine ⟨if K < f n then f n else K, fun v hv => ?_⟩
    by_cases e : v = n
    · subst e
      split <;> omega
    · have := hK v (by omega)
      split <;> omega
theorem row_of_potential {arcs : List Arc} {D : Nat → Int} (h : ∀ a ∈ arcs, D a.v ≤ D a.u + a.c) (n : Nat) (lo : Nat → Int) : ∃ y : Nat → Int, (∀ v, v < n → lo v ≤ y v) ∧ Sat arcs y := by
  obtain ⟨K, hK⟩ := above (fun v => lo v + D v) n
  refine ⟨fun v => K - D v, fun v hv => ?_, fun a ha => ?_⟩
  · have : lo v + D v ≤ K := hK v hv
    show lo v ≤ K - D v
    omega
  · have := h a ha
    show K - D a.u + (0 - a.c) ≤ K - D a.v
    omega
/-- a row that meets bounds without a ring -/
theorem row_of_rank (rk : Nat → Nat) : ∀ bs : List Bd, (∀ b ∈ bs, rk b.i < rk b.j) → ∃ M : Int, 0 ≤ M ∧ BF bs fun v => M * (rk v : Int)
  | [], _ => ⟨0, Int.le_refl _, fun b hb => by cases hb⟩
  | b :: bs, h => by
    obtain ⟨M, h0, hM⟩ := row_of_rank rk bs fun c hc => h c (List.mem_cons_of_mem _ hc)
    have up : ∀ N : Int, M ≤ N → BF bs fun v => N * (rk v : Int) := fun N hN c hc => by
      have h1 := hM c hc
      have h2 := h c (List.mem_cons_of_mem _ hc)
      have e1 : M * (rk c.j : Int) - M * (rk c.i : Int) = M * ((rk c.j : Int) - (rk c.i : Int)) := by rw [Int.mul_sub]
      have e2 : N * (rk c.j : Int) - N * (rk c.i : Int) = N * ((rk c.j : Int) - (rk c.i : Int)) := by rw [Int.mul_sub]
      have h3 : M * ((rk c.j : Int) - (rk c.i : Int)) ≤ N * ((rk c.j : Int) - (rk c.i : Int)) := Int.mul_le_mul_of_nonneg_right hN (by omega)
      show c.d ≤ N * (rk c.j : Int) - N * (rk c.i : Int)
      have h1' : c.d ≤ M * (rk c.j : Int) - M * (rk c.i : Int) := h1
      omega
    have hb := h b (List.mem_cons_self ..)
    refine ⟨if M < b.d then b.d else M, by split <;> omega, fun c hc => ?_⟩
    rcases List.mem_cons.mp hc with e | hc
    · subst e
      show c.d ≤ (if M < c.d then c.d else M) * (rk c.j : Int) - (if M < c.d then c.d else M) * (rk c.i : Int)
      rw [← Int.mul_sub]
      have g : ∀ N : Int, 0 ≤ N → c.d ≤ N → c.d ≤ N * ((rk c.j : Int) - (rk c.i : Int)) := fun N n0 hN => by
        have : N * 1 ≤ N * ((rk c.j : Int) - (rk c.i : Int)) := Int.mul_le_mul_of_nonneg_left (by omega) n0
        omega
      split
      · exact g _ (by omega) (Int.le_refl _)
      · exact g _ h0 (by omega)
    · split
      · exact up _ (by omega) c hc
      · exact up _ (Int.le_refl _) c hc

/-! ### two problems side by side -/
def renB (f : Nat → Nat) (b : Bd) : Bd := ⟨f b.i, f b.j, b.d⟩
def renT (f : Nat → Nat) : Tm → Tm
  | .ln l => .ln ⟨f l.i, f l.j, l.w⟩
  | .bn b => .bn ⟨f b.i, f b.j, b.k, b.w⟩
theorem cost_ren (f : Nat → Nat) (y : Nat → Int) : ∀ ts : List Tm, cost (ts.map (renT f)) y = cost ts fun v => y (f v)
  | [] => rfl
  | t :: ts => by
    have ih := cost_ren f y ts
    unfold cost at ih ⊢
    rw [List.map_cons, List.map_cons, List.map_cons, List.sum_cons, List.sum_cons, ih]
    cases t <;> rfl
theorem cost_append (a b : List Tm) (y : Nat → Int) : cost (a ++ b) y = cost a y + cost b y := by
  unfold cost
  rw [List.map_append, List.sum_append]
theorem cost_perm {a b : List Tm} (h : a.Perm b) (y : Nat → Int) : cost a y = cost b y := sum_perm (h.map _)
def tmLt (n : Nat) : Tm → Prop
  | .ln l => l.i < n ∧ l.j < n
  | .bn b => b.i < n ∧ b.j < n
theorem cost_congr {n : Nat} {x y : Nat → Int} (h : ∀ v, v < n → x v = y v) {ts : List Tm} (ht : ∀ t ∈ ts, tmLt n t) : cost ts x = cost ts y := by
  unfold cost
  refine sum_congr fun t hm => ?_
  have := ht t hm
  cases t with
  | ln l =>
    have q : l.i < n ∧ l.j < n := this
    show l.w * (x l.j - x l.i) = l.w * (y l.j - y l.i)
    rw [h _ q.1, h _ q.2]
  | bn b =>
    have q : b.i < n ∧ b.j < n := this
    show b.w * mag (x b.j - x b.i - b.k) = b.w * mag (y b.j - y b.i - b.k)
    rw [h _ q.1, h _ q.2]
theorem BF_congr {n : Nat} {x y : Nat → Int} (h : ∀ v, v < n → x v = y v) {bs : List Bd} (hb : ∀ b ∈ bs, b.i < n ∧ b.j < n) (hx : BF bs x) : BF bs y := fun b hm => by
  have := hx b hm
  have q := hb b hm
  rw [← h _ q.1, ← h _ q.2]
  exact this
structure Joined (n1 n2 : Nat) (bs1 bs2 bsB : List Bd) (ts1 ts2 tsB : List Tm) (lo1 lo2 loB : Nat → Int) (nm : Nat → Nat) : Prop where
  on : ∀ v, v < n1 + n2 → ∃ k, k < n1 + n2 ∧ nm k = v
  below : ∀ k, k < n1 + n2 → nm k < n1 + n2
  lt1 : ∀ b ∈ bs1, b.i < n1 ∧ b.j < n1
  lt2 : ∀ b ∈ bs2, b.i < n2 ∧ b.j < n2
  tl1 : ∀ t ∈ ts1, tmLt n1 t
  tl2 : ∀ t ∈ ts2, tmLt n2 t
  has : ∀ b ∈ bs1.map (renB nm) ++ bs2.map (renB fun k => nm (n1 + k)), b ∈ bsB
  only : ∀ b ∈ bsB, b ∈ bs1.map (renB nm) ++ bs2.map (renB fun k => nm (n1 + k)) ∨
    ∃ c ∈ bs1.map (renB nm) ++ bs2.map (renB fun k => nm (n1 + k)), ∃ e ∈ bs1.map (renB nm) ++ bs2.map (renB fun k => nm (n1 + k)), e.i = c.j ∧ b = ⟨c.i, e.j, c.d + e.d⟩
  terms : tsB.Perm (ts1.map (renT nm) ++ ts2.map (renT fun k => nm (n1 + k)))
  low1 : ∀ k, k < n1 → loB (nm k) = lo1 k
  low2 : ∀ k, k < n2 → loB (nm (n1 + k)) = lo2 k
section
variable {n1 n2 : Nat} {bs1 bs2 bsB : List Bd} {ts1 ts2 tsB : List Tm} {lo1 lo2 loB : Nat → Int} {nm : Nat → Nat}
theorem Joined.cost (J : Joined n1 n2 bs1 bs2 bsB ts1 ts2 tsB lo1 lo2 loB nm) (y : Nat → Int) : Dt.cost tsB y = Dt.cost ts1 (fun k => y (nm k)) + Dt.cost ts2 fun k => y (nm (n1 + k)) := by
  rw [cost_perm J.terms, cost_append, cost_ren, cost_ren]
theorem Joined.feas (J : Joined n1 n2 bs1 bs2 bsB ts1 ts2 tsB lo1 lo2 loB nm) (y : Nat → Int) : Feas (n1 + n2) bsB loB y ↔ Feas n1 bs1 lo1 (fun k => y (nm k)) ∧ Feas n2 bs2 lo2 fun k => y (nm (n1 + k)) := by
  constructor
  · intro F
    refine ⟨⟨fun b hb => ?_, fun v hv => ?_⟩, ⟨fun b hb => ?_, fun v hv => ?_⟩⟩
    · exact F.bf _ (J.has (renB nm b) (List.mem_append_left _ (List.mem_map.mpr ⟨b, hb, rfl⟩)))
    · rw [← J.low1 v hv]
      exact F.low _ (J.below v (by omega))
    · exact F.bf _ (J.has (renB (fun k => nm (n1 + k)) b) (List.mem_append_right _ (List.mem_map.mpr ⟨b, hb, rfl⟩)))
    · rw [← J.low2 v hv]
      exact F.low _ (J.below _ (by omega))
  · rintro ⟨F1, F2⟩
    have base : ∀ b ∈ bs1.map (renB nm) ++ bs2.map (renB fun k => nm (n1 + k)), b.d ≤ y b.j - y b.i := fun b hb => by
      rcases List.mem_append.mp hb with h | h
      · obtain ⟨c, hc, rfl⟩ := List.mem_map.mp h
        exact F1.bf c hc
      · obtain ⟨c, hc, rfl⟩ := List.mem_map.mp h
        exact F2.bf c hc
    refine ⟨fun b hb => ?_, fun v hv => ?_⟩
    · rcases J.only b hb with h | ⟨c, hc, e, he, e1, rfl⟩
      · exact base b h
      · have h1 := base c hc
        have h2 := base e he
        rw [e1] at h2
        show c.d + e.d ≤ y e.j - y c.i
        omega
    · obtain ⟨k, hk, rfl⟩ := J.on v hv
      by_cases h : k < n1
      · rw [J.low1 k h]
        exact F1.low k h
      · have e : n1 + (k - n1) = k := by omega
        have := J.low2 (k - n1) (by omega)
        rw [e] at this
        rw [this]
        have q := F2.low (k - n1) (by omega)
        rw [e] at q
        exact q
theorem Joined.sol (J : Joined n1 n2 bs1 bs2 bsB ts1 ts2 tsB lo1 lo2 loB nm) {x1 x2 xB : Nat → Int} (S1 : IsSol n1 bs1 lo1 ts1 x1) (S2 : IsSol n2 bs2 lo2 ts2 x2)
    (h1 : ∀ k, k < n1 → xB (nm k) = x1 k) (h2 : ∀ k, k < n2 → xB (nm (n1 + k)) = x2 k) : IsSol (n1 + n2) bsB loB tsB xB ∧ Dt.cost tsB xB = Dt.cost ts1 x1 + Dt.cost ts2 x2 := by
  have c1 : Dt.cost ts1 (fun k => xB (nm k)) = Dt.cost ts1 x1 := cost_congr h1 J.tl1
  have c2 : Dt.cost ts2 (fun k => xB (nm (n1 + k))) = Dt.cost ts2 x2 := cost_congr h2 J.tl2
  have cB := J.cost xB
  have e : Dt.cost tsB xB = Dt.cost ts1 x1 + Dt.cost ts2 x2 := by rw [cB, c1, c2]
  refine ⟨⟨(J.feas xB).mpr ⟨⟨BF_congr (fun v hv => (h1 v hv).symm) J.lt1 S1.feas.bf, fun v hv => ?_⟩, ⟨BF_congr (fun v hv => (h2 v hv).symm) J.lt2 S2.feas.bf, fun v hv => ?_⟩⟩, fun y hy => ?_, fun y hy hle v hv => ?_⟩, e⟩
  · show lo1 v ≤ xB (nm v)
    rw [h1 v hv]
    exact S1.feas.low v hv
  · show lo2 v ≤ xB (nm (n1 + v))
    rw [h2 v hv]
    exact S2.feas.low v hv
  · obtain ⟨F1, F2⟩ := (J.feas y).mp hy
    have := S1.opt _ F1
    have := S2.opt _ F2
    have := J.cost y
    omega
  · obtain ⟨F1, F2⟩ := (J.feas y).mp hy
    have q1 := S1.opt _ F1
    have q2 := S2.opt _ F2
    have q3 := J.cost y
    obtain ⟨k, hk, rfl⟩ := J.on v hv
    by_cases h : k < n1
    · rw [h1 k h]
      exact S1.least _ F1 (by omega) k h
    · have ek : n1 + (k - n1) = k := by omega
      have a := h2 (k - n1) (by omega)
      rw [ek] at a
      rw [a]
      have b := S2.least _ F2 (by omega) (k - n1) (by omega)
      rw [ek] at b
      exact b
/-- no ring in the whole -/
theorem Joined.rank (J : Joined n1 n2 bs1 bs2 bsB ts1 ts2 tsB lo1 lo2 loB nm) (inj : ∀ k l, k < n1 + n2 → l < n1 + n2 → nm k = nm l → k = l) {rk1 rk2 : Nat → Nat} (r1 : ∀ b ∈ bs1, rk1 b.i < rk1 b.j) (r2 : ∀ b ∈ bs2, rk2 b.i < rk2 b.j) :
    ∃ rk : Nat → Nat, ∀ b ∈ bsB, rk b.i < rk b.j := by
  -- the place of a name
  have ex : ∀ v, ∃ k, v < n1 + n2 → k < n1 + n2 ∧ nm k = v := fun v => by
    by_cases h : v < n1 + n2
    · obtain ⟨k, h1, h2⟩ := J.on v h
      exact ⟨k, fun _ => ⟨h1, h2⟩⟩
    · exact ⟨0, fun z => absurd z h⟩
  obtain ⟨pl, hpl⟩ := Classical.axiomOfChoice ex
  have back : ∀ k, k < n1 + n2 → pl (nm k) = k := fun k hk => by
    obtain ⟨h1, h2⟩ := hpl (nm k) (J.below k hk)
    exact inj _ _ h1 hk h2
  let rk : Nat → Nat := fun v => if pl v < n1 then rk1 (pl v) else rk2 (pl v - n1)
  have base : ∀ b ∈ bs1.map (renB nm) ++ bs2.map (renB fun k => nm (n1 + k)), rk b.i < rk b.j := fun b hb => by
    rcases List.mem_append.mp hb with h | h
    · obtain ⟨c, hc, rfl⟩ := List.mem_map.mp h
      have l := J.lt1 c hc
      show (if pl (nm c.i) < n1 then rk1 (pl (nm c.i)) else rk2 (pl (nm c.i) - n1)) < (if pl (nm c.j) < n1 then rk1 (pl (nm c.j)) else rk2 (pl (nm c.j) - n1))
      rw [back _ (by omega), back _ (by omega), if_pos l.1, if_pos l.2]
      exact r1 c hc
    · obtain ⟨c, hc, rfl⟩ := List.mem_map.mp h
      have l := J.lt2 c hc
      show (if pl (nm (n1 + c.i)) < n1 then rk1 (pl (nm (n1 + c.i))) else rk2 (pl (nm (n1 + c.i)) - n1)) < (if pl (nm (n1 + c.j)) < n1 then rk1 (pl (nm (n1 + c.j))) else rk2 (pl (nm (n1 + c.j)) - n1))
      rw [back _ (by omega), back _ (by omega), if_neg (by omega), if_neg (by omega), Nat.add_sub_cancel_left, Nat.add_sub_cancel_left]
      exact r2 c hc
  refine ⟨rk, fun b hb => ?_⟩
  rcases J.only b hb with h | ⟨c, hc, e, he, e1, rfl⟩
  · exact base b h
  · have h1 := base c hc
    have h2 := base e he
    rw [e1] at h2
    exact Nat.lt_trans h1 h2
end
end Dt
end

section
set_option linter.all false
namespace Dt
/-! one step of the walks of least cost, as lists -/
def oc {α : Type} (l : List (Option α)) (v : Nat) : Option α := l.getD v none
theorem oc_set {α : Type} {l : List (Option α)} {k : Nat} (j : Nat) (o : Option α) (h : k < l.length) : oc (l.set k o) j = if k = j then o else oc l j := by
  unfold oc
  simp only [List.getD_eq_getElem?_getD]
  by_cases e : k = j
  · subst e
    rw [List.getElem?_set_self h, if_pos rfl]
    rfl
  · rw [List.getElem?_set_ne e, if_neg e]
theorem oc_at {α : Type} {l : List (Option α)} {v : Nat} (h : v < l.length) : l[v]? = some (oc l v) := by
  unfold oc
  rw [List.getD_eq_getElem?_getD, List.getElem?_eq_getElem h]
  rfl
structure BInv (n : Nat) (b : List (Option Int)) (as : List Arc) (best : List (Option Int)) (last : List (Option Arc)) : Prop where
  lb : best.length = n
  ll : last.length = n
  relax : ∀ a ∈ as, ∀ x, oc b a.u = some x → ∃ y, oc best a.v = some y ∧ y ≤ x + a.c
  last : ∀ v, v < n → ∀ y, oc best v = some y → ∃ a x, oc last v = some a ∧ a ∈ as ∧ a.v = v ∧ oc b a.u = some x ∧ y = x + a.c
def nones {α : Type} (n : Nat) : List (Option α) := (List.range n).map fun _ => none
theorem nones_len {α : Type} (n : Nat) : (nones n : List (Option α)).length = n := by simp [nones]
theorem nones_oc {α : Type} (n v : Nat) : oc (nones n : List (Option α)) v = none := by
  unfold oc nones
  rw [List.getD_eq_getElem?_getD, List.getElem?_map]
  cases (List.range n)[v]? <;> rfl
section
variable {n : Nat} {b : List (Option Int)} {as : List Arc} {best : List (Option Int)} {last : List (Option Arc)}
theorem BInv.start : BInv n b [] (nones n) (nones n) := ⟨nones_len n, nones_len n, fun a ha => (by cases ha), fun v _ y h => by rw [nones_oc] at h; cases h⟩
theorem BInv.skip (I : BInv n b as best last) {a : Arc} (h : ∀ x, oc b a.u = some x → ∃ y, oc best a.v = some y ∧ y ≤ x + a.c) : BInv n b (as ++ [a]) best last := by
  refine ⟨I.lb, I.ll, fun c hc x hx => ?_, fun v hv y hy => ?_⟩
  · rcases List.mem_append.mp hc with hc | hc
    · exact I.relax c hc x hx
    · have : c = a := by simpa using hc
      subst this
      exact h x hx
  · obtain ⟨c, x, h1, h2, h3⟩ := I.last v hv y hy
    exact ⟨c, x, h1, List.mem_append_left _ h2, h3⟩
theorem BInv.set (I : BInv n b as best last) {a : Arc} (hv : a.v < n) {x : Int} (hx : oc b a.u = some x) (hle : ∀ y, oc best a.v = some y → x + a.c ≤ y) : BInv n b (as ++ [a]) (best.set a.v (some (x + a.c))) (last.set a.v (some a)) := by
  have h1 : a.v < best.length := by rw [I.lb]; exact hv
  have h2 : a.v < last.length := by rw [I.ll]; exact hv
  refine ⟨by rw [List.length_set]; exact I.lb, by rw [List.length_set]; exact I.ll, fun c hc z hz => ?_, fun v hv' y hy => ?_⟩
  · rw [oc_set _ _ h1]
    rcases List.mem_append.mp hc with hc | hc
    · obtain ⟨y, hy, hle2⟩ := I.relax c hc z hz
      by_cases e : a.v = c.v
      · rw [if_pos e]
        rw [← e] at hy
        have := hle y hy
        exact ⟨_, rfl, by omega⟩
      · rw [if_neg e]
        exact ⟨y, hy, hle2⟩
    · have : c = a := by simpa using hc
      subst this
      rw [if_pos rfl]
      rw [hx] at hz
      have := Option.some.inj hz
      exact ⟨_, rfl, by omega⟩
  · rw [oc_set _ _ h1] at hy
    rw [oc_set _ _ h2]
    by_cases e : a.v = v
    · rw [if_pos e] at hy
      rw [if_pos e]
      exact ⟨a, x, rfl, List.mem_append_right _ (List.mem_singleton.mpr rfl), e, hx, (Option.some.inj hy).symm⟩
    · rw [if_neg e] at hy
      rw [if_neg e]
      obtain ⟨c, z, q1, q2, q3⟩ := I.last v hv' y hy
      exact ⟨c, z, q1, List.mem_append_left _ q2, q3⟩
end
/-- the tables after some steps -/
structure TInv (n : Nat) (arcs : List Arc) (i : Nat) (cs : List (List (Option Int))) (ls : List (List (Option Arc))) : Prop where
  lc : cs.length = i + 1
  ll : ls.length = i + 1
  z : cs[0]? = some ((List.range n).map fun _ => some 0)
  len : ∀ (k : Nat) (c : List (Option Int)), cs[k]? = some c → c.length = n
  lenL : ∀ (k : Nat) (c : List (Option Arc)), ls[k]? = some c → c.length = n
  step : ∀ k, k < i → ∀ c c' l', cs[k]? = some c → cs[k + 1]? = some c' → ls[k + 1]? = some l' → BInv n c arcs c' l'
def cell {α : Type} (cs : List (List (Option α))) (k v : Nat) : Option α := oc (cs.getD k []) v
theorem cell_at {α : Type} {cs : List (List (Option α))} {k : Nat} {c : List (Option α)} (h : cs[k]? = some c) (v : Nat) : cell cs k v = oc c v := by
  unfold cell
  rw [List.getD_eq_getElem?_getD, h]
  rfl
theorem TInv.start (n : Nat) (arcs : List Arc) : TInv n arcs 0 [(List.range n).map fun _ => some 0] [nones n] :=
  ⟨rfl, rfl, rfl, fun k c h => by
    cases k with
    | zero => have : _ = c := Option.some.inj h; rw [← this]; simp
    | succ k => simp at h, fun k c h => by
    cases k with
    | zero => have : _ = c := Option.some.inj h; rw [← this]; exact nones_len n
    | succ k => simp at h, fun k hk => absurd hk (Nat.not_lt_zero k)⟩
theorem TInv.next {n : Nat} {arcs : List Arc} {i : Nat} {cs : List (List (Option Int))} {ls : List (List (Option Arc))} (I : TInv n arcs i cs ls) {c best : List (Option Int)} {last : List (Option Arc)} (hc : cs[i]? = some c) (B : BInv n c arcs best last) : TInv n arcs (i + 1) (cs ++ [best]) (ls ++ [last]) := by
  have h1 := I.lc
  have h2 := I.ll
  refine ⟨by rw [List.length_append, h1]; rfl, by rw [List.length_append, h2]; rfl, ?_, fun k d h => ?_, fun k d h => ?_, fun k hk d d' l' e1 e2 e3 => ?_⟩
  · rw [List.getElem?_append_left (by omega)]
    exact I.z
  · rcases snoc_at h with h | ⟨_, rfl⟩
    · exact I.len k d h
    · exact B.lb
  · rcases snoc_at h with h | ⟨_, rfl⟩
    · exact I.lenL k d h
    · exact B.ll
  · rw [List.getElem?_append_left (by omega)] at e1
    by_cases hlt : k < i
    · rw [List.getElem?_append_left (by omega)] at e2
      rw [List.getElem?_append_left (by omega)] at e3
      exact I.step k hlt d d' l' e1 e2 e3
    · have : k = i := by omega
      subst this
      rw [hc] at e1
      have a1 := Option.some.inj e1
      rcases snoc_at e2 with e2 | ⟨_, rfl⟩
      · have := (List.getElem?_eq_some_iff.mp e2).1
        omega
      rcases snoc_at e3 with e3 | ⟨_, rfl⟩
      · have := (List.getElem?_eq_some_iff.mp e3).1
        omega
      rw [← a1]
      exact B
theorem TInv.rows {n : Nat} {arcs : List Arc} {cs : List (List (Option Int))} {ls : List (List (Option Arc))} (I : TInv n arcs n cs ls) : Rows n arcs (cell cs) (cell ls) := by
  have h1 := I.lc
  have h2 := I.ll
  have ex : ∀ k, k ≤ n → ∃ c, cs[k]? = some c := fun k hk => ⟨_, List.getElem?_eq_getElem (by omega)⟩
  have exl : ∀ k, k ≤ n → ∃ c, ls[k]? = some c := fun k hk => ⟨_, List.getElem?_eq_getElem (by omega)⟩
  refine ⟨fun v hv => ?_, fun k hk a ha x hx => ?_, fun k hk v hv y hy => ?_⟩
  · rw [cell_at I.z]
    have := oc_at (l := (List.range n).map fun _ => (some 0 : Option Int)) (v := v) (by simpa using hv)
    rw [List.getElem?_map, List.getElem?_range hv] at this
    exact (Option.some.inj this).symm
  · obtain ⟨c, hc⟩ := ex k (by omega)
    obtain ⟨c', hc'⟩ := ex (k + 1) (by omega)
    obtain ⟨l', hl'⟩ := exl (k + 1) (by omega)
    have B := I.step k hk c c' l' hc hc' hl'
    rw [cell_at hc] at hx
    rw [cell_at hc']
    exact B.relax a ha x hx
  · obtain ⟨c, hc⟩ := ex k (by omega)
    obtain ⟨c', hc'⟩ := ex (k + 1) (by omega)
    obtain ⟨l', hl'⟩ := exl (k + 1) (by omega)
    have B := I.step k hk c c' l' hc hc' hl'
    rw [cell_at hc'] at hy
    obtain ⟨a, x, q1, q2, q3, q4, q5⟩ := B.last v hv y hy
    exact ⟨a, x, by rw [cell_at hl']; exact q1, q2, q3, by rw [cell_at hc]; exact q4, q5⟩
/-! fractions -/
theorem frac_trans {a b c d e f : Int} (hb : 0 < b) (hd : 0 < d) (hf : 0 < f) (h1 : a * d ≤ c * b) (h2 : c * f ≤ e * d) : a * f ≤ e * b := by
  have q1 : a * d * f ≤ c * b * f := Int.mul_le_mul_of_nonneg_right h1 (by omega)
  have q2 : c * f * b ≤ e * d * b := Int.mul_le_mul_of_nonneg_right h2 (by omega)
  have e1 : c * b * f = c * f * b := by rw [Int.mul_assoc, Int.mul_comm b f, ← Int.mul_assoc]
  have e2 : a * d * f = a * f * d := by rw [Int.mul_assoc, Int.mul_comm d f, ← Int.mul_assoc]
  have e3 : e * d * b = e * b * d := by rw [Int.mul_assoc, Int.mul_comm d b, ← Int.mul_assoc]
  have q : a * f * d ≤ e * b * d := by rw [← e2, ← e3]; omega
  exact Int.le_of_mul_le_mul_right q hd
end Dt
end

section
set_option Elab.async false
set_option linter.all false
set_option maxRecDepth 100000
set_option maxHeartbeats 4000000
/-! rules that the layer lacks: zip and enumerate over lists and tuples in any mix, an expression never reached -/
namespace L2
open PySem PySem.Spec PyProof.Rows
/-- an expression that the proof never comes to -/
def tNeverE : TE := fun _ _ _ => False
theorem pe_never {X : Cx} {e : Expr} : PE X e tNeverE := ⟨fun _ _ _ _ _ _ h => h.elim⟩
/-- a list (false), a tuple (true) -/
def SqK (t : Bool) (K : PySem.W.Frag) (H : Hp) (a : Addr) (xs : List V) : Prop := match t with
  | false => SqL K H a xs
  | true => SqT K H a xs
def ObK (t : Bool) (h : Heap) (a : Addr) (its : Array Value) : Prop := match t with
  | false => h.IsList a its
  | true => h.IsTuple a its
def ItK (t : Bool) (h : Heap) (it a : Addr) (i : Nat) : Prop := match t with
  | false => h.IsListIter it a i
  | true => h.IsTupleIter it a i
def itO (t : Bool) (a : Addr) : Obj := match t with
  | false => { cls := .type "list_iterator", data := .fields #[.ref a, .int 0 0] }
  | true => { cls := .type "tuple_iterator", data := .fields #[.ref a, .int 0 0] }
section
variable {X : Cx} {pins : List (Addr × Obj)} {σ : St} {H : Hp} {s : Shared} {t : Bool} {a : Addr} {xs ys : List V}
theorem Inv.sqk (I : Inv X pins σ H s) (h : SqK t X.K H a xs) : ∃ its : List Value, Vals xs its ∧ ObK t s.heap a its.toArray ∧ xs.length ≤ sizeLine := by
  cases t with
  | false =>
    obtain ⟨its, r, p, z⟩ := I.list h
    exact ⟨its, r, p.isList, z⟩
  | true =>
    obtain ⟨its, r, p, z⟩ := I.tuple h
    exact ⟨its, r, p, z⟩
theorem Inv.sqk_inj (I : Inv X pins σ H s) (h : SqK t X.K H a xs) (h' : SqK t X.K H a ys) : xs = ys := by
  cases t with
  | false => exact I.list_inj h h'
  | true => exact I.tuple_inj h h'
theorem ItK.obj {h : Heap} {it : Addr} {i : Nat} (st : ItK t h it a i) : ∃ o, h.get? it = some o ∧ ∀ v, o.data ≠ .cell v := by
  cases t with
  | false =>
    obtain ⟨o, e, _, d⟩ := st
    exact ⟨o, e, fun v q => by rw [d] at q; cases q⟩
  | true =>
    obtain ⟨o, e, _, d⟩ := st
    exact ⟨o, e, fun v q => by rw [d] at q; cases q⟩
theorem ItK.keep {h h' : Heap} {it : Addr} {i : Nat} (st : ItK t h it a i) (k : ∀ o, h.get? it = some o → h'.get? it = some o) : ItK t h' it a i := by
  cases t with
  | false => exact Heap.IsListIter.at (show h.IsListIter it a i from st) fun o e => k o e
  | true => exact Heap.IsTupleIter.at (show h.IsTupleIter it a i from st) fun o e => k o e
theorem ObK.lt {h : Heap} {its : Array Value} (st : ObK t h a its) : a < h.objs.size := by
  cases t with
  | false =>
    obtain ⟨o, e, _⟩ := (show h.IsList a its from st)
    exact Heap.lt_size e
  | true =>
    obtain ⟨o, e, _⟩ := (show h.IsTuple a its from st)
    exact Heap.lt_size e
theorem draws_k {prog : Program} {w : World} {A : Around} (hh : A.handled = none) (t : Bool) (it a : Addr) (hne : a ≠ it) (items : Array Value) :
    Draws prog w A it [it, a] items.size (fun i v => items[i]? = some v) (fun i h => ItK t h it a i ∧ ObK t h a items) := by
  cases t with
  | false => exact Draws.list hh it a hne items
  | true => exact Draws.tuple hh it a hne items
theorem begins_k (t : Bool) (a : Addr) (items : Array Value) : Begins (.ref a) (itO t a) fun h => ObK t h a items := by
  cases t with
  | false => exact begins_list a items
  | true => exact begins_tuple a items
theorem itK_new {t : Bool} {h : Heap} {it a : Addr} (e : h.get? it = some (itO t a)) : ItK t h it a 0 := by
  cases t with
  | false => exact ⟨_, e, rfl, rfl⟩
  | true => exact ⟨_, e, rfl, rfl⟩
end
/-! ### zip -/
def ItzK (t1 t2 : Bool) (K : PySem.W.Frag) (a b : Addr) : It :=
  ⟨fun i H => ∃ (xs ys : List V) (x y : V), SqK t1 K H a xs ∧ SqK t2 K H b ys ∧ xs[i]? = some x ∧ ys[i]? = some y,
    fun i H v H' => ∃ T x y, v = .ref T ∧ H T = none ∧ H' = upd H T (.tup [x, y]) ∧ (∀ xs, SqK t1 K H a xs → xs[i]? = some x) ∧ ∀ ys, SqK t2 K H b ys → ys[i]? = some y,
    fun i H => ∃ xs ys : List V, SqK t1 K H a xs ∧ SqK t2 K H b ys ∧ i = min xs.length ys.length⟩
theorem turn_zipK {P : Program} {w : World} {K : PySem.W.Frag} {elts : List Expr} {kk : Nat} {tpos : Pos} {t1 t2 : Bool} {a b z TI TO i1 i2 : Addr} (S : ZipSep2 z TI TO i1 i2 [i1, a] [i2, b]) (n1 : a ≠ i1) (n2 : b ≠ i2) :
    Turn P w K (.Tuple elts kk tpos) (ItzK t1 t2 K a b) [z, TI, TO, i1, i2] z (fun i h => IsZip h z TI TO .none ∧ IsTupOf2 h TI (.ref i1) (.ref i2) ∧ (∃ x y, IsTupOf2 h TO x y) ∧ ItK t1 h i1 a i ∧ ItK t2 h i2 b i) where
  mem := by simp
  obj := fun i h st c hc => by
    obtain ⟨hz, hTI, ⟨x, y, hTO⟩, h1, h2⟩ := st
    have e' : c = z ∨ c = TI ∨ c = TO ∨ c = i1 ∨ c = i2 := by simpa using hc
    rcases e' with q | q | q | q | q
    · rw [q]; exact ⟨_, hz, fun v q => nomatch q⟩
    · rw [q]; exact ⟨_, hTI, fun v q => nomatch q⟩
    · rw [q]; exact ⟨_, hTO, fun v q => nomatch q⟩
    · rw [q]; exact h1.obj
    · rw [q]; exact h2.obj
  keep := fun i h h' st k => by
    obtain ⟨hz, hTI, ⟨x, y, hTO⟩, h1, h2⟩ := st
    exact ⟨k z (by simp) _ hz, k TI (by simp) _ hTI, ⟨x, y, k TO (by simp) _ hTO⟩, h1.keep fun o q => k i1 (by simp) o q, h2.keep fun o q => k i2 (by simp) o q⟩
  item := by
    intro X hP hw hK hc i pins s σ H E I hf st hg
    subst hP hw hK
    obtain ⟨hz, hTI, hTO, h1, h2⟩ := st
    obtain ⟨xs, ys, x, y, hqx, hqy, hx, hy⟩ := hg
    obtain ⟨its, rv, p, _⟩ := I.sqk hqx
    obtain ⟨its2, rv2, p2, _⟩ := I.sqk hqy
    obtain ⟨u, hu, ru⟩ := rv.get hx
    obtain ⟨u2, hu2, ru2⟩ := rv2.get hy
    have l1 := (List.getElem?_eq_some_iff.mp hu).1
    have l2 := (List.getElem?_eq_some_iff.mp hu2).1
    have hh : X.A.in1.handled = none := I.ok.hd hc
    have W := GoesN.zip2 (prog := X.prog) (w := X.w) (A := X.A) (elts := elts) (x1 := kk) (pos := tpos) S (draws_k hh t1 i1 a n1 its.toArray) (draws_k hh t2 i2 b n2 its2.toArray)
    refine W.goes i s _ _ (by simp only [List.size_toArray]; omega) ⟨hz, hTI, hTO, ⟨h1, p⟩, ⟨h2, p2⟩⟩ fun v h' tk hY st' hk htk => ?_
    obtain ⟨T, v1, v2, rfl, hT, hv1, hv2, hTt⟩ := hY
    have ev1 : v1 = u := by
      have e : its[i]? = some v1 := by simpa using hv1
      rw [hu] at e
      exact (Option.some.inj e).symm
    have ev2 : v2 = u2 := by
      have e : its2[i]? = some v2 := by simpa using hv2
      rw [hu2] at e
      exact (Option.some.inj e).symm
    subst ev1 ev2
    obtain ⟨hz', hTI', hTO', ⟨h1', _⟩, ⟨h2', _⟩⟩ := st'
    have new : ObjOk X.prog X.w (upd H T (.tup [x, y])) h' T (.tup [x, y]) := ⟨by show 2 ≤ sizeLine; decide, [v1, v2], .cons ru (.cons ru2 .nil), hTt⟩
    have I1 : Inv X pins σ (upd H T (.tup [x, y])) { s with heap := h', toks := tk } :=
      I.turnedNew (ch := [z, TI, TO, i1, i2]) (fun c o hb q => hk c o (fun q' => hb (by
        simp only [List.mem_cons, List.not_mem_nil, or_false] at q' ⊢
        rcases q' with q' | q' | q' | q'
        · exact .inl q'
        · exact .inr (.inr (.inl q'))
        · exact .inr (.inr (.inr (.inl q')))
        · exact .inr (.inr (.inr (.inr q'))))) q) hf hT new
    refine ⟨.ref T, _, I1, rfl, ⟨T, x, y, rfl, I.hok.fresh hT, rfl, fun l hl => by rw [I.sqk_inj hl hqx]; exact hx, fun l hl => by rw [I.sqk_inj hl hqy]; exact hy⟩, ⟨hz', hTI', hTO', h1', h2'⟩, fun c hcm => ?_⟩
    have hlt : c < s.heap.objs.size := by
      have e' : c = z ∨ c = TI ∨ c = TO ∨ c = i1 ∨ c = i2 := by simpa using hcm
      rcases e' with q | q | q | q | q
      · rw [q]; exact Heap.lt_size hz
      · rw [q]; exact Heap.lt_size hTI
      · rw [q]; obtain ⟨_, _, e⟩ := hTO; exact Heap.lt_size e
      · rw [q]; obtain ⟨_, e1, _⟩ := h1.obj; exact Heap.lt_size e1
      · rw [q]; obtain ⟨_, e2, _⟩ := h2.obj; exact Heap.lt_size e2
    rw [upd_ne (Nat.ne_of_lt (Nat.lt_of_lt_of_le hlt hT))]
    exact (hf c hcm).1
  done := by
    intro X hP hw hK hc i pins s σ H E I hf st hg
    subst hP hw hK
    obtain ⟨hz, hTI, hTO, h1, h2⟩ := st
    obtain ⟨xs, ys, hqx, hqy, hend⟩ := hg
    obtain ⟨its, rv, p, _⟩ := I.sqk hqx
    obtain ⟨its2, rv2, p2, _⟩ := I.sqk hqy
    have l1 := rv.length
    have l2 := rv2.length
    have hh : X.A.in1.handled = none := I.ok.hd hc
    have W := GoesN.zip2 (prog := X.prog) (w := X.w) (A := X.A) (elts := elts) (x1 := kk) (pos := tpos) S (draws_k hh t1 i1 a n1 its.toArray) (draws_k hh t2 i2 b n2 its2.toArray)
    have ei : i = min its.toArray.size its2.toArray.size := by simp only [List.size_toArray]; omega
    refine W.stops s (fun s1 => Inv X pins σ H s1) E (by rw [← ei]; exact ⟨hz, hTI, hTO, ⟨h1, p⟩, ⟨h2, p2⟩⟩) fun h' tk hk htk => ?_
    exact I.turnedL (ch := [z, TI, TO, i1, i2]) (fun c o hb q => hk c o (fun q' => hb (by
        simp only [List.mem_cons, List.not_mem_nil, or_false] at q' ⊢
        rcases q' with q' | q' | q' | q'
        · exact .inl q'
        · exact .inr (.inr (.inl q'))
        · exact .inr (.inr (.inr (.inl q')))
        · exact .inr (.inr (.inr (.inr q'))))) q) hf
  self := fun A i s Q E st h => wpAny_pyIter_zip st.1 h
def iZipK (t1 t2 : Bool) (K : PySem.W.Frag) (ta : TA) : TI := fun σ H R => ta σ H fun vs H1 => ∃ a b xs ys, vs = [.ref a, .ref b] ∧ SqK t1 K H1 a xs ∧ SqK t2 K H1 b ys ∧ R (ItzK t1 t2 K a b) H1
theorem pi_zipK (t1 t2 : Bool) {X : Cx} {e e2 : Expr} {ta : TA} {p pos tpos : Pos} {elts : List Expr} {kk : Nat} (hg : Gl X "zip") (hm : X.mg "zip" = none) (ha : PA X [e, e2] ta)
    (hs : starEach [e, e2] X.env = (false, eval e X.env) :: starEach [e2] X.env := by rfl) (hpl : (backTo pos (starEach [e2] X.env)).any (·.1) = false := by rfl) :
    PI X (.Tuple elts kk tpos) (.Call (.Name "zip" p) [e, e2] [] pos) (iZipK t1 t2 X.K ta) := by
  refine ⟨fun pins s σ H R I h => ?_⟩
  refine Call_ (ld_blt I hg hm PyProof.Rows.boot_zip (PyProof.Rows.callWith_type1 (thn (ha.run pos pins s σ H _ I h) fun us s1 ⟨vs, H1, I1, r1, q1⟩ => ?_) hs hpl))
  obtain ⟨a, b, xs, ys, ex, hqx, hqy, q⟩ := q1
  subst ex
  cases r1 with
  | cons r rr =>
    cases rr with
    | cons r' rr =>
      cases rr
      cases r
      cases r'
      obtain ⟨its, rv, p1, _⟩ := I1.sqk hqx
      obtain ⟨its2, rv2, p2, _⟩ := I1.sqk hqy
      have hal := p1.lt
      have hbl := p2.lt
      refine zip_begins2 (begins_k t1 a its.toArray) (begins_k t2 b its2.toArray) p1 p2 fun h' hz hTI hTO g1 g2 hsz hk => wpAny_pyIter_zip hz ?_
      have I2 : Inv X pins σ H1 { s1 with heap := h' } := I1.kept (t' := s1.toks) hk
      refine ⟨s1.heap.objs.size + 4, [s1.heap.objs.size + 4, s1.heap.objs.size + 2, s1.heap.objs.size + 3, s1.heap.objs.size, s1.heap.objs.size + 1], _, _, H1, rfl, I2,
        turn_zipK (t1 := t1) (t2 := t2) (zip_sep2 (fp1 := [a]) (fp2 := [b]) (by simpa using hal) (by simpa using hbl)) (Nat.ne_of_lt hal) (Nat.ne_of_lt (Nat.lt_succ_of_lt hbl)), ⟨hz, hTI, ⟨_, _, hTO⟩, itK_new g1, itK_new g2⟩, fun c hcm => ?_, q⟩
      have e' : c = s1.heap.objs.size + 4 ∨ c = s1.heap.objs.size + 2 ∨ c = s1.heap.objs.size + 3 ∨ c = s1.heap.objs.size ∨ c = s1.heap.objs.size + 1 := by simpa using hcm
      have hle : s1.heap.objs.size ≤ c := by
        rcases e' with z | z | z | z | z
        · rw [z]; exact Nat.le_add_right _ _
        · rw [z]; exact Nat.le_add_right _ _
        · rw [z]; exact Nat.le_add_right _ _
        · rw [z]; exact Nat.le_refl _
        · rw [z]; exact Nat.le_add_right _ _
      exact I1.fpOk hle (I1.hok.fresh hle)
theorem walk_zipK {t1 t2 : Bool} {K : PySem.W.Frag} {a b : Addr} {xs ys : List V} {n : Nat} (hn : n = min xs.length ys.length) : Walk (ItzK t1 t2 K a b) n (fun H => SqK t1 K H a xs ∧ SqK t2 K H b ys) (YPair (fun i => xs[i]?) (fun i => ys[i]?)) := by
  subst hn
  refine ⟨fun i _ hi q => ?_, fun _ q => ⟨xs, ys, q.1, q.2, rfl⟩, fun i H v H' _ q y => ?_⟩
  · have h1 : i < xs.length := by omega
    have h2 : i < ys.length := by omega
    exact ⟨xs, ys, xs[i], ys[i], q.1, q.2, by simp [h1], by simp [h2]⟩
  · obtain ⟨T, x, z, h1, h2, h3, h4, h5⟩ := y
    exact ⟨T, x, z, h1, h2, h3, h4 xs q.1, h5 ys q.2⟩
/-! ### enumerate -/
def IteK (t : Bool) (K : PySem.W.Frag) (a : Addr) : It :=
  ⟨fun i H => ∃ (xs : List V) (x : V), SqK t K H a xs ∧ xs[i]? = some x, fun i H v H' => ∃ T x, v = .ref T ∧ H T = none ∧ H' = upd H T (.tup [.int (i : Nat), x]) ∧ ∀ xs, SqK t K H a xs → xs[i]? = some x, fun i H => ∃ xs : List V, SqK t K H a xs ∧ i = xs.length⟩
theorem turn_enumK {P : Program} {w : World} {K : PySem.W.Frag} {elts : List Expr} {kk : Nat} {tpos : Pos} (t : Bool) (a e it : Addr) (hae : a ≠ e) (hai : a ≠ it) :
    Turn P w K (.Tuple elts kk tpos) (IteK t K a) [e, it] e (fun i h => (∃ old, IsEnum h e it ((0 : Int) + ((i : Nat) : Int)) old) ∧ ItK t h it a i ∧ e ≠ it) where
  mem := by simp
  obj := fun i h st b hb => by
    obtain ⟨⟨old, he⟩, h1, _⟩ := st
    have e' : b = e ∨ b = it := by simpa using hb
    rcases e' with z | z
    · rw [z]; exact ⟨_, he, fun v q => nomatch q⟩
    · rw [z]; exact h1.obj
  keep := fun i h h' st k => let ⟨⟨old, he⟩, hi, hne⟩ := st; ⟨⟨old, k e (by simp) _ he⟩, hi.keep fun o q => k it (by simp) o q, hne⟩
  item := by
    intro X hP hw hK hc i pins s σ H E I hf st hg
    subst hP hw hK
    obtain ⟨he, hit, hne⟩ := st
    obtain ⟨xs, x, hq, hx⟩ := hg
    obtain ⟨its, rv, p, hz⟩ := I.sqk hq
    obtain ⟨u, hu, ru⟩ := rv.get hx
    have l1 := (List.getElem?_eq_some_iff.mp hu).1
    have hh : X.A.in1.handled = none := I.ok.hd hc
    have W := GoesN.enumFrom (prog := X.prog) (w := X.w) (A := X.A) (elts := elts) (x1 := kk) (pos := tpos) 0 (draws_k hh t it a hai its.toArray) e hne (by simp [hne, Ne.symm hae]) (by simp)
    refine W.goes i s _ _ (by simp only [List.size_toArray]; omega) ⟨he, ⟨hit, p⟩⟩ fun v h' tk hY st' hk htk => ?_
    obtain ⟨T, tt, v1, rfl, hT, hv1, hTt⟩ := hY
    have ev1 : v1 = u := by
      have e : its[i]? = some v1 := by simpa using hv1
      rw [hu] at e
      exact (Option.some.inj e).symm
    subst ev1
    obtain ⟨he', ⟨hit', _⟩⟩ := st'
    have new : ObjOk X.prog X.w (upd H T (.tup [.int (i : Nat), x])) h' T (.tup [.int (i : Nat), x]) :=
      ⟨by show 2 ≤ sizeLine; decide, [.int (0 + (i : Int)) tt, v1], .cons ⟨tt, by rw [Int.zero_add]⟩ (.cons ru .nil), hTt⟩
    have I1 : Inv X pins σ (upd H T (.tup [.int (i : Nat), x])) { s with heap := h', toks := tk } := I.turnedNew (ch := [e, it]) (fun c o hb q => hk c o hb q) hf hT new
    refine ⟨.ref T, _, I1, rfl, ⟨T, x, rfl, I.hok.fresh hT, rfl, fun ys hy => by rw [I.sqk_inj hy hq]; exact hx⟩, ⟨he', hit', hne⟩, fun b hb => ?_⟩
    have hb' : b < s.heap.objs.size := by
      have e' : b = e ∨ b = it := by simpa using hb
      rcases e' with z | z
      · rw [z]; obtain ⟨_, e⟩ := he; exact Heap.lt_size e
      · rw [z]; obtain ⟨_, e1, _⟩ := hit.obj; exact Heap.lt_size e1
    rw [upd_ne (Nat.ne_of_lt (Nat.lt_of_lt_of_le hb' hT))]
    exact (hf b hb).1
  done := by
    intro X hP hw hK hc i pins s σ H E I hf st hg
    subst hP hw hK
    obtain ⟨he, hit, hne⟩ := st
    obtain ⟨xs, hq, hx⟩ := hg
    obtain ⟨its, rv, p, hz⟩ := I.sqk hq
    have l1 := rv.length
    have hh : X.A.in1.handled = none := I.ok.hd hc
    have W := GoesN.enumFrom (prog := X.prog) (w := X.w) (A := X.A) (elts := elts) (x1 := kk) (pos := tpos) 0 (draws_k hh t it a hai its.toArray) e hne (by simp [hne, Ne.symm hae]) (by simp)
    have ei : i = its.toArray.size := by simp only [List.size_toArray]; omega
    refine W.stops s (fun s1 => Inv X pins σ H s1) E (by rw [← ei]; exact ⟨he, ⟨hit, p⟩⟩) fun h' tk hk htk => ?_
    exact I.turnedL (ch := [e, it]) (fun c o hb q => hk c o hb q) hf
  self := fun A i s Q E st h => let ⟨⟨_, he⟩, _⟩ := st; wpAny_pyIter_enum he h
set_option maxHeartbeats 1000000 in
theorem meets_enumerate_newB1 {v : Value} {o : Obj} {H : Heap → Prop} (B : Begins v o H) :
    Meets (Builtin.«enumerate.__new__» ⟨[.type "enumerate", v], []⟩) (fun _ R s => H s.heap ∧
      R (.ok (.ret (.ref (s.heap.push o).objs.size))) { s with heap := (s.heap.push o).push { cls := .type "enumerate", data := .fields #[.none, .bool false, .ref s.heap.objs.size, rawInt 0, .none, .none] } }) :=
  .of_wp fun prog w A R s h => by
    obtain ⟨hp, g, d, tk, os⟩ := s; obtain ⟨h1, h⟩ := h
    have hsub := sub_enumerate
    have q1 : ∀ {A' : Around} {E : Value → Shared → Prop} {Q : Value → Shared → Prop}, Q (.ref hp.objs.size) ⟨hp.push o, g, d, tk, os⟩ → wpAny (model prog w) A' (pyIter v) Q E ⟨hp, g, d, tk, os⟩ :=
      fun q => B.iter prog w _ _ ⟨hp, g, d, tk, os⟩ _ h1 q
    wp_walk using q1
    refine wpAny_stack_any fun st => wpAny_pure ?_
    split
    · rename_i c _ _ _ _ _
      cases (c == Value.type "enumerate")
      · wp_walk using q1
        exact ⟨_, rfl, h⟩
      · wp_walk using q1
        exact ⟨_, rfl, h⟩
    · wp_walk using q1
      exact ⟨_, rfl, h⟩
theorem enum_begins1 {prog : Program} {w : World} {A : Around} {E : Value → Shared → Prop} {s : Shared} {v : Value} {o : Obj} {H : Heap → Prop} {Q : Value → Shared → Prop} (B : Begins v o H) (h1 : H s.heap)
    (h : ∀ h', IsEnum h' (s.heap.objs.size + 1) s.heap.objs.size 0 .none → h'.get? s.heap.objs.size = some o → h'.objs.size = s.heap.objs.size + 2 →
      (∀ b o, s.heap.get? b = some o → h'.get? b = some o) → Q (.ref (s.heap.objs.size + 1)) { s with heap := h' }) :
    wpAny (model prog w) A (call (.type "enumerate") [v]) Q E s := by
  refine callType_new F.called_enumerate (by decide) (F.typeCall_enumerate_1 _) (F.newCall_enumerate_1 _) (fun obj => F.args_object_init_2 obj _) F.entry_enumerate_new
    (meets_enumerate_newB1 B) ⟨h1, ?_⟩
  have hz : (s.heap.push o).objs.size = s.heap.objs.size + 1 := Heap.size_push ..
  show _ ∧ _
  rw [hz]
  have he : IsEnum ((s.heap.push o).push { cls := .type "enumerate", data := .fields #[.none, .bool false, .ref s.heap.objs.size, rawInt 0, .none, .none] }) (s.heap.objs.size + 1) s.heap.objs.size 0 .none := by
    have := Heap.get?_push_size (s.heap.push o) (o := { cls := .type "enumerate", data := .fields #[.none, .bool false, .ref s.heap.objs.size, rawInt 0, .none, .none] }) rfl
    rw [hz] at this; exact this
  refine ⟨⟨_, he, rfl⟩, h _ he (Heap.get?_push_of_some _ (Heap.get?_push_size _ B.free)) (by rw [Heap.size_push, hz]) fun b o x => Heap.get?_push_of_some _ (Heap.get?_push_of_some _ x)⟩
def iEnumK (t : Bool) (K : PySem.W.Frag) (ta : TA) : TI := fun σ H R => ta σ H fun vs H1 => ∃ a xs, vs = [.ref a] ∧ SqK t K H1 a xs ∧ R (IteK t K a) H1
theorem pi_enumK (t : Bool) {X : Cx} {e : Expr} {ta : TA} {p pos tpos : Pos} {elts : List Expr} {kk : Nat} (hg : Gl X "enumerate") (hm : X.mg "enumerate" = none) (ha : PA X [e] ta) (hs : starEach [e] X.env = [(false, eval e X.env)] := by rfl) :
    PI X (.Tuple elts kk tpos) (.Call (.Name "enumerate" p) [e] [] pos) (iEnumK t X.K ta) := by
  refine ⟨fun pins s σ H R I h => ?_⟩
  refine Call_ (ld_blt I hg hm boot_enumerate (PyProof.Rows.callWith_type1 (thn (ha.run pos pins s σ H _ I h) fun us s1 ⟨vs, H1, I1, r1, q1⟩ => ?_) hs rfl))
  obtain ⟨a, xs, ex, hq, q⟩ := q1
  subst ex
  cases r1 with
  | cons r rr =>
    cases rr
    cases r
    obtain ⟨its, rv, p', hz⟩ := I1.sqk hq
    have hal := p'.lt
    refine enum_begins1 (begins_k t a its.toArray) p' fun h' he g1 hsz hk => wpAny_pyIter_enum he ?_
    have I2 : Inv X pins σ H1 { s1 with heap := h' } := I1.kept (t' := s1.toks) hk
    refine ⟨s1.heap.objs.size + 1, [s1.heap.objs.size + 1, s1.heap.objs.size], _, _, H1, rfl, I2, turn_enumK t a (s1.heap.objs.size + 1) s1.heap.objs.size (Nat.ne_of_lt (Nat.lt_succ_of_lt hal)) (Nat.ne_of_lt hal), ⟨⟨.none, he⟩, itK_new g1, Nat.succ_ne_self _⟩, fun b hb => ?_, q⟩
    have e' : b = s1.heap.objs.size + 1 ∨ b = s1.heap.objs.size := by simpa using hb
    have hle : s1.heap.objs.size ≤ b := by
      rcases e' with z | z
      · rw [z]; exact Nat.le_add_right _ _
      · rw [z]; exact Nat.le_refl _
    exact I1.fpOk hle (I1.hok.fresh hle)
theorem walk_enumK {t : Bool} {K : PySem.W.Frag} {a : Addr} {xs : List V} : Walk (IteK t K a) xs.length (fun H => SqK t K H a xs) (YPair (fun i => some (.int (i : Nat))) (fun i => xs[i]?)) := by
  refine ⟨fun i _ hi q => ⟨xs, xs[i], q, by simp [hi]⟩, fun _ q => ⟨xs, q, rfl⟩, fun i H v H' _ q y => ?_⟩
  obtain ⟨T, x, h1, h2, h3, h4⟩ := y
  exact ⟨T, .int (i : Nat), x, h1, h2, h3, rfl, h4 xs q⟩
end L2
end

section
set_option Elab.async false
set_option linter.all false
set_option maxRecDepth 100000
set_option maxHeartbeats 4000000
/-! the ground of the walks: heaps that grow, tuples of flat things, calls by name, comprehensions -/
namespace Dt
open PySem PySem.Spec PyProof.Rows L2
/-! ### the text by places -/
def topS (i : Nat) : Stmt := PySem.Challenge.pw_diagramtext_k37_whole_put_together.main.body.getD i (.Pass ⟨0, 0, 0, 0⟩)
abbrev s_first_pulls : Stmt := topS 6
abbrev s_residual_arcs : Stmt := topS 7
abbrev s_walk_rows : Stmt := topS 8
abbrev s_greatest_mean : Stmt := topS 9
abbrev s_least_mean_node : Stmt := topS 10
abbrev s_cycle_of : Stmt := topS 11
abbrev s_best_flows : Stmt := topS 12
abbrev s_implied_steps : Stmt := topS 13
abbrev s_raised : Stmt := topS 14
abbrev s_is_integer : Stmt := topS 16
abbrev s_is_among : Stmt := topS 17
abbrev s_is_row_of : Stmt := topS 23
abbrev s_is_pair_of : Stmt := topS 24
abbrev s_is_bound : Stmt := topS 25
abbrev s_is_term : Stmt := topS 26
abbrev s_has_ring : Stmt := topS 27
abbrev s_are_rows : Stmt := topS 28
abbrev s_need_problem : Stmt := topS 29
abbrev s_cost_of_term : Stmt := topS 30
abbrev s_bends_of : Stmt := topS 31
abbrev s_P_init : Stmt := inClass (topS 32) 0
abbrev s_P_is_feasible : Stmt := inClass (topS 32) 2
abbrev s_P_cost_of_row : Stmt := inClass (topS 32) 3
abbrev s_P_least_sum : Stmt := inClass (topS 32) 4
abbrev s_P_flows : Stmt := inClass (topS 32) 5
abbrev s_P_raised_from : Stmt := inClass (topS 32) 6
abbrev s_P_solve : Stmt := inClass (topS 32) 7
abbrev s_P_certify : Stmt := inClass (topS 32) 8
abbrev s_P_is_solution : Stmt := inClass (topS 32) 11
abbrev s_P_better : Stmt := inClass (topS 32) 12
abbrev s_L_source : Stmt := topS 34
abbrev s_L_next : Stmt := topS 35
abbrev s_L_pair_drawn : Stmt := topS 36
abbrev s_L_drawn_problem : Stmt := topS 37
abbrev s_L_given : Stmt := topS 38
abbrev s_L_cost : Stmt := topS 39
abbrev s_L_bends : Stmt := topS 40
abbrev s_L_balance : Stmt := topS 41
abbrev s_L_worth : Stmt := topS 42
abbrev s_L_integers : Stmt := topS 43
abbrev s_L_certifies : Stmt := topS 44
abbrev s_L_numbered : Stmt := topS 45
abbrev s_L_shuffled : Stmt := topS 46
abbrev s_L_implied : Stmt := topS 47
abbrev s_law : Stmt := topS 48
/-! ### heaps -/
/-- the tuples stand -/
def TEx (H H' : Hp) : Prop := ∀ a xs, H a = some (.tup xs) → H' a = some (.tup xs)
theorem TEx.refl (H : Hp) : TEx H H := fun _ _ h => h
theorem TEx.trans {H H1 H2 : Hp} (a : TEx H H1) (b : TEx H1 H2) : TEx H H2 := fun c x h => b c x (a c x h)
theorem TEx.of {H H' : Hp} (e : Same H H') : TEx H H' := fun a xs h => e a _ h
/-- what is no tuple may change -/
theorem TEx.mut {H : Hp} {a : Addr} {o o' : HO} (h : H a = some o) (n : ∀ xs, o ≠ .tup xs) : TEx H (upd H a o') := fun b xs e => by
  rw [upd_ne (ne_of e h fun z => n xs z.symm)]
  exact e
theorem TEx.lst {H : Hp} {a : Addr} {xs : List V} {o' : HO} (h : H a = some (.lst xs)) : TEx H (upd H a o') := TEx.mut h fun _ z => nomatch z
theorem TEx.new {H : Hp} {a : Addr} {o : HO} (h : H a = none) : TEx H (upd H a o) := fun b xs e => by
  rw [upd_ne (ne_of_none e h)]
  exact e
theorem same_new {H : Hp} {p : Addr} {o : HO} (h : H p = none) : Same H (upd H p o) := fun b x e => by
  rw [upd_ne (ne_of_none e h)]
  exact e
/-- an object that the first heap does not know may change -/
theorem _root_.L2.Same.mut {H H' : Hp} {p : Addr} {o : HO} (e : Same H H') (h : H p = none) : Same H (upd H' p o) := fun a u ha => by
  rw [upd_ne (ne_of_none ha h)]
  exact e a u ha
theorem _root_.L2.Same.sqt {K : PySem.W.Frag} {H H' : Hp} {a : Addr} {xs : List V} (e : Same H H') (h : SqT K H a xs) : SqT K H' a xs := by
  rcases h with (h | ⟨o, h⟩) | h
  · exact .inl (.inl (e _ _ h))
  · exact .inl (.inr ⟨o, e _ _ h⟩)
  · exact .inr h
/-! ### tuples of flat things -/
/-- v is a tuple of xs -/
def Tp (H : Hp) (v : V) (xs : List V) : Prop := ∃ p, v = .ref p ∧ H p = some (.tup xs)
theorem Tp.mono {H H' : Hp} {v : V} {xs : List V} (e : TEx H H') (h : Tp H v xs) : Tp H' v xs := by
  obtain ⟨p, rfl, h⟩ := h
  exact ⟨p, rfl, e _ _ h⟩
theorem Tp.sq {K : PySem.W.Frag} {H : Hp} {v : V} {xs : List V} (h : Tp H v xs) : ∃ p, v = .ref p ∧ SqT K H p xs := by
  obtain ⟨p, rfl, h⟩ := h
  exact ⟨p, rfl, SqT.of h⟩
/-- place by place -/
structure Rep {δ : Type} (R : V → δ → Prop) (vs : List V) (ds : List δ) : Prop where
  len : vs.length = ds.length
  at_ : ∀ (i : Nat) (v : V), vs[i]? = some v → ∃ d, ds[i]? = some d ∧ R v d
theorem Rep.nil {δ : Type} {R : V → δ → Prop} : Rep R [] [] := ⟨rfl, fun i v h => by simp at h⟩
theorem Rep.snoc {δ : Type} {R : V → δ → Prop} {vs : List V} {ds : List δ} (h : Rep R vs ds) {v : V} {d : δ} (r : R v d) : Rep R (vs ++ [v]) (ds ++ [d]) := by
  refine ⟨by rw [List.length_append, List.length_append, h.len]; rfl, fun i u e => ?_⟩
  rcases snoc_at e with e | ⟨rfl, rfl⟩
  · obtain ⟨d', h1, h2⟩ := h.at_ i u e
    exact ⟨d', by rw [List.getElem?_append_left (List.getElem?_eq_some_iff.mp h1).1]; exact h1, h2⟩
  · refine ⟨d, ?_, r⟩
    rw [h.len, List.getElem?_append_right (Nat.le_refl _), Nat.sub_self]
    rfl
theorem Rep.mono {δ : Type} {R R' : V → δ → Prop} {vs : List V} {ds : List δ} (h : Rep R vs ds) (f : ∀ v d, R v d → R' v d) : Rep R' vs ds :=
  ⟨h.len, fun i v e => let ⟨d, h1, h2⟩ := h.at_ i v e; ⟨d, h1, f v d h2⟩⟩
theorem Rep.get {δ : Type} {R : V → δ → Prop} {vs : List V} {ds : List δ} (h : Rep R vs ds) {i : Nat} {d : δ} (e : ds[i]? = some d) : ∃ v, vs[i]? = some v ∧ R v d := by
  have hi : i < vs.length := by rw [h.len]; exact (List.getElem?_eq_some_iff.mp e).1
  obtain ⟨d', h1, h2⟩ := h.at_ i vs[i] (List.getElem?_eq_getElem hi)
  rw [e] at h1
  cases h1
  exact ⟨vs[i], List.getElem?_eq_getElem hi, h2⟩
theorem Rep.append {δ : Type} {R : V → δ → Prop} {vs us : List V} {ds es : List δ} (h : Rep R vs ds) (g : Rep R us es) : Rep R (vs ++ us) (ds ++ es) := by
  refine ⟨by rw [List.length_append, List.length_append, h.len, g.len], fun i v e => ?_⟩
  by_cases hi : i < vs.length
  · rw [List.getElem?_append_left hi] at e
    obtain ⟨d, h1, h2⟩ := h.at_ i v e
    exact ⟨d, by rw [List.getElem?_append_left (by rw [← h.len]; exact hi)]; exact h1, h2⟩
  · rw [List.getElem?_append_right (by omega)] at e
    obtain ⟨d, h1, h2⟩ := g.at_ _ v e
    exact ⟨d, by rw [List.getElem?_append_right (by rw [← h.len]; omega), ← h.len]; exact h1, h2⟩
/-- values by a function -/
theorem Rep.eq_map {δ : Type} {enc : δ → V} {vs : List V} {ds : List δ} (h : Rep (fun v d => v = enc d) vs ds) : vs = ds.map enc := by
  apply List.ext_getElem?
  intro i
  rw [List.getElem?_map]
  by_cases hi : i < vs.length
  · obtain ⟨d, h1, h2⟩ := h.at_ i vs[i] (List.getElem?_eq_getElem hi)
    rw [List.getElem?_eq_getElem hi, h1, h2]
    rfl
  · rw [List.getElem?_eq_none (by omega), List.getElem?_eq_none (by rw [← h.len]; omega)]
    rfl
theorem rep_map {δ : Type} (enc : δ → V) (ds : List δ) : Rep (fun v d => v = enc d) (ds.map enc) ds := by
  refine ⟨by rw [List.length_map], fun i v e => ?_⟩
  rw [List.getElem?_map] at e
  cases h : ds[i]? with
  | none => rw [h] at e; cases e
  | some d => rw [h] at e; exact ⟨d, rfl, (Option.some.inj e).symm⟩
/-- tuples, told by enc -/
abbrev Tps {δ : Type} (enc : δ → List V) (H : Hp) (vs : List V) (ds : List δ) : Prop := Rep (fun v d => Tp H v (enc d)) vs ds
theorem Tps.mono {δ : Type} {enc : δ → List V} {H H' : Hp} {vs : List V} {ds : List δ} (e : TEx H H') (h : Tps enc H vs ds) : Tps enc H' vs ds := Rep.mono h fun _ _ t => t.mono e
/-- a tuple of tuples -/
def TuT {δ : Type} (enc : δ → List V) (H : Hp) (v : V) (ds : List δ) : Prop := ∃ p vs, v = .ref p ∧ H p = some (.tup vs) ∧ Tps enc H vs ds
theorem TuT.mono {δ : Type} {enc : δ → List V} {H H' : Hp} {v : V} {ds : List δ} (e : TEx H H') (h : TuT enc H v ds) : TuT enc H' v ds := by
  obtain ⟨p, vs, rfl, h1, h2⟩ := h
  exact ⟨p, vs, rfl, e _ _ h1, h2.mono e⟩
/-- a list of tuples -/
def LsT {δ : Type} (enc : δ → List V) (H : Hp) (v : V) (ds : List δ) : Prop := ∃ p vs, v = .ref p ∧ H p = some (.lst vs) ∧ Tps enc H vs ds
theorem LsT.mono {δ : Type} {enc : δ → List V} {H H' : Hp} {v : V} {ds : List δ} (e : Same H H') (h : LsT enc H v ds) : LsT enc H' v ds := by
  obtain ⟨p, vs, rfl, h1, h2⟩ := h
  exact ⟨p, vs, rfl, e _ _ h1, h2.mono (TEx.of e)⟩
def bdV (b : Bd) : List V := [.int b.i, .int b.j, .int b.d]
def lnV (l : Ln) : List V := [.int l.i, .int l.j, .int l.w]
def bnV (b : Bn) : List V := [.int b.i, .int b.j, .int b.k, .int b.w]
def tmV : Tm → List V
  | .ln l => [.str "line", .int l.i, .int l.j, .int l.w]
  | .bn b => [.str "bend", .int b.i, .int b.j, .int b.k, .int b.w]
def optV : Option Int → V
  | none => .non
  | some i => .int i
def arcV (a : Arc) : List V := [.int a.u, .int a.v, .int a.c, optV a.most, .int a.kind, .int a.ix, .int a.sg]
def stV (a : Arc) : List V := [.int a.u, .int a.v, .int (0 - a.c)]
theorem _root_.L2.Room.units65 {k : Nat} {A : Around} (r : Room k A) : A.units + 65 < cLine := by have := r.un; omega
/-! ### names -/
structure Txt (K : PySem.W.Frag) (mg : Str → Option Value) : Prop where
  abs : mg "abs" = none
  all : mg "all" = none
  bool : mg "bool" = none
  enumerate : mg "enumerate" = none
  int : mg "int" = none
  isinstance : mg "isinstance" = none
  len : mg "len" = none
  list : mg "list" = none
  max : mg "max" = none
  min : mg "min" = none
  range : mg "range" = none
  sorted : mg "sorted" = none
  str : mg "str" = none
  sum : mg "sum" = none
  tuple : mg "tuple" = none
  zip : mg "zip" = none
  cMS : ∃ t, mg "MAX_SIZE" = some (.int 12 t)
  cMR : ∃ t, mg "MAX_ROWS" = some (.int 40 t)
  cMN : ∃ t, mg "MAX_NUMBER" = some (.int 1000000 t)
  cMC : ∃ t, mg "MAX_COST" = some (.int 100 t)
/-- a global def that keeps its promise -/
structure Cal (P : Program) (w : World) (K : PySem.W.Frag) (mg : Str → Option Value) (base : Heap) (x : Str) (k : Nat) (ps : List Str) (sp : Sp) : Prop where
  ex : ∃ (f : Addr) (fd : FuncData), FnOk P w K mg base CX0 k f fd ps sp ∧ mg x = some (.ref f) ∧ PySem.W.keepIn K (.ref f) = true ∧ Binds K fd ps []
/-- a method -/
structure MCal (P : Program) (w : World) (K : PySem.W.Frag) (mg : Str → Option Value) (base : Heap) (C : Addr) (x : Str) (k : Nat) (ps : List Str) (sp : Sp) : Prop where
  ex : ∃ (f : Addr) (fd : FuncData), FnOk P w K mg base CX0 k f fd ps sp ∧ Meth K C x f ∧ Binds K fd ps []
section
variable {X : Cx}
theorem pe_gI {x : Str} {i : Int} {pos : Pos} (h : ∃ t, X.mg x = some (.int i t)) (hg : Gl X x := by rfl) (hd : (x == ("__debug__" : Str)) = false := by decide) : PE X (.Name x pos) (tC (.int i)) := by
  obtain ⟨t, h⟩ := h
  exact pe_glob hg h ⟨t, rfl⟩ hd
theorem pe_gF {x : Str} {f : Addr} {pos : Pos} (h : X.mg x = some (.ref f)) (hg : Gl X x := by rfl) (hd : (x == ("__debug__" : Str)) = false := by decide) : PE X (.Name x pos) (tC (.ref f)) := pe_glob hg h rfl hd
theorem pe_cal {j k : Nat} {x : Str} {ps : List Str} {sp : Sp} {p pos : Pos} {e : Expr} {es : List Expr} {t : TA} (C : Cal X.prog X.w X.K X.mg X.base x j ps sp) (hr : Room k X.A) (hjk : j ≤ k) (ha : PA X (e :: es) t) (hg : Gl X x := by rfl)
    (hdb : (x == ("__debug__" : Str)) = false := by decide) (he : starEach (e :: es) X.env = (false, eval e X.env) :: starEach es X.env := by rfl) (hpl : (backTo pos (starEach es X.env)).any (·.1) = false := by rfl) :
    PE X (.Call (.Name x p) (e :: es) [] pos) (tCall sp [] E0 t) := by
  obtain ⟨f, fd, F, hm, hk, hb⟩ := C.ex
  exact pe_call F (hr.mono hjk) hg hm hk hb .nil pass0 ha hdb he hpl
theorem pe_mcal {j k : Nat} {C : Addr} {m : Str} {ps : List Str} {sp : Sp} {pl : Sem Bool} {pos apos : Pos} {o e : Expr} {es : List Expr} {ta : TE} {t : TA} (he : PE X o ta) (c : Cls X.K C) (M : MCal X.prog X.w X.K X.mg X.base C m j ps sp) (hr : Room k X.A) (hjk : j ≤ k) (ha : PA X (e :: es) t)
    (hst : starEach (e :: es) X.env = (false, eval e X.env) :: starEach es X.env := by rfl) (hpl : (backTo pos (starEach es X.env)).any (·.1) = false := by rfl)
    (ht : eval (.Call (.Attribute o m apos) (e :: es) [] pos) X.env = (do
      let ov ← eval o X.env
      standAt apos.atName
      let (f, first) ← holding [ov] (getMethod ov m pl)
      callWith pos f first (backTo pos (starEach (e :: es) X.env)) (backToKw pos (keywordEach [] X.env))) := by rfl) :
    PE X (.Call (.Attribute o m apos) (e :: es) [] pos) (tMeth C m sp [] E0 ta t) := by
  obtain ⟨f, fd, F, hm, hb⟩ := M.ex
  exact pe_meth he c hm F (hr.mono hjk) hb .nil pass0 ha hst hpl ht
theorem pe_mcal0 {j k : Nat} {C : Addr} {m : Str} {ps : List Str} {sp : Sp} {pl : Sem Bool} {pos apos : Pos} {o : Expr} {ta : TE} (he : PE X o ta) (c : Cls X.K C) (M : MCal X.prog X.w X.K X.mg X.base C m j ps sp) (hr : Room k X.A) (hjk : j ≤ k)
    (ht : eval (.Call (.Attribute o m apos) [] [] pos) X.env = (do
      let ov ← eval o X.env
      standAt apos.atName
      let (f, first) ← holding [ov] (getMethod ov m pl)
      callWith pos f first (backTo pos (starEach [] X.env)) (backToKw pos (keywordEach [] X.env))) := by rfl) :
    PE X (.Call (.Attribute o m apos) [] [] pos) (tMeth C m sp [] E0 ta tNil) := by
  obtain ⟨f, fd, F, hm, hb⟩ := M.ex
  exact pe_meth0 he c hm F (hr.mono hjk) hb .nil pass0 ht
end
section
variable {P : Program} {w : World} {K : PySem.W.Frag} {mg : Str → Option Value} {base : Heap}
/-- THE RULE for a def -/
theorem ok_by {x qual : Str} {params : Arguments} {body : List Stmt} {scope : Scope} {dvs : List V} {kws : List (Str × V)} {f : Addr} {fd : FuncData} {N ps : List Str} {k : Nat} {sp : Sp} (F : FunD K x qual params body scope dvs kws f fd) (S : FnScope N ps scope) (len : ∀ vs H Q E, sp vs H Q E → vs.length = ps.length)
    (hbody : ∀ (cdv : Value) (A : Around) (outer : List Env) (s : Shared) (H : Hp) (vs : List V) (Q : VK) (E : XK), Room k (A.deeper (envOfC qual scope s.heap.objs.size f cdv)) → sp vs H Q E →
      ∃ t, PSs (cxOf CX0 P w K mg base N qual scope f cdv A outer s H E).nox body t ∧ t { nx := fun _ H' => Q .non H', rt := Q } (start N vs) H) : FnOk P w K mg base CX0 (k + 1) f fd ps sp :=
  F.ok S len fun cdv A outer s H vs Q E hr h => let ⟨t, h1, h2⟩ := hbody cdv A outer s H vs Q E hr h; ⟨t, h1.nox, h2⟩
end
/-! ### rules whose written part is named (for the blocks of comprehensions) -/
section
variable {X : Cx} (K : PySem.W.Frag)
theorem pg_tupK {es : List Expr} {k : Nat} {t : TGs} {pos : Pos} (n : Nat) (hc : X.calm = true) (h : PGs X es t) (hn : (assignEach es X.env).length = n := by rfl) (hst : (assignEach es X.env).findIdx? (·.1) = none := by rfl) (hK : X.K = K := by rfl) : PG X (.Tuple es k pos) (gTup K n t) := hK ▸ pg_tup hc h hn hst
theorem ix_tupK (h : X.K = K := by rfl) : IxR X (rIxT K) := h ▸ ix_tup
theorem ix_listK (h : X.K = K := by rfl) : IxR X (rIxL K) := h ▸ ix_list
theorem sl_tupK (h : X.K = K := by rfl) : SlR X (rSlT K) := h ▸ sl_tup
theorem sl_listK (h : X.K = K := by rfl) : SlR X (rSlL K) := h ▸ sl_list
theorem op_inK (h : X.K = K := by rfl) : OpR X (compareOp .In) (rIn K false) := h ▸ op_in_seq
theorem op_notInK (h : X.K = K := by rfl) : OpR X (compareOp .NotIn) (rIn K true) := h ▸ op_notIn_seq
theorem op_inDK {k : Nat} (hr : Room k X.A) (h : X.K = K := by rfl) : OpR X (compareOp .In) (rInD K) := h ▸ op_inD hr.units65
theorem call_isiK' (h : X.K = K := by rfl) : CallR X (.builtin "isinstance") (rIsi K) := h ▸ call_isi
end
/-- the class Problem -/
structure Zt (K : PySem.W.Frag) (mg : Str → Option Value) (C : Addr) : Prop where
  cl : Cls K C
  nS : NoAttr K C "size"
  nB : NoAttr K C "bounds"
  nL : NoAttr K C "lows"
  nT : NoAttr K C "terms"
  nF : NoAttr K C "known_flows"
/-! ### comprehensions -/
theorem filterMap_succ {δ : Type} (f : Nat → Option δ) (n : Nat) : (List.range (n + 1)).filterMap f = (List.range n).filterMap f ++ (f n).toList := by
  rw [List.range_succ, List.filterMap_append]
  congr 1
theorem lc_rep {δ : Type} {J : It} {n : Nat} {G : Hp → Prop} {Y : Nat → Hp → V → Hp → Prop} (w : Walk J n G Y) {g : TG} {tt : TT} {te : TE} {vs : List Nat} {σ : L2.St} {H1 : Hp} {Q : Addr → Hp → Prop} (Rr : Hp → V → δ → Prop) (mono : ∀ H H' v d, TEx H H' → Rr H v d → Rr H' v d)
    (hG : ∀ H', Same H1 H' → G H') (f : Nat → Option δ) (hn : n ≤ 1000)
    (hs : ∀ i x H H', i < n → Same H1 H → Y i H x H' → ∀ (K1 : V → Hp → Prop) (K0 : Hp → Prop), (∀ y d H4, Same H H4 → f i = some d → Rr H4 y d → K1 y H4) → (∀ H3, Same H H3 → f i = none → K0 H3) →
      g x (wipe σ vs) H' fun σ2 H2 => wipe σ2 vs = wipe σ vs ∧ tt σ2 H2 fun b H3 => if b = true then te σ2 H3 K1 else K0 H3)
    (hd : ∀ D ys H', H1 D = none → Same H1 H' → H' D = some (.lst ys) → Rep (Rr H') ys ((List.range n).filterMap f) → Q D H') :
    ∀ D, H1 D = none → ∃ W : Nat → Nat → Hp → Prop, (∃ m, W 0 m (upd H1 D (.lst []))) ∧ ∀ i m H, W i m H →
      (J.stop i H ∧ Q D H) ∨ (J.go i H ∧ ∃ Nx : Hp → Prop, (∀ H', Nx H' → ∃ m', m' < m ∧ W (i + 1) m' H') ∧ ∀ x H', J.yld i H x H' → g x (wipe σ vs) H' fun σ2 H2 => wipe σ2 vs = wipe σ vs ∧ tt σ2 H2 fun b H3 =>
        if b = true then te σ2 H3 fun y H4 => ∃ acc, H4 D = some (.lst acc) ∧ acc.length < sizeLine ∧ Nx (upd H4 D (.lst (acc ++ [y]))) else Nx H3) := fun D hD =>
  lc_it w (Qd := fun H => Q D H) (fun i H => Same H1 H ∧ ∃ ys, H D = some (.lst ys) ∧ ys.length ≤ i ∧ Rep (Rr H) ys ((List.range i).filterMap f))
    ⟨same_new hD, [], upd_same, Nat.le_refl _, Rep.nil⟩ (fun i H _ p => hG H p.1)
    (fun i x H H' hi p y => by
      obtain ⟨s1, ys, hy, hl, hr⟩ := p
      refine hs i x H H' hi s1 y _ _ (fun v d H4 s4 hf hv => ?_) fun H3 s3 hf => ?_
      · refine ⟨ys, s4 _ _ hy, small1000 (by omega), Same.mut (s1.trans s4) hD, ys ++ [v], upd_same, by rw [List.length_append, List.length_singleton]; omega, ?_⟩
        rw [filterMap_succ, hf]
        have t : TEx H4 (upd H4 D (.lst (ys ++ [v]))) := TEx.lst (s4 _ _ hy)
        exact Rep.snoc (Rep.mono hr fun u e r => mono _ _ _ _ ((TEx.of s4).trans t) r) (mono _ _ _ _ t hv)
      · refine ⟨s1.trans s3, ys, s3 _ _ hy, by omega, ?_⟩
        rw [filterMap_succ, hf]
        show Rep (Rr H3) ys (_ ++ [])
        rw [List.append_nil]
        exact Rep.mono hr fun u e r => mono _ _ _ _ (TEx.of s3) r)
    fun H p => by
      obtain ⟨s1, ys, hy, _, hr⟩ := p
      exact hd D ys H hD s1 hy hr
/-- a comprehension whose every item is kept -/
theorem filterMap_all {δ : Type} (f : Nat → δ) (n : Nat) : (List.range n).filterMap (fun i => some (f i)) = (List.range n).map f := by
  rw [← List.filterMap_eq_map]
  rfl
/-! ### small words -/
theorem q_bl {Q : VK} {H : Hp} {b c : Bool} (e : b = c) (k : Q (.bl c) H) : Q (.bl b) H := by
  rw [e]
  exact k
theorem blT {p : Prop} [Decidable p] (h : p) : V.bl (decide p) = V.bl true := congrArg V.bl (decide_eq_true h)
theorem blF {p : Prop} [Decidable p] (h : ¬ p) : V.bl (decide p) = V.bl false := congrArg V.bl (decide_eq_false h)
theorem iteD {c A B : Prop} [Decidable c] (hc : c) (h : A) : if decide c = true then A else B := by
  rw [decide_eq_true hc]
  exact iteT h
theorem iteN {c A B : Prop} [Decidable c] (hc : ¬ c) (h : B) : if decide c = true then A else B := by
  rw [decide_eq_false hc]
  exact iteF h
theorem iteND {c A B : Prop} [Decidable c] (hc : ¬ c) (h : A) : if (!decide c) = true then A else B := by
  rw [decide_eq_false hc]
  exact iteT h
theorem tyes {te : TE} {σ : L2.St} {H : Hp} {K1 : V → Hp → Prop} {K0 : Hp → Prop} (h : te σ H K1) : tYes σ H (fun b H3 => if b = true then te σ H3 K1 else K0 H3) := iteT (B := K0 H) h
/-- all([.. for ..]), every item kept is True -/
theorem lc_all {J : It} {n : Nat} {G : Hp → Prop} {Y : Nat → Hp → V → Hp → Prop} (w : Walk J n G Y) {g : TG} {tt : TT} {te : TE} {vs : List Nat} {σ : L2.St} {H1 : Hp} {Q : Addr → Hp → Prop}
    (hG : ∀ H', Same H1 H' → G H') (kept : Nat → Bool) (hn : n ≤ 1000)
    (hs : ∀ i x H H', i < n → Same H1 H → Y i H x H' → ∀ (K1 : V → Hp → Prop) (K0 : Hp → Prop), (∀ H4, Same H H4 → kept i = true → K1 (.bl true) H4) → (∀ H3, Same H H3 → kept i = false → K0 H3) →
      g x (wipe σ vs) H' fun σ2 H2 => wipe σ2 vs = wipe σ vs ∧ tt σ2 H2 fun b H3 => if b = true then te σ2 H3 K1 else K0 H3)
    (hd : ∀ D (bs : List Bool) H', Same H1 H' → H' D = some (.lst (bs.map V.bl)) → bs.all id = true → Q D H') :
    ∀ D, H1 D = none → ∃ W : Nat → Nat → Hp → Prop, (∃ m, W 0 m (upd H1 D (.lst []))) ∧ ∀ i m H, W i m H →
      (J.stop i H ∧ Q D H) ∨ (J.go i H ∧ ∃ Nx : Hp → Prop, (∀ H', Nx H' → ∃ m', m' < m ∧ W (i + 1) m' H') ∧ ∀ x H', J.yld i H x H' → g x (wipe σ vs) H' fun σ2 H2 => wipe σ2 vs = wipe σ vs ∧ tt σ2 H2 fun b H3 =>
        if b = true then te σ2 H3 fun y H4 => ∃ acc, H4 D = some (.lst acc) ∧ acc.length < sizeLine ∧ Nx (upd H4 D (.lst (acc ++ [y]))) else Nx H3) :=
  lc_rep w (Q := Q) (fun _ v d => v = .bl d) (fun _ _ _ _ _ h => h) hG (fun i => if kept i then some true else none) hn
    (fun i x H H' hi s y K1 K0 h1 h0 => hs i x H H' hi s y K1 K0 (fun H4 s4 hk => h1 _ true H4 s4 (by rw [hk]; rfl) rfl) fun H3 s3 hk => h0 H3 s3 (by rw [hk]; rfl))
    fun D ys H' nD sD hD hR => by
      refine hd D ((List.range n).filterMap (fun i => if kept i then some true else none)) H' sD (by rw [← hR.eq_map]; exact hD) ?_
      rw [List.all_eq_true]
      intro b hb
      obtain ⟨i, _, hi⟩ := List.mem_filterMap.mp hb
      split at hi
      · cases hi
        rfl
      · cases hi
/-- what a test keeps of a list, by the turn -/
def kp {δ : Type} (l : List δ) (p : δ → Bool) (i : Nat) : Option δ := match l[i]? with
  | some x => if p x then some x else none
  | none => none
theorem kp_yes {δ : Type} {l : List δ} {p : δ → Bool} {i : Nat} {d : δ} (h : l[i]? = some d) (hp : p d = true) : kp l p i = some d := by
  unfold kp
  rw [h]
  exact if_pos hp
theorem kp_no {δ : Type} {l : List δ} {p : δ → Bool} {i : Nat} {d : δ} (h : l[i]? = some d) (hp : p d = false) : kp l p i = none := by
  unfold kp
  rw [h]
  exact if_neg (by rw [hp]; exact Bool.false_ne_true)
theorem kp_filter {δ : Type} (p : δ → Bool) : ∀ (l : List δ), (List.range l.length).filterMap (kp l p) = l.filter p
  | [] => rfl
  | a :: r => by
    have ih := kp_filter p r
    rw [List.length_cons, List.range_succ_eq_map, List.filterMap_cons, List.filterMap_map]
    have e : (kp (a :: r) p) ∘ Nat.succ = kp r p := by
      funext i
      unfold kp
      simp
    rw [e, ih]
    by_cases h : p a = true
    · rw [kp_yes (d := a) rfl h, List.filter_cons_of_pos h]
    · rw [kp_no (d := a) rfl (by simpa using h), List.filter_cons_of_neg h]
/-- all of it -/
theorem at_all {δ : Type} : ∀ (l : List δ), (List.range l.length).filterMap (fun i => l[i]?) = l
  | [] => rfl
  | a :: r => by
    have ih := at_all r
    rw [List.length_cons, List.range_succ_eq_map, List.filterMap_cons, List.filterMap_map]
    have e : (fun i => (a :: r)[i]?) ∘ Nat.succ = fun i => r[i]? := by
      funext i
      simp
    rw [e, ih]
    rfl
def natsI (n : Nat) : List Int := (List.range n).map fun i : Nat => (i : Int)
theorem natsI_len (n : Nat) : (natsI n).length = n := by simp [natsI]
theorem natsI_mem {n : Nat} {z : Int} (h : z ∈ natsI n) : 0 ≤ z ∧ z < n := by
  unfold natsI at h
  obtain ⟨i, hi, rfl⟩ := List.mem_map.mp h
  have := List.mem_range.mp hi
  omega
theorem rgV_nats (n : Nat) : rgV 0 (n : Int) = (natsI n).map V.int := by
  unfold rgV natsI
  rw [List.map_map]
  simp
/-! ### data -/
theorem dpAll_of {δ : Type} {K : PySem.W.Frag} {H : Hp} (e : δ → PyData) : ∀ {vs : List V} {ds : List δ}, Rep (fun v d => Dp K H v (e d)) vs ds → DpAll K H vs (ds.map e)
  | [], [], _ => .nil
  | [], _ :: _, h => by have := h.len; simp at this
  | _ :: _, [], h => by have := h.len; simp at this
  | v :: vs, d :: ds, h => by
    obtain ⟨d', h1, h2⟩ := h.at_ 0 v rfl
    have ed : d = d' := Option.some.inj h1
    rw [← ed] at h2
    exact .cons h2 (dpAll_of e ⟨by simpa using h.len, fun i u eu => h.at_ (i + 1) u eu⟩)
def intD (l : List Int) : PyData := .tuple (l.map PyData.int)
theorem intD_dp {K : PySem.W.Frag} {H : Hp} : ∀ l : List Int, DpAll K H (l.map V.int) (l.map PyData.int)
  | [] => .nil
  | i :: l => .cons (.int i) (intD_dp l)
theorem ints_lay : ∀ l : List Int, PyData.canLayAll0 (l.map PyData.int) = true
  | [] => by simp [PyData.canLayAll0]
  | i :: l => by simp [PyData.canLayAll0, PyData.canLay0, ints_lay l]
theorem ints_depth : ∀ l : List Int, PyData.depthAll (l.map PyData.int) ≤ 1
  | [] => by simp [PyData.depthAll]
  | i :: l => by
    have := ints_depth l
    simp only [List.map_cons, PyData.depthAll, PyData.depth]
    omega
theorem intD_shaped (l : List Int) : SeqAt.shaped (intD l) = true := by
  have h1 := ints_depth l
  have h2 := ints_lay l
  show ((intD l).canLay0 && decide ((intD l).depth ≤ 64)) = true
  rw [Bool.and_eq_true]
  refine ⟨?_, decide_eq_true ?_⟩
  · show PyData.canLay0 (.tuple (l.map PyData.int)) = true
    simp only [PyData.canLay0]
    exact h2
  · show PyData.depth (.tuple (l.map PyData.int)) ≤ 64
    simp only [PyData.depth]
    omega
theorem intDs_lay {δ : Type} (e : δ → List Int) : ∀ ds : List δ, PyData.canLayAll0 (ds.map fun d => intD (e d)) = true
  | [] => by simp [PyData.canLayAll0]
  | d :: ds => by
    have h1 := intDs_lay e ds
    have h2 : (intD (e d)).canLay0 = true := by
      show PyData.canLay0 (.tuple ((e d).map PyData.int)) = true
      simp only [PyData.canLay0]
      exact ints_lay (e d)
    simp only [List.map_cons, PyData.canLayAll0, h1, h2, Bool.and_self]
theorem intDs_depth {δ : Type} (e : δ → List Int) : ∀ ds : List δ, PyData.depthAll (ds.map fun d => intD (e d)) ≤ 2
  | [] => by simp [PyData.depthAll]
  | d :: ds => by
    have h1 := intDs_depth e ds
    have h2 : (intD (e d)).depth ≤ 2 := by
      show PyData.depth (.tuple ((e d).map PyData.int)) ≤ 2
      have := ints_depth (e d)
      simp only [PyData.depth]
      omega
    simp only [List.map_cons, PyData.depthAll]
    omega
theorem intDs_shaped {δ : Type} (e : δ → List Int) (ds : List δ) : SeqAt.shaped (.list (ds.map fun d => intD (e d))) = true := by
  have h1 := intDs_depth e ds
  have h2 := intDs_lay e ds
  show (PyData.canLay0 (.list (ds.map fun d => intD (e d))) && decide (PyData.depth (.list (ds.map fun d => intD (e d))) ≤ 64)) = true
  rw [Bool.and_eq_true]
  refine ⟨by simp only [PyData.canLay0]; exact h2, decide_eq_true ?_⟩
  simp only [PyData.depth]
  omega
theorem intL_shaped (l : List Int) : SeqAt.shaped (.list (l.map PyData.int)) = true := by
  have h1 := ints_depth l
  have h2 := ints_lay l
  show (PyData.canLay0 (.list (l.map PyData.int)) && decide (PyData.depth (.list (l.map PyData.int)) ≤ 64)) = true
  rw [Bool.and_eq_true]
  refine ⟨by simp only [PyData.canLay0]; exact h2, decide_eq_true ?_⟩
  simp only [PyData.depth]
  omega
theorem eqv_pair (a b c d : Int) : PyData.eqv (intD [a, b]) (intD [c, d]) = decide (a = c ∧ b = d) := by
  have e : PyData.eqv (intD [a, b]) (intD [c, d]) = ((a == c) && ((b == d) && true)) := by simp only [intD, List.map_cons, List.map_nil, PyData.eqv, PyData.eqvAll]
  rw [e]
  by_cases h1 : a = c
  · by_cases h2 : b = d
    · simp [h1, h2]
    · simp [h1, h2]
  · simp [h1]
/-- ints in a list of ints -/
theorem inV_ints (a : Int) : ∀ l : List Int, inV (.int a) (l.map V.int) = decide (a ∈ l)
  | [] => rfl
  | b :: l => by
    have ih := inV_ints a l
    have e : inV (.int a) ((b :: l).map V.int) = (eqV (.int b) (.int a) || inV (.int a) (l.map V.int)) := rfl
    rw [e, ih]
    have e2 : eqV (.int b) (.int a) = decide (b = a) := by
      show (b == a) = decide (b = a)
      exact Bool.beq_eq_decide_eq b a
    rw [e2]
    by_cases h : b = a
    · subst h
      simp
    · have h' : ¬ a = b := fun z => h z.symm
      simp [h, h']
theorem flat_ints (l : List Int) : (l.map V.int).all flatV = true := by
  rw [List.all_eq_true]
  intro v hv
  obtain ⟨i, _, rfl⟩ := List.mem_map.mp hv
  rfl
end Dt
end

section
set_option Elab.async false
set_option linter.all false
set_option maxRecDepth 100000
set_option maxHeartbeats 4000000
/-! the walks of kinds.py -/
namespace Dt
open PySem PySem.Spec PyProof.Rows L2
section
variable {P : Program} {w : World} {K : PySem.W.Frag} {mg : Str → Option Value} {base : Heap}
abbrev n_is_integer : List Str := ["value"]
abbrev p_is_integer : List Str := ["value"]
theorem sc_is_integer : FnScope n_is_integer p_is_integer (defScope s_is_integer) := ⟨rfl, rfl, rfl, by decide +kernel, rfl, by decide +kernel, by decide +kernel⟩
def sp_is_integer : Sp := fun vs H Q _ => ∃ i : Int, vs = [.int i] ∧ Q (.bl true) H
theorem ok_is_integer {f : Addr} {fd : FuncData} (F : FunD K "is_integer" "is_integer" (defArgs s_is_integer) (defBody s_is_integer) (defScope s_is_integer) [] [] f fd) (T : Txt K mg) : FnOk P w K mg base CX0 1 f fd p_is_integer sp_is_integer := by
  refine ok_by F sc_is_integer (fun vs H Q E h => ?_) (fun cdv A outer s H vs Q E hr h => ?_)
  · obtain ⟨i, rfl, _⟩ := h
    rfl
  · obtain ⟨i, rfl, k⟩ := h
    refine ⟨_, (pss_one (ps_ret (pe_and (pe_callB (call_isiK' K) (by rfl) T.isinstance (by decide +kernel) (pa_cons (pv 0) (pa_cons (pe_bltn (v := .ty "int") (by rfl) T.int (by decide +kernel) rfl) pa_nil))) (pe_one (pe_not (pe_callB (call_isiK' K) (by rfl) T.isinstance (by decide +kernel) (pa_cons (pv 0) (pa_cons (pe_bltn (v := .ty "bool") (by rfl) T.bool (by decide +kernel) rfl) pa_nil)))))))), ?_⟩
    refine ⟨_, rfl, .int i, .ty "int", .type "int", .type "int", true, rfl, .ty _, .base (.int i), kit_ty (by decide +kernel), true, rfl, iteT ?_⟩
    refine ⟨_, rfl, .int i, .ty "bool", .type "int", .type "bool", false, rfl, .ty _, .base (.int i), kit_ty (by decide +kernel), false, rfl, ?_⟩
    exact k
abbrev n_is_among : List Str := ["value", "least", "most"]
abbrev p_is_among : List Str := ["value", "least", "most"]
theorem sc_is_among : FnScope n_is_among p_is_among (defScope s_is_among) := ⟨rfl, rfl, rfl, by decide +kernel, rfl, by decide +kernel, by decide +kernel⟩
def sp_is_among : Sp := fun vs H Q _ => ∃ v a b : Int, vs = [.int v, .int a, .int b] ∧ a ≤ v ∧ v ≤ b ∧ Q (.bl true) H
theorem ok_is_among {f : Addr} {fd : FuncData} (F : FunD K "is_among" "is_among" (defArgs s_is_among) (defBody s_is_among) (defScope s_is_among) [] [] f fd) (T : Txt K mg) (C_is_integer : Cal P w K mg base "is_integer" 1 p_is_integer sp_is_integer) : FnOk P w K mg base CX0 2 f fd p_is_among sp_is_among := by
  refine ok_by F sc_is_among (fun vs H Q E h => ?_) (fun cdv A outer s H vs Q E hr h => ?_)
  · obtain ⟨v, a, b, rfl, _⟩ := h
    rfl
  · obtain ⟨v, a, b, rfl, h1, h2, k⟩ := h
    refine ⟨_, (pss_one (ps_ret (pe_and (pe_cal C_is_integer hr (by decide) (pa_cons (pv 0) pa_nil)) (pe_one (pe_chain op_le op_le (pv 1) (pv 0) (pv 2)))))), ?_⟩
    refine ⟨_, rfl, v, rfl, true, rfl, iteT ?_⟩
    refine ⟨_, rfl, _, rfl, a, v, rfl, rfl, true, blT h1, iteT ?_⟩
    refine ⟨_, rfl, v, b, rfl, rfl, ?_⟩
    exact q_bl (decide_eq_true h2) k
end
end Dt
end

section
set_option Elab.async false
set_option linter.all false
set_option maxRecDepth 100000
set_option maxHeartbeats 4000000
/-! the walks of problems.py: what is a problem -/
namespace Dt
open PySem PySem.Spec PyProof.Rows L2
def tmOk (n : Nat) : Tm → Prop
  | .ln l => l.i < n ∧ l.j < n ∧ l.i ≠ l.j ∧ 1 ≤ l.w ∧ l.w ≤ 100
  | .bn b => b.i < n ∧ b.j < n ∧ b.i ≠ b.j ∧ 1 ≤ b.w ∧ b.w ≤ 100 ∧ -1000000 ≤ b.k ∧ b.k ≤ 1000000
def bdOk (n : Nat) (b : Bd) : Prop := b.i < n ∧ b.j < n ∧ b.i ≠ b.j ∧ 0 ≤ b.d ∧ b.d ≤ 1000000
/-- a problem that the program takes -/
structure POk (n : Nat) (bs : List Bd) (lo : List Int) (ts : List Tm) : Prop where
  n1 : 1 ≤ n
  n12 : n ≤ 12
  lb : bs.length ≤ 40
  lt : ts.length ≤ 40
  b : ∀ b ∈ bs, bdOk n b
  ll : lo.length = n
  lv : ∀ z ∈ lo, 0 ≤ z ∧ z ≤ 1000000
  t : ∀ t ∈ ts, tmOk n t
  ln : ∀ l : Ln, Tm.ln l ∈ ts → ∃ b ∈ bs, b.i = l.i ∧ b.j = l.j
  rk : ∃ rk : Nat → Nat, ∀ b ∈ bs, rk b.i < rk b.j
section
variable {P : Program} {w : World} {K : PySem.W.Frag} {mg : Str → Option Value} {base : Heap}
abbrev n_is_row_of : List Str := ["value", "many", "item"]
abbrev p_is_row_of : List Str := ["value", "many"]
theorem sc_is_row_of : FnScope n_is_row_of p_is_row_of (defScope s_is_row_of) := ⟨rfl, rfl, rfl, by decide +kernel, rfl, by decide +kernel, by decide +kernel⟩
def sp_is_row_of : Sp := fun vs H Q _ => ∃ (v : V) (row : List Int), vs = [v, .int row.length] ∧ Tp H v (row.map V.int) ∧ row.length ≤ 1000 ∧ ∀ H', Same H H' → Q (.bl true) H'
theorem ok_is_row_of {f : Addr} {fd : FuncData} (F : FunD K "is_row_of" "is_row_of" (defArgs s_is_row_of) (defBody s_is_row_of) (defScope s_is_row_of) [] [] f fd) (T : Txt K mg) (C_is_integer : Cal P w K mg base "is_integer" 1 p_is_integer sp_is_integer) : FnOk P w K mg base CX0 2 f fd p_is_row_of sp_is_row_of := by
  refine ok_by F sc_is_row_of (fun vs H Q E h => ?_) (fun cdv A outer s H vs Q E hr h => ?_)
  · obtain ⟨v, row, rfl, _⟩ := h
    rfl
  · obtain ⟨v, row, rfl, ⟨p, rfl, hp⟩, hn, k⟩ := h
    refine ⟨_, (pss_one (ps_ret (pe_and (pe_callB (call_isiK' K) (by rfl) T.isinstance (by decide +kernel) (pa_cons (pv 0) (pa_cons (pe_bltn (v := .ty "tuple") (by rfl) T.tuple (by decide +kernel) rfl) pa_nil))) (pe_and (pe_cmpR op_eq (pe_callB call_len_seq (by rfl) T.len (by decide +kernel) (pa_cons (pv 0) pa_nil)) (pv 1) (nomark _)) (pe_one (pe_callB (cr_all rfl) (by rfl) T.all (by decide +kernel) (pa_cons (pe_lc (own := [("item", 2)]) (by rfl) sc_is_row_of.nd (pi_tup (pv 0)) (blkOk_by (own := [("item", 2)]) (N := n_is_row_of) (sc := defScope s_is_row_of) (by decide +kernel)) (fun _ _ _ _ _ => (pg_name (i := 2) sc_is_row_of.nd rfl (Or.inl rfl))) (fun _ _ _ _ _ => pts_nil) (fun _ _ _ _ _ => (pe_cal C_is_integer hr (by decide) (pa_cons (pv 2) pa_nil)))) pa_nil))))))), ?_⟩
    refine ⟨_, rfl, .ref p, .ty "tuple", .type "tuple", .type "tuple", true, rfl, .ty _, .base (.tup hp), kit_ty (by decide +kernel), true, rfl, iteT ?_⟩
    refine ⟨_, rfl, p, _, rfl, .inr (SqT.of hp), _, rfl, rfl, true, ?_, iteT ?_⟩
    · rw [List.length_map]
      exact blT rfl
    · refine ⟨_, rfl, p, rfl, ⟨_, SqT.of hp⟩, ?_⟩
      refine lc_all (walk_tup (K := K) (a := p) (xs := row.map V.int)) (fun H' s => s.sqt (SqT.of hp)) (fun _ => true) (by rw [List.length_map]; exact hn) (fun i x H2 H3 hi s2 y K1 K0 h1 h0 => ?_) (fun D bs H2 s2 hD hall => ⟨D, bs, rfl, SqL.of hD, q_bl hall (k _ s2)⟩)
      obtain ⟨rfl, hx⟩ := y
      refine ⟨rfl, tyes ?_⟩
      rw [List.getElem?_map] at hx
      cases e : row[i]? with
      | none => rw [e] at hx; cases hx
      | some z =>
        rw [e] at hx
        cases hx
        exact ⟨_, rfl, z, rfl, h1 _ (Same.refl _) rfl⟩
abbrev n_is_pair_of : List Str := ["size", "i", "j"]
abbrev p_is_pair_of : List Str := ["size", "i", "j"]
theorem sc_is_pair_of : FnScope n_is_pair_of p_is_pair_of (defScope s_is_pair_of) := ⟨rfl, rfl, rfl, by decide +kernel, rfl, by decide +kernel, by decide +kernel⟩
def sp_is_pair_of : Sp := fun vs H Q _ => ∃ n i j : Nat, vs = [.int n, .int i, .int j] ∧ i < n ∧ j < n ∧ i ≠ j ∧ Q (.bl true) H
theorem ok_is_pair_of {f : Addr} {fd : FuncData} (F : FunD K "is_pair_of" "is_pair_of" (defArgs s_is_pair_of) (defBody s_is_pair_of) (defScope s_is_pair_of) [] [] f fd) (T : Txt K mg) (C_is_among : Cal P w K mg base "is_among" 2 p_is_among sp_is_among) : FnOk P w K mg base CX0 3 f fd p_is_pair_of sp_is_pair_of := by
  refine ok_by F sc_is_pair_of (fun vs H Q E h => ?_) (fun cdv A outer s H vs Q E hr h => ?_)
  · obtain ⟨n, i, j, rfl, _⟩ := h
    rfl
  · obtain ⟨n, i, j, rfl, h1, h2, h3, k⟩ := h
    refine ⟨_, (pss_one (ps_ret (pe_and (pe_cal C_is_among hr (by decide) (pa_cons (pv 1) (pa_cons pe_int (pa_cons (pe_op op_sub (pv 0) pe_int) pa_nil)))) (pe_and (pe_cal C_is_among hr (by decide) (pa_cons (pv 2) (pa_cons pe_int (pa_cons (pe_op op_sub (pv 0) pe_int) pa_nil)))) (pe_one (pe_cmpR op_ne (pv 1) (pv 2) (nomark _))))))), ?_⟩
    refine ⟨_, rfl, _, rfl, _, _, rfl, rfl, (i : Int), 0, (n : Int) - 1, rfl, by omega, by omega, true, rfl, iteT ?_⟩
    refine ⟨_, rfl, _, rfl, _, _, rfl, rfl, (j : Int), 0, (n : Int) - 1, rfl, by omega, by omega, true, rfl, iteT ?_⟩
    refine ⟨_, rfl, _, rfl, rfl, ?_⟩
    refine q_bl ?_ k
    rw [decide_eq_false (fun e => h3 (by have := V.int.inj e; omega))]
    rfl
abbrev n_is_bound : List Str := ["value", "size"]
abbrev p_is_bound : List Str := ["value", "size"]
theorem sc_is_bound : FnScope n_is_bound p_is_bound (defScope s_is_bound) := ⟨rfl, rfl, rfl, by decide +kernel, rfl, by decide +kernel, by decide +kernel⟩
def sp_is_bound : Sp := fun vs H Q _ => ∃ (v : V) (n : Nat) (b : Bd), vs = [v, .int n] ∧ Tp H v (bdV b) ∧ bdOk n b ∧ Q (.bl true) H
theorem ok_is_bound {f : Addr} {fd : FuncData} (F : FunD K "is_bound" "is_bound" (defArgs s_is_bound) (defBody s_is_bound) (defScope s_is_bound) [] [] f fd) (T : Txt K mg) (C_is_among : Cal P w K mg base "is_among" 2 p_is_among sp_is_among) (C_is_pair_of : Cal P w K mg base "is_pair_of" 3 p_is_pair_of sp_is_pair_of) : FnOk P w K mg base CX0 4 f fd p_is_bound sp_is_bound := by
  refine ok_by F sc_is_bound (fun vs H Q E h => ?_) (fun cdv A outer s H vs Q E hr h => ?_)
  · obtain ⟨v, n, b, rfl, _⟩ := h
    rfl
  · obtain ⟨v, n, b, rfl, ⟨p, rfl, hp⟩, ⟨h1, h2, h3, h4, h5⟩, k⟩ := h
    refine ⟨_, (pss_cons (ps_if (PW.pt (pw_or (pt_not (pt_val (pe_callB (call_isiK' K) (by rfl) T.isinstance (by decide +kernel) (pa_cons (pv 0) (pa_cons (pe_bltn (v := .ty "tuple") (by rfl) T.tuple (by decide +kernel) rfl) pa_nil))))) (pw_or1 (pt_cmpR op_ne (pe_callB call_len_seq (by rfl) T.len (by decide +kernel) (pa_cons (pv 0) pa_nil)) pe_int (nomark _))))) (pss_one (ps_ret pe_bl)) pss_nil)
      (pss_one (ps_ret (pe_and (pe_cal C_is_pair_of hr (by decide) (pa_cons (pv 1) (pa_cons (pe_ix (ix_tupK K) (pv 0) pe_int (fun _ _ => rfl)) (pa_cons (pe_ix (ix_tupK K) (pv 0) pe_int (fun _ _ => rfl)) pa_nil)))) (pe_one (pe_cal C_is_among hr (by decide) (pa_cons (pe_ix (ix_tupK K) (pv 0) pe_int (fun _ _ => rfl)) (pa_cons pe_int (pa_cons (pe_gI T.cMN) pa_nil))))))))), ?_⟩
    refine ⟨_, rfl, .ref p, .ty "tuple", .type "tuple", .type "tuple", true, rfl, .ty _, .base (.tup hp), kit_ty (by decide +kernel), true, rfl, iteF ?_⟩
    refine ⟨_, rfl, p, _, rfl, .inr (SqT.of hp), rfl, _, rfl, iteNS rfl ?_⟩
    refine ⟨_, rfl, _, rfl, p, _, 0, .int b.i, rfl, rfl, SqT.of hp, rfl, _, rfl, p, _, 1, .int b.j, rfl, rfl, SqT.of hp, rfl, n, b.i, b.j, rfl, h1, h2, h3, true, rfl, iteT ?_⟩
    exact ⟨_, rfl, p, _, 2, .int b.d, rfl, rfl, SqT.of hp, rfl, b.d, 0, 1000000, rfl, h4, h5, k⟩
abbrev n_is_term : List Str := ["value", "size"]
abbrev p_is_term : List Str := ["value", "size"]
theorem sc_is_term : FnScope n_is_term p_is_term (defScope s_is_term) := ⟨rfl, rfl, rfl, by decide +kernel, rfl, by decide +kernel, by decide +kernel⟩
def sp_is_term : Sp := fun vs H Q _ => ∃ (v : V) (n : Nat) (t : Tm), vs = [v, .int n] ∧ Tp H v (tmV t) ∧ tmOk n t ∧ ∀ H', Same H H' → Q (.bl true) H'
theorem ok_is_term {f : Addr} {fd : FuncData} (F : FunD K "is_term" "is_term" (defArgs s_is_term) (defBody s_is_term) (defScope s_is_term) [] [] f fd) (T : Txt K mg) (C_is_among : Cal P w K mg base "is_among" 2 p_is_among sp_is_among) (C_is_pair_of : Cal P w K mg base "is_pair_of" 3 p_is_pair_of sp_is_pair_of) : FnOk P w K mg base CX0 4 f fd p_is_term sp_is_term := by
  refine ok_by F sc_is_term (fun vs H Q E h => ?_) (fun cdv A outer s H vs Q E hr h => ?_)
  · obtain ⟨v, n, b, rfl, _⟩ := h
    rfl
  · obtain ⟨v, n, t, rfl, ⟨p, rfl, hp⟩, ht, k⟩ := h
    refine ⟨_, (pss_cons (ps_if (PW.pt (pw_or (pt_not (pt_val (pe_callB (call_isiK' K) (by rfl) T.isinstance (by decide +kernel) (pa_cons (pv 0) (pa_cons (pe_bltn (v := .ty "tuple") (by rfl) T.tuple (by decide +kernel) rfl) pa_nil))))) (pw_or (pt_cmpR (op_notInK K) (pe_callB call_len_seq (by rfl) T.len (by decide +kernel) (pa_cons (pv 0) pa_nil)) (pe_tup (pa_cons pe_int (pa_cons pe_int pa_nil))) (by rfl)) (pw_or1 (pt_not (pt_val (pe_callB (call_isiK' K) (by rfl) T.isinstance (by decide +kernel) (pa_cons (pe_ix (ix_tupK K) (pv 0) pe_int (fun _ _ => rfl)) (pa_cons (pe_bltn (v := .ty "str") (by rfl) T.str (by decide +kernel) rfl) pa_nil))))))))) (pss_one (ps_ret pe_bl)) pss_nil)
      (pss_cons (ps_if (PW.pt (pw_or (pt_cmpR op_ne (pe_ix (ix_tupK K) (pv 0) pe_int (fun _ _ => rfl)) (pe_ifExp (pt_cmpR op_eq (pe_callB call_len_seq (by rfl) T.len (by decide +kernel) (pa_cons (pv 0) pa_nil)) pe_int (nomark _)) pe_str pe_str) (nomark _)) (pw_or1 (pt_not (pt_val (pe_cal C_is_pair_of hr (by decide) (pa_cons (pv 1) (pa_cons (pe_ix (ix_tupK K) (pv 0) pe_int (fun _ _ => rfl)) (pa_cons (pe_ix (ix_tupK K) (pv 0) pe_int (fun _ _ => rfl)) pa_nil))))))))) (pss_one (ps_ret pe_bl)) pss_nil)
      (pss_cons (ps_if (PW.pt (pw_and (pt_cmpR op_eq (pe_callB call_len_seq (by rfl) T.len (by decide +kernel) (pa_cons (pv 0) pa_nil)) pe_int (nomark _)) (pw_and1 (pt_not (pt_val (pe_cal C_is_among hr (by decide) (pa_cons (pe_ix (ix_tupK K) (pv 0) pe_int (fun _ _ => rfl)) (pa_cons (pe_op op_sub pe_int (pe_gI T.cMN)) (pa_cons (pe_gI T.cMN) pa_nil))))))))) (pss_one (ps_ret pe_bl)) pss_nil)
      (pss_one (ps_ret (pe_cal C_is_among hr (by decide) (pa_cons (pe_ix (ix_tupK K) (pv 0) (pe_un un_neg pe_int) (fun _ _ => rfl)) (pa_cons pe_int (pa_cons (pe_gI T.cMC) pa_nil))))))))), ?_⟩
    refine ⟨_, rfl, .ref p, .ty "tuple", .type "tuple", .type "tuple", true, rfl, .ty _, .base (.tup hp), kit_ty (by decide +kernel), true, rfl, iteF ?_⟩
    cases t with
    | ln l =>
      obtain ⟨h1, h2, h3, h4, h5⟩ := ht
      refine ⟨_, rfl, p, _, rfl, .inr (SqT.of hp), (by show 2 ≤ sizeLine; decide), fun q nq => ?_⟩
      have s1 : Same H (upd H q (.tup [.int 4, .int 5])) := same_new nq
      have hp1 := s1 _ _ hp
      refine ⟨q, _, rfl, .inr (SqT.of upd_same), rfl, rfl, false, rfl, iteF ?_⟩
      refine ⟨_, rfl, p, _, 0, .str "line", rfl, rfl, SqT.of hp1, rfl, .str "line", .ty "str", .type "str", .type "str", true, rfl, .ty _, .base (.str _), kit_ty (by decide +kernel), true, rfl, iteF ?_⟩
      refine ⟨_, rfl, p, _, 0, .str "line", rfl, rfl, SqT.of hp1, rfl, _, rfl, p, _, rfl, .inr (SqT.of hp1), rfl, _, rfl, iteD rfl ?_⟩
      refine ⟨rfl, _, rfl, iteNS rfl ?_⟩
      refine ⟨_, rfl, _, rfl, p, _, 1, .int l.i, rfl, rfl, SqT.of hp1, rfl, _, rfl, p, _, 2, .int l.j, rfl, rfl, SqT.of hp1, rfl, n, l.i, l.j, rfl, h1, h2, h3, true, rfl, iteF ?_⟩
      refine ⟨_, rfl, p, _, rfl, .inr (SqT.of hp1), rfl, _, rfl, iteN (fun z => absurd (V.int.inj z) (by show ¬ ((4 : Int) = 5); decide)) ?_⟩
      refine iteF ?_
      exact ⟨_, rfl, 1, rfl, p, _, -1, .int l.w, rfl, rfl, SqT.of hp1, rfl, l.w, 1, 100, rfl, h4, h5, k _ s1⟩
    | bn b =>
      obtain ⟨h1, h2, h3, h4, h5, h6, h7⟩ := ht
      refine ⟨_, rfl, p, _, rfl, .inr (SqT.of hp), (by show 2 ≤ sizeLine; decide), fun q nq => ?_⟩
      have s1 : Same H (upd H q (.tup [.int 4, .int 5])) := same_new nq
      have hp1 := s1 _ _ hp
      refine ⟨q, _, rfl, .inr (SqT.of upd_same), rfl, rfl, false, rfl, iteF ?_⟩
      refine ⟨_, rfl, p, _, 0, .str "bend", rfl, rfl, SqT.of hp1, rfl, .str "bend", .ty "str", .type "str", .type "str", true, rfl, .ty _, .base (.str _), kit_ty (by decide +kernel), true, rfl, iteF ?_⟩
      refine ⟨_, rfl, p, _, 0, .str "bend", rfl, rfl, SqT.of hp1, rfl, _, rfl, p, _, rfl, .inr (SqT.of hp1), rfl, _, rfl, iteN (fun z => absurd (V.int.inj z) (by show ¬ ((5 : Int) = 4); decide)) ?_⟩
      refine ⟨rfl, _, rfl, iteNS rfl ?_⟩
      refine ⟨_, rfl, _, rfl, p, _, 1, .int b.i, rfl, rfl, SqT.of hp1, rfl, _, rfl, p, _, 2, .int b.j, rfl, rfl, SqT.of hp1, rfl, n, b.i, b.j, rfl, h1, h2, h3, true, rfl, iteF ?_⟩
      refine ⟨_, rfl, p, _, rfl, .inr (SqT.of hp1), rfl, _, rfl, iteD rfl ?_⟩
      refine ⟨_, rfl, p, _, 3, .int b.k, rfl, rfl, SqT.of hp1, rfl, _, _, rfl, rfl, b.k, -1000000, 1000000, rfl, h6, h7, true, rfl, iteF ?_⟩
      exact ⟨_, rfl, 1, rfl, p, _, -1, .int b.w, rfl, rfl, SqT.of hp1, rfl, b.w, 1, 100, rfl, h4, h5, k _ s1⟩
end
end Dt
end

section
set_option Elab.async false
set_option linter.all false
set_option maxRecDepth 100000
set_option maxHeartbeats 4000000
/-! has_ring, are_rows, need_problem -/
namespace Dt
open PySem PySem.Spec PyProof.Rows L2
/-- what holds of a list's least by a rank -/
theorem least_by (rk : Nat → Nat) : ∀ l : List Int, l ≠ [] → ∃ v ∈ l, ∀ u ∈ l, rk v.toNat ≤ rk u.toNat
  | [], h => absurd rfl h
  | a :: r, _ => by
    by_cases hr : r = []
    · subst hr
      exact ⟨a, List.mem_cons_self .., fun u hu => by simp at hu; rw [hu]; exact Nat.le_refl _⟩
    · obtain ⟨v, hv, hl⟩ := least_by rk r hr
      by_cases h : rk a.toNat ≤ rk v.toNat
      · refine ⟨a, List.mem_cons_self .., fun u hu => ?_⟩
        rcases List.mem_cons.mp hu with e | hu
        · rw [e]
          exact Nat.le_refl _
        · exact Nat.le_trans h (hl u hu)
      · refine ⟨v, List.mem_cons_of_mem _ hv, fun u hu => ?_⟩
        rcases List.mem_cons.mp hu with e | hu
        · rw [e]
          omega
        · exact hl u hu
section
variable {P : Program} {w : World} {K : PySem.W.Frag} {mg : Str → Option Value} {base : Heap}
abbrev n_has_ring : List Str := ["size", "bounds", "rest", "is_less", "ends", "free", "i", "j", "d", "v"]
abbrev p_has_ring : List Str := ["size", "bounds"]
theorem sc_has_ring : FnScope n_has_ring p_has_ring (defScope s_has_ring) := ⟨rfl, rfl, rfl, by decide +kernel, rfl, by decide +kernel, by decide +kernel⟩
def sp_has_ring : Sp := fun vs H Q _ => ∃ (n : Nat) (v : V) (bs : List Bd), vs = [.int n, v] ∧ TuT bdV H v bs ∧ bs.length ≤ 1000 ∧ n ≤ 1000 ∧ (∀ b ∈ bs, b.i < n ∧ b.j < n) ∧ (∃ rk : Nat → Nat, ∀ b ∈ bs, rk b.i < rk b.j) ∧ ∀ H', Same H H' → Q (.bl false) H'
theorem ok_has_ring {f : Addr} {fd : FuncData} (F : FunD K "has_ring" "has_ring" (defArgs s_has_ring) (defBody s_has_ring) (defScope s_has_ring) [] [] f fd) (T : Txt K mg) : FnOk P w K mg base CX0 1 f fd p_has_ring sp_has_ring := by
  refine ok_by F sc_has_ring (fun vs H Q E h => ?_) (fun cdv A outer s H vs Q E hr h => ?_)
  · obtain ⟨n, v, bs, rfl, _⟩ := h
    rfl
  · obtain ⟨n, v, bs, rfl, ⟨p, us, rfl, hp, hbs⟩, hl, hn, hlt, ⟨rk, hrk⟩, k⟩ := h
    refine ⟨_, (pss_cons (ps_set (i := 2) sc_has_ring.nd rfl (Or.inr rfl) (pe_listRg rfl rfl T.list (prg_1 rfl T.range (pv 0))))
      (pss_cons (ps_set (i := 3) sc_has_ring.nd rfl (Or.inl rfl) pe_bl)
      (pss_cons (ps_while PassesOwn.never (pt_val (pv 3))
        (pss_cons (ps_set (i := 4) sc_has_ring.nd rfl (Or.inr rfl) (pe_lc (own := [("i", 6), ("j", 7), ("d", 8)]) (by rfl) sc_has_ring.nd (pi_tup (pv 1)) (blkOk_by (own := [("i", 6), ("j", 7), ("d", 8)]) (N := n_has_ring) (sc := defScope s_has_ring) (by decide +kernel)) (fun _ _ _ _ _ => (pg_tupK K 3 rfl (pgs_cons (pg_name (i := 6) sc_has_ring.nd rfl (Or.inl rfl)) (pgs_cons (pg_name (i := 7) sc_has_ring.nd rfl (Or.inl rfl)) (pgs_cons (pg_name (i := 8) sc_has_ring.nd rfl (Or.inl rfl)) pgs_nil))))) (fun _ _ _ _ _ => (pts_one (pt_cmpR (op_inK K) (pv 6) (pv 2) (by rfl)))) (fun _ _ _ _ _ => (pv 7))))
        (pss_cons (ps_set (i := 5) sc_has_ring.nd rfl (Or.inr rfl) (pe_lc (own := [("v", 9)]) (by rfl) sc_has_ring.nd (pi_list (pv 2)) (blkOk_by (own := [("v", 9)]) (N := n_has_ring) (sc := defScope s_has_ring) (by decide +kernel)) (fun _ _ _ _ _ => (pg_name (i := 9) sc_has_ring.nd rfl (Or.inl rfl))) (fun _ _ _ _ _ => (pts_one (pt_cmpR (op_notInK K) (pv 9) (pv 4) (by rfl)))) (fun _ _ _ _ _ => (pv 9))))
        (pss_cons (ps_set (i := 3) sc_has_ring.nd rfl (Or.inl rfl) (pe_cmpR (op_neD hr.units) (pv 5) (pe_lst pa_nil) (nomark _)))
        (pss_one (ps_set (i := 2) sc_has_ring.nd rfl (Or.inr rfl) (pe_lc (own := [("v", 9)]) (by rfl) sc_has_ring.nd (pi_list (pv 2)) (blkOk_by (own := [("v", 9)]) (N := n_has_ring) (sc := defScope s_has_ring) (by decide +kernel)) (fun _ _ _ _ _ => (pg_name (i := 9) sc_has_ring.nd rfl (Or.inl rfl))) (fun _ _ _ _ _ => (pts_one (pt_cmpR (op_notInK K) (pv 9) (pv 5) (by rfl)))) (fun _ _ _ _ _ => (pv 9)))))))))
      (pss_one (ps_ret (pe_cmpR (op_neD hr.units) (pv 2) (pe_lst pa_nil) (nomark _))))))), ?_⟩
    refine ⟨_, rfl, n, rfl, RgOk.of_le (by omega) (by omega) (by omega) (by omega), fun r nr => ?_⟩
    refine ⟨fun m σ H' => ∃ (rs : List Int) (b : Bool) (r' : Addr) (x4 x5 : Option V), σ = [some (.int n), some (.ref p), some (.ref r'), some (.bl b), x4, x5, none, none, none, none] ∧ Same H H' ∧ H' r' = some (.lst (rs.map V.int)) ∧ rs.length ≤ 1000 ∧ (∀ z ∈ rs, 0 ≤ z) ∧ m = rs.length + (if b then 1 else 0) ∧ (b = false → rs = []),
      ⟨_, natsI n, true, r, none, none, rfl, same_new nr, ?_, by rw [natsI_len]; exact hn, fun z hz => (natsI_mem hz).1, rfl, fun z => by cases z⟩, ?_⟩
    · rw [upd_same, rgV_nats]
    rintro m σ H1 ⟨rs, b, r', x4, x5, rfl, s1, hr', hrl, hpos, rfl, hb⟩
    refine ⟨_, rfl, b, rfl, ?_⟩
    cases b with
    | false =>
      refine iteF ?_
      have e := hb rfl
      subst e
      -- return rest != []
      refine ⟨_, rfl, (by show 0 ≤ sizeLine; exact Nat.zero_le _), fun q nq => ?_⟩
      have s2 : Same H1 (upd H1 q (.lst [])) := same_new nq
      refine ⟨.list [], .list [], .lst (SqL.of (s2 _ _ hr')) .nil, .lst (SqL.of upd_same) .nil, rfl, rfl, ?_⟩
      exact k _ (s1.trans s2)
    | true =>
      refine iteT ?_
      refine ⟨fun σ' H' => ∃ m', m' < rs.length + 1 ∧ ∃ (rs : List Int) (b : Bool) (r' : Addr) (x4 x5 : Option V), σ' = [some (.int n), some (.ref p), some (.ref r'), some (.bl b), x4, x5, none, none, none, none] ∧ Same H H' ∧ H' r' = some (.lst (rs.map V.int)) ∧ rs.length ≤ 1000 ∧ (∀ z ∈ rs, 0 ≤ z) ∧ m' = rs.length + (if b then 1 else 0) ∧ (b = false → rs = []), fun σ' H' h => h, ?_⟩
      -- ends = [j for i, j, d in bounds if i in rest]
      have hp1 := s1 _ _ hp
      have hbs1 := Tps.mono (TEx.of s1) hbs
      refine ⟨_, rfl, p, rfl, ⟨_, SqT.of hp1⟩, ?_⟩
      refine lc_rep (walk_tup (K := K) (a := p) (xs := us)) (δ := Bd) (fun _ v d => v = .int d.j) (fun _ _ _ _ _ h => h) (fun H' s => s.sqt (SqT.of hp1))
        (kp bs fun x => decide ((x.i : Int) ∈ rs)) (by rw [hbs.len]; exact hl) (fun i x H2 H3 hi s2 y K1 K0 h1 h0 => ?_) (fun e ys H2 ne s2 he hR => ?_)
      · obtain ⟨rfl, hx⟩ := y
        obtain ⟨bd, hbd, q, rfl, hq⟩ := hbs1.at_ i x hx
        have hq2 := s2 _ _ hq
        refine ⟨q, _, rfl, SqT.of hq2, rfl, .int bd.i, _, rfl, .int bd.j, _, rfl, .int bd.d, _, rfl, rfl, rfl, ?_⟩
        refine ⟨_, rfl, _, rfl, r', _, rfl, .inl (SqL.of (s2 _ _ hr')), rfl, flat_ints _, _, rfl, ?_⟩
        have ein : (if false = true then !inV (.int (bd.i : Int)) (rs.map V.int) else inV (.int (bd.i : Int)) (rs.map V.int)) = decide ((bd.i : Int) ∈ rs) := by
          rw [if_neg Bool.false_ne_true, inV_ints]
        rw [ein]
        by_cases hm : (bd.i : Int) ∈ rs
        · refine iteD hm ?_
          exact ⟨_, rfl, h1 _ bd _ (Same.refl _) (kp_yes hbd (decide_eq_true hm)) rfl⟩
        · refine iteN hm ?_
          exact h0 _ (Same.refl _) (kp_no hbd (decide_eq_false hm))
      · have ey := Rep.eq_map (enc := fun d : Bd => V.int d.j) hR
        rw [hbs.len, kp_filter] at ey
        have ey2 : ys = ((bs.filter fun x => decide ((x.i : Int) ∈ rs)).map fun b => (b.j : Int)).map V.int := by
          rw [ey, List.map_map]
          rfl
        generalize hes : (bs.filter fun x => decide ((x.i : Int) ∈ rs)).map (fun b => (b.j : Int)) = es at ey2
        rw [ey2] at he
        have hr2 := s2 _ _ hr'
        -- free = [v for v in rest if v not in ends]
        refine ⟨_, rfl, r', rfl, ⟨_, SqL.of hr2⟩, ?_⟩
        refine lc_rep (walk_list (K := K) (a := r') (xs := rs.map V.int)) (δ := Int) (fun _ v d => v = .int d) (fun _ _ _ _ _ h => h) (fun H' s => s.seq (SqL.of hr2))
          (kp rs fun z => !decide (z ∈ es)) (by rw [List.length_map]; exact hrl) (fun i x H3 H4 hi s3 y K1 K0 h1 h0 => ?_) (fun g zs H3 ng s3 hg hR2 => ?_)
        · obtain ⟨rfl, hx⟩ := y
          obtain ⟨z, hz, rfl⟩ := (rep_map V.int rs).at_ i x hx
          refine ⟨rfl, _, rfl, _, rfl, e, _, rfl, .inl (SqL.of (s3 _ _ he)), rfl, flat_ints _, _, rfl, ?_⟩
          have ein : (if true = true then !inV (.int z) (es.map V.int) else inV (.int z) (es.map V.int)) = !decide (z ∈ es) := by
            rw [if_pos rfl, inV_ints]
          rw [ein]
          by_cases hm : z ∈ es
          · refine iteNS hm ?_
            exact h0 _ (Same.refl _) (kp_no hz (by simp [hm]))
          · refine iteND hm ?_
            exact ⟨_, rfl, h1 _ z _ (Same.refl _) (kp_yes hz (by simp [hm])) rfl⟩
        · have ez := Rep.eq_map (enc := V.int) hR2
          rw [List.length_map, kp_filter] at ez
          generalize hfr : rs.filter (fun z => !decide (z ∈ es)) = fr at ez
          rw [ez] at hg
          have hr3 := s3 _ _ hr2
          -- is_less = free != []
          refine ⟨_, rfl, (by show 0 ≤ sizeLine; exact Nat.zero_le _), fun q nq => ?_⟩
          have s4 : Same H3 (upd H3 q (.lst [])) := same_new nq
          refine ⟨.list (fr.map PyData.int), .list [], .lst (SqL.of (s4 _ _ hg)) (intD_dp fr), .lst (SqL.of upd_same) .nil, intL_shaped fr, rfl, ?_⟩
          have eqn : (!PyData.eqv (.list (fr.map PyData.int)) (.list [])) = !fr.isEmpty := by
            cases fr with
            | nil => rfl
            | cons a r => rfl
          -- rest = [v for v in rest if v not in free]
          have hr4 := s4 _ _ hr3
          have hg4 := s4 _ _ hg
          refine ⟨_, rfl, r', rfl, ⟨_, SqL.of hr4⟩, ?_⟩
          refine lc_rep (walk_list (K := K) (a := r') (xs := rs.map V.int)) (δ := Int) (fun _ v d => v = .int d) (fun _ _ _ _ _ h => h) (fun H' s => s.seq (SqL.of hr4))
            (kp rs fun z => !decide (z ∈ fr)) (by rw [List.length_map]; exact hrl) (fun i x H5 H6 hi s5 y K1 K0 h1 h0 => ?_) (fun g2 zs2 H5 ng2 s5 hg2 hR3 => ?_)
          · obtain ⟨rfl, hx⟩ := y
            obtain ⟨z, hz, rfl⟩ := (rep_map V.int rs).at_ i x hx
            refine ⟨rfl, _, rfl, _, rfl, g, _, rfl, .inl (SqL.of (s5 _ _ hg4)), rfl, flat_ints _, _, rfl, ?_⟩
            have ein : (if true = true then !inV (.int z) (fr.map V.int) else inV (.int z) (fr.map V.int)) = !decide (z ∈ fr) := by
              rw [if_pos rfl, inV_ints]
            rw [ein]
            by_cases hm : z ∈ fr
            · refine iteNS hm ?_
              exact h0 _ (Same.refl _) (kp_no hz (by simp [hm]))
            · refine iteND hm ?_
              exact ⟨_, rfl, h1 _ z _ (Same.refl _) (kp_yes hz (by simp [hm])) rfl⟩
          · have ez2 := Rep.eq_map (enc := V.int) hR3
            rw [List.length_map, kp_filter] at ez2
            rw [ez2] at hg2
            have sall : Same H H5 := ((((s1.trans s2).trans s3).trans s4).trans s5)
            have hlen : (rs.filter fun z => !decide (z ∈ fr)).length ≤ rs.length := List.length_filter_le _ _
            -- a least one is free
            have free_of : rs ≠ [] → fr ≠ [] := fun hne => by
              obtain ⟨v, hv, hleast⟩ := least_by rk rs hne
              have hfree : v ∈ fr := by
                rw [← hfr, List.mem_filter]
                refine ⟨hv, ?_⟩
                have : ¬ v ∈ es := fun hm => by
                  rw [← hes] at hm
                  obtain ⟨b, hb, eb⟩ := List.mem_map.mp hm
                  obtain ⟨hb1, hb2⟩ := List.mem_filter.mp hb
                  have h1 := hleast _ (of_decide_eq_true hb2)
                  have h2 := hrk b hb1
                  have e1 : v.toNat = b.j := by omega
                  have e2 : ((b.i : Int)).toNat = b.i := by omega
                  rw [e1, e2] at h1
                  omega
                simp [this]
              intro z
              rw [z] at hfree
              cases hfree
            have sub : ∀ z, z ∈ fr → z ∈ rs := fun z hz => by
              rw [← hfr] at hz
              exact (List.mem_filter.mp hz).1
            refine ⟨_, ?_, rs.filter (fun z => !decide (z ∈ fr)), !fr.isEmpty, g2, some (.ref e), some (.ref g), ?_, sall, hg2, by omega, fun z hz => hpos z (List.mem_filter.mp hz).1, rfl, fun z => ?_⟩
            · cases fr with
              | nil =>
                show _ + 0 < _
                omega
              | cons a r =>
                have hlt2 : (rs.filter fun z => !decide (z ∈ a :: r)).length < rs.length := by
                  apply Decidable.byContradiction
                  intro hge
                  have e : (rs.filter fun z => !decide (z ∈ a :: r)) = rs := by
                    apply List.Sublist.eq_of_length (List.filter_sublist)
                    omega
                  have ha := sub a (List.mem_cons_self ..)
                  rw [← e, List.mem_filter] at ha
                  have := ha.2
                  simp at this
                show _ + 1 < _
                omega
            · rw [eqn]
              rfl
            · have hfe : fr = [] := by
                cases fr with
                | nil => rfl
                | cons a r => cases z
              have hre : rs = [] := by
                apply Classical.byContradiction
                intro hne
                exact free_of hne hfe
              rw [hre]
              rfl
end
end Dt
end

section
set_option Elab.async false
set_option linter.all false
set_option maxRecDepth 100000
set_option maxHeartbeats 4000000
/-! are_rows, need_problem, cost_of_term, bends_of -/
namespace Dt
open PySem PySem.Spec PyProof.Rows L2
section
variable {P : Program} {w : World} {K : PySem.W.Frag} {mg : Str → Option Value} {base : Heap}
abbrev n_are_rows : List Str := ["value", "size", "is_right", "item"]
abbrev p_are_rows : List Str := ["value", "size", "is_right"]
theorem sc_are_rows : FnScope n_are_rows p_are_rows (defScope s_are_rows) := ⟨rfl, rfl, rfl, by decide +kernel, rfl, by decide +kernel, by decide +kernel⟩
/-- S: what each def that is handed in promises -/
def sp_are_rows (S : Addr → Option Sp) : Sp := fun vs H Q _ => ∃ (p f : Addr) (n : Nat) (us : List V) (sp : Sp), vs = [.ref p, .int n, .ref f] ∧ H p = some (.tup us) ∧ us.length ≤ 40 ∧ S f = some sp ∧
  (∀ u ∈ us, ∀ H', Same H H' → ∀ Q' : VK, (∀ H'', Same H' H'' → Q' (.bl true) H'') → sp [u, .int n] H' Q' E0) ∧ ∀ H', Same H H' → Q (.bl true) H'
theorem ok_are_rows {f : Addr} {fd : FuncData} {S : Addr → Option Sp} (F : FunD K "are_rows" "are_rows" (defArgs s_are_rows) (defBody s_are_rows) (defScope s_are_rows) [] [] f fd) (T : Txt K mg) (A_is_right : ∀ f sp, S f = some sp → Held P w K mg base 5 f sp) : FnOk P w K mg base CX0 6 f fd p_are_rows (sp_are_rows S) := by
  refine ok_by F sc_are_rows (fun vs H Q E h => ?_) (fun cdv A outer s H vs Q E hr h => ?_)
  · obtain ⟨p, f, n, us, sp, rfl, _⟩ := h
    rfl
  · obtain ⟨p, g, n, us, sp, rfl, hp, hn, hS, hit, k⟩ := h
    refine ⟨_, (pss_one (ps_ret (pe_and (pe_callB (call_isiK' K) (by rfl) T.isinstance (by decide +kernel) (pa_cons (pv 0) (pa_cons (pe_bltn (v := .ty "tuple") (by rfl) T.tuple (by decide +kernel) rfl) pa_nil))) (pe_and (pe_cmpR op_le (pe_callB call_len_seq (by rfl) T.len (by decide +kernel) (pa_cons (pv 0) pa_nil)) (pe_gI T.cMR) (nomark _)) (pe_one (pe_callB (cr_all rfl) (by rfl) T.all (by decide +kernel) (pa_cons (pe_lc (own := [("item", 3)]) (by rfl) sc_are_rows.nd (pi_tup (pv 0)) (blkOk_by (own := [("item", 3)]) (N := n_are_rows) (sc := defScope s_are_rows) (by decide +kernel)) (fun _ _ _ _ _ => (pg_name (i := 3) sc_are_rows.nd rfl (Or.inl rfl))) (fun _ _ _ _ _ => pts_nil) (fun _ _ _ _ _ => (pe_callA (i := 2) A_is_right hr (by rfl) (by first | exact Or.inl rfl | exact Or.inr (Or.inl rfl) | exact Or.inr (Or.inr rfl)) (pa_cons (pv 3) (pa_cons (pv 1) pa_nil))))) pa_nil))))))), ?_⟩
    refine ⟨_, rfl, .ref p, .ty "tuple", .type "tuple", .type "tuple", true, rfl, .ty _, .base (.tup hp), kit_ty (by decide +kernel), true, rfl, iteT ?_⟩
    refine ⟨_, rfl, p, _, rfl, .inr (SqT.of hp), _, _, rfl, rfl, true, blT (by omega), iteT ?_⟩
    refine ⟨_, rfl, p, rfl, ⟨_, SqT.of hp⟩, ?_⟩
    refine lc_all (walk_tup (K := K) (a := p) (xs := us)) (fun H' s => s.sqt (SqT.of hp)) (fun _ => true) (by omega) (fun i x H2 H3 hi s2 y K1 K0 h1 h0 => ?_) (fun D bs H2 s2 hD hall => ⟨D, bs, rfl, SqL.of hD, q_bl hall (k _ s2)⟩)
    obtain ⟨rfl, hx⟩ := y
    refine ⟨rfl, tyes ?_⟩
    exact ⟨g, sp, rfl, hS, _, rfl, _, rfl, hit x (List.mem_of_getElem? hx) _ s2 _ fun H4 s4 => h1 H4 s4 rfl⟩
abbrev n_need_problem : List Str := ["size", "bounds", "lows", "terms", "pairs", "i", "j", "d", "term", "low"]
abbrev p_need_problem : List Str := ["size", "bounds", "lows", "terms"]
theorem sc_need_problem : FnScope n_need_problem p_need_problem (defScope s_need_problem) := ⟨rfl, rfl, rfl, by decide +kernel, rfl, by decide +kernel, by decide +kernel⟩
def sp_need_problem : Sp := fun vs H Q _ => ∃ (n : Nat) (b l t : V) (bs : List Bd) (lo : List Int) (ts : List Tm), vs = [.int n, b, l, t] ∧ TuT bdV H b bs ∧ Tp H l (lo.map V.int) ∧ TuT tmV H t ts ∧ POk n bs lo ts ∧ ∀ H', Same H H' → Q .non H'
theorem ok_need_problem {f fB fT : Addr} {fd : FuncData} {S : Addr → Option Sp} (F : FunD K "need_problem" "need_problem" (defArgs s_need_problem) (defBody s_need_problem) (defScope s_need_problem) [] [] f fd) (T : Txt K mg) (hB : S fB = some sp_is_bound) (hT : S fT = some sp_is_term) (g_is_bound : mg "is_bound" = some (.ref fB)) (g_is_term : mg "is_term" = some (.ref fT))
    (C_is_among : Cal P w K mg base "is_among" 2 p_is_among sp_is_among) (C_are_rows : Cal P w K mg base "are_rows" 6 p_are_rows (sp_are_rows S)) (C_is_row_of : Cal P w K mg base "is_row_of" 2 p_is_row_of sp_is_row_of) (C_has_ring : Cal P w K mg base "has_ring" 1 p_has_ring sp_has_ring) :
    FnOk P w K mg base CX0 7 f fd p_need_problem sp_need_problem := by
  refine ok_by F sc_need_problem (fun vs H Q E h => ?_) (fun cdv A outer s H vs Q E hr h => ?_)
  · obtain ⟨n, b, l, t, bs, lo, ts, rfl, _⟩ := h
    rfl
  · obtain ⟨n, b, l, t, bs, lo, ts, rfl, ⟨pb, ub, rfl, hpb, hub⟩, ⟨pl, rfl, hpl⟩, ⟨pt, ut, rfl, hpt, hut⟩, O, k⟩ := h
    refine ⟨_, (pss_cons (ps_if (pt_not (pt_val (pe_cal C_is_among hr (by decide) (pa_cons (pv 0) (pa_cons pe_int (pa_cons (pe_gI T.cMS) pa_nil)))))) (pss_one ps_never) pss_nil)
      (pss_cons (ps_if (pt_not (pt_val (pe_cal C_are_rows hr (by decide) (pa_cons (pv 1) (pa_cons (pv 0) (pa_cons (pe_gF g_is_bound) pa_nil)))))) (pss_one ps_never) pss_nil)
      (pss_cons (ps_if (PW.pt (pw_and (pt_cmpR op_notN (pv 2) pe_non (nomark _)) (pw_and1 (pt_not (PW.pt (pw_and (pt_val (pe_cal C_is_row_of hr (by decide) (pa_cons (pv 2) (pa_cons (pv 0) pa_nil)))) (pw_and1 (pt_val (pe_callB (cr_all rfl) (by rfl) T.all (by decide +kernel) (pa_cons (pe_lc (own := [("low", 9)]) (by rfl) sc_need_problem.nd (pi_tup (pv 2)) (blkOk_by (own := [("low", 9)]) (N := n_need_problem) (sc := defScope s_need_problem) (by decide +kernel)) (fun _ _ _ _ _ => (pg_name (i := 9) sc_need_problem.nd rfl (Or.inl rfl))) (fun _ _ _ _ _ => pts_nil) (fun _ _ _ _ _ => (pe_chain op_le op_le pe_int (pv 9) (pe_gI T.cMN)))) pa_nil)))))))))) (pss_one ps_never) pss_nil)
      (pss_cons (ps_if (pt_not (pt_val (pe_cal C_are_rows hr (by decide) (pa_cons (pv 3) (pa_cons (pv 0) (pa_cons (pe_gF g_is_term) pa_nil)))))) (pss_one ps_never) pss_nil)
      (pss_cons (ps_set (i := 4) sc_need_problem.nd rfl (Or.inr rfl) (pe_lc (own := [("i", 5), ("j", 6), ("d", 7)]) (by rfl) sc_need_problem.nd (pi_tup (pv 1)) (blkOk_by (own := [("i", 5), ("j", 6), ("d", 7)]) (N := n_need_problem) (sc := defScope s_need_problem) (by decide +kernel)) (fun _ _ _ _ _ => (pg_tupK K 3 rfl (pgs_cons (pg_name (i := 5) sc_need_problem.nd rfl (Or.inl rfl)) (pgs_cons (pg_name (i := 6) sc_need_problem.nd rfl (Or.inl rfl)) (pgs_cons (pg_name (i := 7) sc_need_problem.nd rfl (Or.inl rfl)) pgs_nil))))) (fun _ _ _ _ _ => pts_nil) (fun _ _ _ _ _ => (pe_tup (pa_cons (pv 5) (pa_cons (pv 6) pa_nil))))))
      (pss_cons (ps_if (pt_not (pt_val (pe_callB (cr_all rfl) (by rfl) T.all (by decide +kernel) (pa_cons (pe_lc (own := [("term", 8)]) (by rfl) sc_need_problem.nd (pi_tup (pv 3)) (blkOk_by (own := [("term", 8)]) (N := n_need_problem) (sc := defScope s_need_problem) (by decide +kernel)) (fun _ _ _ _ _ => (pg_name (i := 8) sc_need_problem.nd rfl (Or.inl rfl))) (fun _ _ _ _ _ => (pts_one (pt_cmpR op_eq (pe_ix (ix_tupK K) (pv 8) pe_int (fun _ _ => rfl)) pe_str (nomark _)))) (fun _ _ _ _ _ => (pe_cmpR (op_inDK K hr) (pe_slice (sl_tupK K) (pv 8) (po_some pe_int) (po_some pe_int)) (pv 4) (by rfl)))) pa_nil)))) (pss_one ps_never) pss_nil)
      (pss_one (ps_if (pt_val (pe_cal C_has_ring hr (by decide) (pa_cons (pv 0) (pa_cons (pv 1) pa_nil)))) (pss_one ps_never) pss_nil)))))))), ?_⟩
    have n12 := O.n12
    have n1 := O.n1
    refine ⟨_, rfl, n, 0, 12, rfl, by omega, by omega, true, rfl, iteF ?_⟩
    -- are_rows(bounds, size, is_bound)
    refine ⟨_, rfl, _, rfl, pb, fB, n, ub, sp_is_bound, rfl, hpb, by rw [hub.len]; exact O.lb, hB, fun u hu H' s1 Q' hq => ?_, fun H1 s1 => ?_⟩
    · obtain ⟨i, hi⟩ := List.mem_iff_getElem?.mp hu
      obtain ⟨d, hd, ht⟩ := hub.at_ i u hi
      exact ⟨u, n, d, rfl, ht.mono (TEx.of s1), O.b d (List.mem_of_getElem? hd), hq _ (Same.refl _)⟩
    refine ⟨true, rfl, iteF ?_⟩
    -- lows
    refine ⟨_, rfl, rfl, _, rfl, iteND (fun z => by cases z) ?_⟩
    have hpl1 := s1 _ _ hpl
    refine ⟨_, rfl, _, rfl, .ref pl, lo, ?_, ⟨pl, rfl, hpl1⟩, by rw [O.ll]; omega, fun H2 s2 => ?_⟩
    · rw [O.ll]
      rfl
    refine ⟨true, rfl, iteT ?_⟩
    have hpl2 := s2 _ _ hpl1
    refine ⟨_, rfl, pl, rfl, ⟨_, SqT.of hpl2⟩, ?_⟩
    refine lc_all (walk_tup (K := K) (a := pl) (xs := lo.map V.int)) (fun H' s => s.sqt (SqT.of hpl2)) (fun _ => true) (by rw [List.length_map, O.ll]; omega) (fun i x H3 H4 hi s3 y K1 K0 h1 h0 => ?_) (fun D ds H3 s3 hD hall => ?_)
    · obtain ⟨rfl, hx⟩ := y
      obtain ⟨z, hz, rfl⟩ := (rep_map V.int lo).at_ i x hx
      obtain ⟨z1, z2⟩ := O.lv z (List.mem_of_getElem? hz)
      refine ⟨rfl, tyes ?_⟩
      refine ⟨_, rfl, _, _, rfl, rfl, true, blT z1, iteT ?_⟩
      exact ⟨_, _, rfl, rfl, by
        have e : V.bl (decide (z ≤ 1000000)) = V.bl true := blT z2
        show K1 (V.bl (decide (z ≤ 1000000))) _
        rw [e]
        exact h1 _ (Same.refl _) rfl⟩
    refine ⟨D, ds, rfl, SqL.of hD, ?_⟩
    rw [hall]
    refine ⟨true, rfl, iteF ?_⟩
    -- are_rows(terms, size, is_term)
    have s03 := (s1.trans s2).trans s3
    refine ⟨_, rfl, _, rfl, pt, fT, n, ut, sp_is_term, rfl, s03 _ _ hpt, by rw [hut.len]; exact O.lt, hT, fun u hu H' s4 Q' hq => ?_, fun H4 s4 => ?_⟩
    · obtain ⟨i, hi⟩ := List.mem_iff_getElem?.mp hu
      obtain ⟨d, hd, ht⟩ := hut.at_ i u hi
      exact ⟨u, n, d, rfl, ht.mono (TEx.of (s03.trans s4)), O.t d (List.mem_of_getElem? hd), hq⟩
    refine ⟨true, rfl, iteF ?_⟩
    have s04 := s03.trans s4
    have hpb4 := s04 _ _ hpb
    have hub4 := Tps.mono (TEx.of s04) hub
    -- pairs
    refine ⟨_, rfl, pb, rfl, ⟨_, SqT.of hpb4⟩, ?_⟩
    refine lc_rep (walk_tup (K := K) (a := pb) (xs := ub)) (δ := Bd) (fun H v d => Tp H v [.int d.i, .int d.j]) (fun _ _ _ _ e h => h.mono e) (fun H' s => s.sqt (SqT.of hpb4))
      (fun i => bs[i]?) (by rw [hub.len]; have := O.lb; omega) (fun i x H5 H6 hi s5 y K1 K0 h1 h0 => ?_) (fun q ys H5 nq s5 hq hR => ?_)
    · obtain ⟨rfl, hx⟩ := y
      obtain ⟨bd, hbd, e, rfl, he⟩ := hub4.at_ i x hx
      have he5 := s5 _ _ he
      refine ⟨e, _, rfl, SqT.of he5, rfl, .int bd.i, _, rfl, .int bd.j, _, rfl, .int bd.d, _, rfl, rfl, rfl, tyes ?_⟩
      refine ⟨_, rfl, _, rfl, (by show 2 ≤ sizeLine; decide), fun c nc => ?_⟩
      exact h1 _ bd _ (same_new nc) hbd ⟨c, rfl, upd_same⟩
    rw [hub.len, at_all] at hR
    have s05 := s04.trans s5
    have hpt5 := s05 _ _ hpt
    have hut5 := Tps.mono (TEx.of s05) hut
    -- all([term[1:3] in pairs for term in terms if term[0] == 'line'])
    refine ⟨_, rfl, pt, rfl, ⟨_, SqT.of hpt5⟩, ?_⟩
    refine lc_all (walk_tup (K := K) (a := pt) (xs := ut)) (fun H' s => s.sqt (SqT.of hpt5)) (fun i => match ts[i]? with | some (.ln _) => true | _ => false) (by rw [hut.len]; have := O.lt; omega) (fun i x H6 H7 hi s6 y K1 K0 h1 h0 => ?_) (fun D ds H6 s6 hD hall => ?_)
    · obtain ⟨rfl, hx⟩ := y
      obtain ⟨t, ht, e, rfl, he⟩ := hut5.at_ i x hx
      have he6 := s6 _ _ he
      cases t with
      | bn b =>
        refine ⟨rfl, _, rfl, e, _, 0, .str "bend", rfl, rfl, SqT.of he6, rfl, rfl, _, rfl, iteN (by decide) ?_⟩
        exact h0 _ (Same.refl _) (by rw [ht])
      | ln l =>
        refine ⟨rfl, _, rfl, e, _, 0, .str "line", rfl, rfl, SqT.of he6, rfl, rfl, _, rfl, iteD rfl ?_⟩
        refine ⟨_, rfl, 1, rfl, 3, rfl, e, _, rfl, SqT.of he6, fun z => absurd z.1 (show ¬ (HT.sIx 4 0 (some 1) = 0) by decide), fun c nc => ?_⟩
        have ecut : cutV (tmV (.ln l)) (some 1) (some 3) = [.int l.i, .int l.j] := rfl
        rw [ecut]
        have s7 : Same H7 (upd H7 c (.tup [.int l.i, .int l.j])) := same_new nc
        have hq7 := s7 _ _ (s6 _ _ hq)
        have hR7 : Rep (fun v (d : Bd) => Dp K (upd H7 c (.tup [.int l.i, .int l.j])) v (intD [(d.i : Int), (d.j : Int)])) ys bs := Rep.mono hR fun v d hv => by
          obtain ⟨a, rfl, ha⟩ := hv
          exact .tup (SqT.of (s7 _ _ (s6 _ _ ha))) (intD_dp [(d.i : Int), (d.j : Int)])
        refine ⟨_, rfl, intD [(l.i : Int), (l.j : Int)], bs.map (fun d => intD [(d.i : Int), (d.j : Int)]), .tup (SqT.of upd_same) (intD_dp [(l.i : Int), (l.j : Int)]), .lst (SqL.of hq7) (dpAll_of (fun d : Bd => intD [(d.i : Int), (d.j : Int)]) hR7), intD_shaped _, intDs_shaped _ _, ?_⟩
        have ey : ((bs.map (fun d => intD [(d.i : Int), (d.j : Int)])).any fun z => PyData.eqv z (intD [(l.i : Int), (l.j : Int)])) = true := by
          obtain ⟨b, hb, e1, e2⟩ := O.ln l (List.mem_of_getElem? ht)
          rw [List.any_eq_true]
          refine ⟨_, List.mem_map.mpr ⟨b, hb, rfl⟩, ?_⟩
          rw [eqv_pair, e1, e2]
          exact decide_eq_true ⟨rfl, rfl⟩
        rw [ey]
        exact h1 _ s7 (by rw [ht])
    refine ⟨D, ds, rfl, SqL.of hD, ?_⟩
    rw [hall]
    refine ⟨true, rfl, iteF ?_⟩
    -- has_ring
    have s06 := s05.trans s6
    refine ⟨_, rfl, _, rfl, n, .ref pb, bs, rfl, ⟨pb, ub, rfl, s06 _ _ hpb, Tps.mono (TEx.of s06) hub⟩, by have := O.lb; omega, by omega, fun b hb => ⟨(O.b b hb).1, (O.b b hb).2.1⟩, O.rk, fun H7 s7 => ?_⟩
    refine ⟨false, rfl, iteF ?_⟩
    exact k _ (s06.trans s7)
end
end Dt
end

section
set_option Elab.async false
set_option linter.all false
set_option maxRecDepth 100000
set_option maxHeartbeats 4000000
/-! cost_of_term, bends_of, the plain methods of Problem -/
namespace Dt
open PySem PySem.Spec PyProof.Rows L2
theorem rowAt_at {row : List Int} {v : Nat} (h : v < row.length) : (row.map V.int)[v]? = some (.int (rowAt row v)) := by
  rw [List.getElem?_map, rowAt_of h]
  rfl
theorem fm_at {δ ε : Type} (f : δ → Option ε) : ∀ (l : List δ), (List.range l.length).filterMap (fun i => l[i]?.bind f) = l.filterMap f
  | [] => rfl
  | a :: r => by
    have ih := fm_at f r
    rw [List.length_cons, List.range_succ_eq_map, List.filterMap_cons, List.filterMap_map]
    have e : (fun i => (a :: r)[i]?.bind f) ∘ Nat.succ = fun i => r[i]?.bind f := by
      funext i
      simp
    rw [e, ih]
    cases h : f a with
    | none => rw [List.filterMap_cons_none h]; simp [h]
    | some b => rw [List.filterMap_cons_some h]; simp [h]
theorem map_at {δ ε : Type} (f : δ → ε) (l : List δ) : (List.range l.length).filterMap (fun i => l[i]?.map f) = l.map f := by
  have e := fm_at (fun x => some (f x)) l
  rw [List.filterMap_eq_map'] at e
  rw [← e]
  congr 1
  funext i
  cases l[i]? <;> rfl
theorem sIx1 (n : Nat) (h : 2 ≤ n) : ¬ (HT.sIx n 0 (some 1) = 0 ∧ HT.sIx n n none = n) := fun z => by
  have e : HT.sIx n 0 (some ((1 : Nat) : Int)) = min 1 n := HT.sIx_nat n 0 1
  have z1 : HT.sIx n 0 (some ((1 : Nat) : Int)) = 0 := z.1
  omega
theorem mul_ok {i j : Int} (h1 : -1000000000 < i) (h2 : i < 1000000000) : CMul i j := .inl ⟨by omega, by omega⟩
/-! ### an instance of Problem -/
def fl5 (n b l t f : V) : List (Str × V) := [("size", n), ("bounds", b), ("lows", l), ("terms", t), ("known_flows", f)]
abbrev kS : Str := "size"
abbrev kB : Str := "bounds"
abbrev kL : Str := "lows"
abbrev kT : Str := "terms"
abbrev kF : Str := "known_flows"
theorem put1 (n : V) : putF "size" n [] = [(kS, n)] := rfl
theorem put2 (n b : V) : putF "bounds" b [(kS, n)] = [(kS, n), (kB, b)] := by
  simp [putF, (by decide : ¬ (kS = kB))]
theorem put3 (n b l : V) : putF "lows" l [(kS, n), (kB, b)] = [(kS, n), (kB, b), (kL, l)] := by
  simp [putF, (by decide : ¬ (kS = kL)), (by decide : ¬ (kB = kL))]
theorem put4 (n b l t : V) : putF "terms" t [(kS, n), (kB, b), (kL, l)] = [(kS, n), (kB, b), (kL, l), (kT, t)] := by
  simp [putF, (by decide : ¬ (kS = kT)), (by decide : ¬ (kB = kT)), (by decide : ¬ (kL = kT))]
theorem put5 (n b l t f : V) : putF "known_flows" f [(kS, n), (kB, b), (kL, l), (kT, t)] = fl5 n b l t f := by
  simp [putF, fl5, (by decide : ¬ (kS = kF)), (by decide : ¬ (kB = kF)), (by decide : ¬ (kL = kF)), (by decide : ¬ (kT = kF))]
theorem put6 (n b l t f g : V) : putF "known_flows" g (fl5 n b l t f) = fl5 n b l t g := by
  simp [putF, fl5, (by decide : ¬ (kS = kF)), (by decide : ¬ (kB = kF)), (by decide : ¬ (kL = kF)), (by decide : ¬ (kT = kF))]
theorem look_m (n b l t f : V) {m : Str} (h1 : ¬ kS = m := by decide) (h2 : ¬ kB = m := by decide) (h3 : ¬ kL = m := by decide) (h4 : ¬ kT = m := by decide) (h5 : ¬ kF = m := by decide) : (fl5 n b l t f).lookup m = none := by
  have e : ∀ k : Str, ¬ k = m → (m == k) = false := fun k h => by
    rw [beq_eq_false_iff_ne]
    exact fun z => h z.symm
  simp [fl5, List.lookup, e _ h1, e _ h2, e _ h3, e _ h4, e _ h5]
/-- flows that no cycle betters -/
structure Best (n : Nat) (bs : List Bd) (ts : List Tm) (ps gs : List Int) : Prop where
  ok : FlOk bs (lines ts) (bends ts) ps gs
  pot : ∃ D : Nat → Int, ∀ a ∈ resid bs (bends ts) ps gs, D a.v ≤ D a.u + a.c
/-- the flows as they lie -/
def FlsAt (H : Hp) (p : Addr) (ps gs : List Int) : Prop := ∃ pa ga : Addr, H p = some (.tup [.ref pa, .ref ga]) ∧ H pa = some (.lst (ps.map V.int)) ∧ H ga = some (.lst (gs.map V.int))
/-- an instance of Problem -/
def PObj (C : Addr) (H : Hp) (a : Addr) (n : Nat) (bs : List Bd) (lo : List Int) (ts : List Tm) (fl : V) : Prop := ∃ dx vb vl vt, H a = some (.ins C dx (fl5 (.int n) vb vl vt fl)) ∧ TuT bdV H vb bs ∧ Tp H vl (lo.map V.int) ∧ TuT tmV H vt ts
/-- all but a stand -/
def SameX (a : Addr) (H H' : Hp) : Prop := ∀ b u, b ≠ a → H b = some u → H' b = some u
theorem SameX.of {a : Addr} {H H' : Hp} (e : Same H H') : SameX a H H' := fun b u _ h => e b u h
theorem SameX.trans {a : Addr} {H H1 H2 : Hp} (e : SameX a H H1) (f : SameX a H1 H2) : SameX a H H2 := fun b u hb h => f b u hb (e b u hb h)
theorem SameX.upd {a : Addr} {H : Hp} (o : HO) : SameX a H (upd H a o) := fun b u hb h => by rw [upd_ne hb]; exact h
theorem SameX.tex {a : Addr} {H H' : Hp} (e : SameX a H H') {C : Addr} {dx : Addr} {fs : List (Str × V)} (h : H a = some (.ins C dx fs)) : TEx H H' := fun b xs hb => e b _ (fun z => by rw [z, h] at hb; cases hb) hb
theorem PObj.same {C : Addr} {H H' : Hp} {a : Addr} {n : Nat} {bs : List Bd} {lo : List Int} {ts : List Tm} {fl : V} (O : PObj C H a n bs lo ts fl) (e : Same H H') : PObj C H' a n bs lo ts fl := by
  obtain ⟨dx, vb, vl, vt, h1, h2, h3, h4⟩ := O
  exact ⟨dx, vb, vl, vt, e _ _ h1, h2.mono (TEx.of e), h3.mono (TEx.of e), h4.mono (TEx.of e)⟩
theorem PObj.tex {C : Addr} {H H' : Hp} {a : Addr} {n : Nat} {bs : List Bd} {lo : List Int} {ts : List Tm} {fl : V} (O : PObj C H a n bs lo ts fl) (e : SameX a H H') : TEx H H' := by
  obtain ⟨dx, vb, vl, vt, h1, _⟩ := O
  exact e.tex h1
theorem PObj.other {C : Addr} {H H' : Hp} {a b : Addr} {n m : Nat} {bs bs' : List Bd} {lo lo' : List Int} {ts ts' : List Tm} {fl fl' : V} (O : PObj C H a n bs lo ts fl) (O' : PObj C H b m bs' lo' ts' fl') (hb : b ≠ a) (e : SameX a H H') : PObj C H' b m bs' lo' ts' fl' := by
  have t := O.tex e
  obtain ⟨dx, vb, vl, vt, h1, h2, h3, h4⟩ := O'
  exact ⟨dx, vb, vl, vt, e _ _ hb h1, h2.mono t, h3.mono t, h4.mono t⟩
theorem FlsAt.mono {C : Addr} {H H' : Hp} {a p : Addr} {n : Nat} {bs : List Bd} {lo : List Int} {ts : List Tm} {fl : V} {ps gs : List Int} (F : FlsAt H p ps gs) (O : PObj C H a n bs lo ts fl) (e : SameX a H H') : FlsAt H' p ps gs := by
  obtain ⟨dx, vb, vl, vt, h, _⟩ := O
  obtain ⟨pa, ga, h1, h2, h3⟩ := F
  have ne : ∀ {b : Addr} {u : HO}, H b = some u → (∀ C dx fs, u ≠ .ins C dx fs) → b ≠ a := fun hb hu z => by
    rw [z, h] at hb
    exact hu _ _ _ (Option.some.inj hb).symm
  exact ⟨pa, ga, e _ _ (ne h1 fun _ _ _ z => nomatch z) h1, e _ _ (ne h2 fun _ _ _ z => nomatch z) h2, e _ _ (ne h3 fun _ _ _ z => nomatch z) h3⟩
theorem FlsAt.same {H H' : Hp} {p : Addr} {ps gs : List Int} (F : FlsAt H p ps gs) (e : Same H H') : FlsAt H' p ps gs := by
  obtain ⟨pa, ga, h1, h2, h3⟩ := F
  exact ⟨pa, ga, e _ _ h1, e _ _ h2, e _ _ h3⟩
end Dt
end

section
set_option Elab.async false
set_option linter.all false
set_option maxRecDepth 100000
set_option maxHeartbeats 4000000
/-! cost_of_term, bends_of, the plain methods of Problem -/
namespace Dt
open PySem PySem.Spec PyProof.Rows L2
section
variable {P : Program} {w : World} {K : PySem.W.Frag} {mg : Str → Option Value} {base : Heap}
abbrev n_cost_of_term : List Str := ["term", "row", "length"]
abbrev p_cost_of_term : List Str := ["term", "row"]
theorem sc_cost_of_term : FnScope n_cost_of_term p_cost_of_term (defScope s_cost_of_term) := ⟨rfl, rfl, rfl, by decide +kernel, rfl, by decide +kernel, by decide +kernel⟩
def sp_cost_of_term : Sp := fun vs H Q _ => ∃ (vt vr : V) (t : Tm) (row : List Int), vs = [vt, vr] ∧ Tp H vt (tmV t) ∧ Tp H vr (row.map V.int) ∧ tmOk row.length t ∧ Q (.int (tcost (rowAt row) t)) H
theorem ok_cost_of_term {f : Addr} {fd : FuncData} (F : FunD K "cost_of_term" "cost_of_term" (defArgs s_cost_of_term) (defBody s_cost_of_term) (defScope s_cost_of_term) [] [] f fd) (T : Txt K mg) : FnOk P w K mg base CX0 1 f fd p_cost_of_term sp_cost_of_term := by
  refine ok_by F sc_cost_of_term (fun vs H Q E h => ?_) (fun cdv A outer s H vs Q E hr h => ?_)
  · obtain ⟨vt, vr, t, row, rfl, _⟩ := h
    rfl
  · obtain ⟨vt, vr, t, row, rfl, ⟨p, rfl, hp⟩, ⟨r, rfl, hrow⟩, ht, k⟩ := h
    refine ⟨_, (pss_cons (ps_set (i := 2) sc_cost_of_term.nd rfl (Or.inl rfl) (pe_op op_sub (pe_ix (ix_tupK K) (pv 1) (pe_ix (ix_tupK K) (pv 0) pe_int (fun _ _ => rfl)) (fun _ _ => rfl)) (pe_ix (ix_tupK K) (pv 1) (pe_ix (ix_tupK K) (pv 0) pe_int (fun _ _ => rfl)) (fun _ _ => rfl))))
      (pss_one (ps_ret (pe_ifExp (pt_cmpR op_eq (pe_ix (ix_tupK K) (pv 0) pe_int (fun _ _ => rfl)) pe_str (nomark _)) (pe_op op_mul (pe_ix (ix_tupK K) (pv 0) pe_int (fun _ _ => rfl)) (pv 2)) (pe_op op_mul (pe_ix (ix_tupK K) (pv 0) pe_int (fun _ _ => rfl)) (pe_callB call_abs (by rfl) T.abs (by decide +kernel) (pa_cons (pe_op op_sub (pv 2) (pe_ix (ix_tupK K) (pv 0) pe_int (fun _ _ => rfl))) pa_nil))))))), ?_⟩
    cases t with
    | ln l =>
      obtain ⟨h1, h2, h3, h4, h5⟩ := ht
      refine ⟨_, rfl, _, rfl, p, _, 2, .int l.j, rfl, rfl, SqT.of hp, rfl, r, _, _, _, rfl, rfl, SqT.of hrow, atI_nat (rowAt_at h2), ?_⟩
      refine ⟨_, rfl, _, rfl, p, _, 1, .int l.i, rfl, rfl, SqT.of hp, rfl, r, _, _, _, rfl, rfl, SqT.of hrow, atI_nat (rowAt_at h1), ?_⟩
      refine ⟨_, _, rfl, rfl, ?_⟩
      refine ⟨_, rfl, p, _, 0, .str "line", rfl, rfl, SqT.of hp, rfl, rfl, _, rfl, iteD rfl ?_⟩
      refine ⟨_, rfl, p, _, 3, .int l.w, rfl, rfl, SqT.of hp, rfl, _, rfl, _, _, rfl, rfl, mul_ok (by omega) (by omega), ?_⟩
      exact k
    | bn b =>
      obtain ⟨h1, h2, h3, h4, h5, h6, h7⟩ := ht
      refine ⟨_, rfl, _, rfl, p, _, 2, .int b.j, rfl, rfl, SqT.of hp, rfl, r, _, _, _, rfl, rfl, SqT.of hrow, atI_nat (rowAt_at h2), ?_⟩
      refine ⟨_, rfl, _, rfl, p, _, 1, .int b.i, rfl, rfl, SqT.of hp, rfl, r, _, _, _, rfl, rfl, SqT.of hrow, atI_nat (rowAt_at h1), ?_⟩
      refine ⟨_, _, rfl, rfl, ?_⟩
      refine ⟨_, rfl, p, _, 0, .str "bend", rfl, rfl, SqT.of hp, rfl, rfl, _, rfl, iteN (by decide) ?_⟩
      refine ⟨_, rfl, p, _, 4, .int b.w, rfl, rfl, SqT.of hp, rfl, _, rfl, _, rfl, p, _, 3, .int b.k, rfl, rfl, SqT.of hp, rfl, _, _, rfl, rfl, _, rfl, _, _, rfl, rfl, mul_ok (by omega) (by omega), ?_⟩
      exact k
abbrev n_bends_of : List Str := ["terms", "term"]
abbrev p_bends_of : List Str := ["terms"]
theorem sc_bends_of : FnScope n_bends_of p_bends_of (defScope s_bends_of) := ⟨rfl, rfl, rfl, by decide +kernel, rfl, by decide +kernel, by decide +kernel⟩
def sp_bends_of : Sp := fun vs H Q _ => ∃ (vt : V) (ts : List Tm), vs = [vt] ∧ TuT tmV H vt ts ∧ ts.length ≤ 1000 ∧ ∀ v H', Same H H' → LsT bnV H' v (bends ts) → Q v H'
theorem ok_bends_of {f : Addr} {fd : FuncData} (F : FunD K "bends_of" "bends_of" (defArgs s_bends_of) (defBody s_bends_of) (defScope s_bends_of) [] [] f fd) (T : Txt K mg) : FnOk P w K mg base CX0 1 f fd p_bends_of sp_bends_of := by
  refine ok_by F sc_bends_of (fun vs H Q E h => ?_) (fun cdv A outer s H vs Q E hr h => ?_)
  · obtain ⟨vt, ts, rfl, _⟩ := h
    rfl
  · obtain ⟨vt, ts, rfl, ⟨p, us, rfl, hp, hus⟩, hl, k⟩ := h
    refine ⟨_, (pss_one (ps_ret (pe_lc (own := [("term", 1)]) (by rfl) sc_bends_of.nd (pi_tup (pv 0)) (blkOk_by (own := [("term", 1)]) (N := n_bends_of) (sc := defScope s_bends_of) (by decide +kernel)) (fun _ _ _ _ _ => (pg_name (i := 1) sc_bends_of.nd rfl (Or.inl rfl))) (fun _ _ _ _ _ => (pts_one (pt_cmpR op_eq (pe_ix (ix_tupK K) (pv 1) pe_int (fun _ _ => rfl)) pe_str (nomark _)))) (fun _ _ _ _ _ => (pe_slice (sl_tupK K) (pv 1) (po_some pe_int) po_none))))), ?_⟩
    refine ⟨_, rfl, p, rfl, ⟨_, SqT.of hp⟩, ?_⟩
    refine lc_rep (walk_tup (K := K) (a := p) (xs := us)) (δ := Bn) (fun H v d => Tp H v (bnV d)) (fun _ _ _ _ e h => h.mono e) (fun H' s => s.sqt (SqT.of hp))
      (fun i => ts[i]?.bind bnOf) (by rw [hus.len]; omega) (fun i x H2 H3 hi s2 y K1 K0 h1 h0 => ?_) (fun q ys H5 nq s5 hq hR => ?_)
    · obtain ⟨rfl, hx⟩ := y
      obtain ⟨t, ht, e, rfl, he⟩ := hus.at_ i x hx
      have he2 := s2 _ _ he
      cases t with
      | ln l =>
        refine ⟨rfl, _, rfl, e, _, 0, .str "line", rfl, rfl, SqT.of he2, rfl, rfl, _, rfl, iteN (by decide) ?_⟩
        exact h0 _ (Same.refl _) (by rw [ht]; rfl)
      | bn b =>
        refine ⟨rfl, _, rfl, e, _, 0, .str "bend", rfl, rfl, SqT.of he2, rfl, rfl, _, rfl, iteD rfl ?_⟩
        refine ⟨_, rfl, 1, rfl, e, _, rfl, SqT.of he2, sIx1 5 (by omega), fun c nc => ?_⟩
        exact h1 _ b _ (same_new nc) (by rw [ht]; rfl) ⟨c, rfl, upd_same⟩
    · rw [hus.len, fm_at] at hR
      exact k _ _ s5 ⟨q, ys, rfl, hq, hR⟩
abbrev n_P_init : List Str := ["self", "size", "bounds", "lows", "terms"]
abbrev p_P_init : List Str := ["self", "size", "bounds", "lows", "terms"]
theorem sc_P_init : FnScope n_P_init p_P_init (defScope s_P_init) := ⟨rfl, rfl, rfl, by decide +kernel, rfl, by decide +kernel, by decide +kernel⟩
def sp_P_init (C : Addr) : Sp := fun vs H Q _ => ∃ (a : Addr) (dx : Addr) (n : Nat) (vb vl vt : V) (bs : List Bd) (lo : List Int) (ts : List Tm), vs = [.ref a, .int n, vb, vl, vt] ∧ H a = some (.ins C dx []) ∧ TuT bdV H vb bs ∧ Tp H vl (lo.map V.int) ∧ TuT tmV H vt ts ∧ POk n bs lo ts ∧
  ∀ H', SameX a H H' → PObj C H' a n bs lo ts .non → Q .non H'
theorem ok_P_init {C : Addr} {f : Addr} {fd : FuncData} (F : FunD K "__init__" "Problem.__init__" (defArgs s_P_init) (defBody s_P_init) (defScope s_P_init) [] [("lows", .non)] f fd) (T : Txt K mg) (Z : Zt K mg C) (C_need_problem : Cal P w K mg base "need_problem" 7 p_need_problem sp_need_problem) : FnOk P w K mg base CX0 8 f fd p_P_init (sp_P_init C) := by
  refine ok_by F sc_P_init (fun vs H Q E h => ?_) (fun cdv A outer s H vs Q E hr h => ?_)
  · obtain ⟨a, dx, n, vb, vl, vt, bs, lo, ts, rfl, _⟩ := h
    rfl
  · obtain ⟨a, dx, n, vb, vl, vt, bs, lo, ts, rfl, ha, hb, hl, ht, O, k⟩ := h
    refine ⟨_, (pss_cons (ps_expr (pe_cal C_need_problem hr (by decide) (pa_cons (pv 1) (pa_cons (pv 2) (pa_cons (pv 3) (pa_cons (pv 4) pa_nil))))))
      (pss_cons (ps_fld (pv 0) (pv 1) rfl)
      (pss_cons (ps_fld (pv 0) (pv 2) rfl)
      (pss_cons (ps_fld (pv 0) (pe_ifExp (pt_cmpR op_isN (pv 3) pe_non (nomark _)) (pe_op op_mul (pe_tup (pa_cons pe_int pa_nil)) (pv 1)) (pv 3)) rfl)
      (pss_cons (ps_fld (pv 0) (pv 4) rfl)
      (pss_one (ps_fld (pv 0) pe_non rfl))))))), ?_⟩
    refine ⟨_, rfl, _, rfl, _, rfl, _, rfl, n, vb, vl, vt, bs, lo, ts, rfl, hb, hl, ht, O, fun H1 s1 => ?_⟩
    have ha1 := s1 _ _ ha
    refine ⟨_, rfl, _, rfl, a, C, dx, _, rfl, ha1, Z.cl, Z.nS, (by decide), ?_⟩
    rw [put1]
    refine ⟨_, rfl, _, rfl, a, C, dx, _, rfl, upd_same, Z.cl, Z.nB, (by show (1 : Nat) < 1000; decide), ?_⟩
    rw [put2, upd_upd]
    refine ⟨_, rfl, rfl, _, rfl, iteN (fun z => by obtain ⟨q, hq, _⟩ := hl; rw [hq] at z; cases z) ?_⟩
    refine ⟨_, rfl, _, rfl, a, C, dx, _, rfl, upd_same, Z.cl, Z.nL, (by show (2 : Nat) < 1000; decide), ?_⟩
    rw [put3, upd_upd]
    refine ⟨_, rfl, _, rfl, a, C, dx, _, rfl, upd_same, Z.cl, Z.nT, (by show (3 : Nat) < 1000; decide), ?_⟩
    rw [put4, upd_upd]
    refine ⟨_, rfl, a, C, dx, _, rfl, upd_same, Z.cl, Z.nF, (by show (4 : Nat) < 1000; decide), ?_⟩
    rw [put5, upd_upd]
    have sx : SameX a H (upd H1 a (.ins C dx (fl5 (.int n) vb vl vt .non))) := (SameX.of s1).trans (SameX.upd _)
    have tx := sx.tex ha
    exact k _ sx ⟨dx, vb, vl, vt, upd_same, hb.mono tx, hl.mono tx, ht.mono tx⟩
abbrev n_P_is_feasible : List Str := ["self", "row", "i", "j", "d", "value", "low"]
abbrev p_P_is_feasible : List Str := ["self", "row"]
theorem sc_P_is_feasible : FnScope n_P_is_feasible p_P_is_feasible (defScope s_P_is_feasible) := ⟨rfl, rfl, rfl, by decide +kernel, rfl, by decide +kernel, by decide +kernel⟩
def sp_P_is_feasible (C : Addr) : Sp := fun vs H Q _ => ∃ (a : Addr) (v : V) (bs : List Bd) (lo : List Int) (ts : List Tm) (fl : V) (row : List Int), vs = [.ref a, v] ∧ PObj C H a row.length bs lo ts fl ∧ POk row.length bs lo ts ∧ Tp H v (row.map V.int) ∧
  Feas row.length bs (rowAt lo) (rowAt row) ∧ ∀ H', Same H H' → Q (.bl true) H'
theorem ok_P_is_feasible {C : Addr} {f : Addr} {fd : FuncData} (F : FunD K "is_feasible" "Problem.is_feasible" (defArgs s_P_is_feasible) (defBody s_P_is_feasible) (defScope s_P_is_feasible) [] [] f fd) (T : Txt K mg) (Z : Zt K mg C) (C_is_row_of : Cal P w K mg base "is_row_of" 2 p_is_row_of sp_is_row_of) : FnOk P w K mg base CX0 3 f fd p_P_is_feasible (sp_P_is_feasible C) := by
  refine ok_by F sc_P_is_feasible (fun vs H Q E h => ?_) (fun cdv A outer s H vs Q E hr h => ?_)
  · obtain ⟨a, v, bs, lo, ts, fl, row, rfl, _⟩ := h
    rfl
  · obtain ⟨a, v, bs, lo, ts, fl, row, rfl, ⟨dx, vb, vl, vt, ha, ⟨pb, ub, rfl, hpb, hub⟩, ⟨pl, rfl, hpl⟩, hT⟩, O, ⟨r, rfl, hrow⟩, Fe, k⟩ := h
    refine ⟨_, (pss_cons (ps_if (PW.pt (pw_or (pt_not (pt_val (pe_cal C_is_row_of hr (by decide) (pa_cons (pv 1) (pa_cons (pe_fld (pv 0) rfl) pa_nil))))) (pw_or1 (pt_not (pt_val (pe_callB (cr_all rfl) (by rfl) T.all (by decide +kernel) (pa_cons (pe_lc (own := [("value", 5), ("low", 6)]) (by rfl) sc_P_is_feasible.nd (pi_zipK true true (by rfl) T.zip (pa_cons (pv 1) (pa_cons (pe_fld (pv 0) rfl) pa_nil))) (blkOk_by (own := [("value", 5), ("low", 6)]) (N := n_P_is_feasible) (sc := defScope s_P_is_feasible) (by decide +kernel)) (fun _ _ _ _ _ => (pg_tupK K 2 rfl (pgs_cons (pg_name (i := 5) sc_P_is_feasible.nd rfl (Or.inl rfl)) (pgs_cons (pg_name (i := 6) sc_P_is_feasible.nd rfl (Or.inl rfl)) pgs_nil)))) (fun _ _ _ _ _ => pts_nil) (fun _ _ _ _ _ => (pe_cmpR op_ge (pv 5) (pv 6) (nomark _)))) pa_nil))))))) (pss_one (ps_ret pe_bl)) pss_nil)
      (pss_one (ps_ret (pe_callB (cr_all rfl) (by rfl) T.all (by decide +kernel) (pa_cons (pe_lc (own := [("i", 2), ("j", 3), ("d", 4)]) (by rfl) sc_P_is_feasible.nd (pi_tup (pe_fld (pv 0) rfl)) (blkOk_by (own := [("i", 2), ("j", 3), ("d", 4)]) (N := n_P_is_feasible) (sc := defScope s_P_is_feasible) (by decide +kernel)) (fun _ _ _ _ _ => (pg_tupK K 3 rfl (pgs_cons (pg_name (i := 2) sc_P_is_feasible.nd rfl (Or.inl rfl)) (pgs_cons (pg_name (i := 3) sc_P_is_feasible.nd rfl (Or.inl rfl)) (pgs_cons (pg_name (i := 4) sc_P_is_feasible.nd rfl (Or.inl rfl)) pgs_nil))))) (fun _ _ _ _ _ => pts_nil) (fun _ _ _ _ _ => (pe_cmpR op_ge (pe_op op_sub (pe_ix (ix_tupK K) (pv 1) (pv 3) (fun _ _ => rfl)) (pe_ix (ix_tupK K) (pv 1) (pv 2) (fun _ _ => rfl))) (pv 4) (nomark _)))) pa_nil))))), ?_⟩
    have n12 := O.n12
    refine ⟨_, rfl, _, rfl, a, C, dx, _, _, rfl, ha, Z.cl, Z.nS, rfl, .ref r, row, rfl, ⟨r, rfl, hrow⟩, by omega, fun H1 s1 => ?_⟩
    refine ⟨true, rfl, iteF ?_⟩
    have ha1 := s1 _ _ ha
    have hrow1 := s1 _ _ hrow
    have hpl1 := s1 _ _ hpl
    refine ⟨_, rfl, _, rfl, a, C, dx, _, _, rfl, ha1, Z.cl, Z.nL, rfl, r, pl, _, _, rfl, SqT.of hrow1, SqT.of hpl1, ?_⟩
    refine lc_all (walk_zipK (t1 := true) (t2 := true) (K := K) (a := r) (b := pl) (xs := row.map V.int) (ys := lo.map V.int) rfl) (fun H' s => ⟨s.sqt (SqT.of hrow1), s.sqt (SqT.of hpl1)⟩) (fun _ => true) (by rw [List.length_map]; omega) (fun i x H3 H4 hi s3 y K1 K0 h1 h0 => ?_) (fun D ds H3 s3 hD hall => ?_)
    · obtain ⟨q, x, z, rfl, nq, rfl, hx, hz⟩ := y
      obtain ⟨x, ex, rfl⟩ := (rep_map V.int row).at_ i x hx
      obtain ⟨z, ez, rfl⟩ := (rep_map V.int lo).at_ i z hz
      have hi1 : i < row.length := (List.getElem?_eq_some_iff.mp ex).1
      have hle := Fe.low i hi1
      have e1 := rowAt_of hi1
      have e2 := rowAt_of (show i < lo.length by rw [O.ll]; exact hi1)
      rw [ex] at e1
      rw [ez] at e2
      have e1' := Option.some.inj e1
      have e2' := Option.some.inj e2
      refine ⟨q, _, rfl, SqT.of upd_same, rfl, .int x, _, rfl, .int z, _, rfl, rfl, rfl, tyes ?_⟩
      refine ⟨_, rfl, _, rfl, _, _, rfl, rfl, ?_⟩
      have e : V.bl (decide (z ≤ x)) = V.bl true := blT (by omega)
      show K1 (V.bl (decide (z ≤ x))) _
      rw [e]
      exact h1 _ (same_new nq) rfl
    refine ⟨D, ds, rfl, SqL.of hD, ?_⟩
    rw [hall]
    refine ⟨true, rfl, iteF ?_⟩
    have s13 := s1.trans s3
    have hpb3 := s13 _ _ hpb
    have hub3 := Tps.mono (TEx.of s13) hub
    have hrow3 := s13 _ _ hrow
    refine ⟨_, rfl, a, C, dx, _, _, rfl, s13 _ _ ha, Z.cl, Z.nB, rfl, pb, rfl, ⟨_, SqT.of hpb3⟩, ?_⟩
    refine lc_all (walk_tup (K := K) (a := pb) (xs := ub)) (fun H' s => s.sqt (SqT.of hpb3)) (fun _ => true) (by rw [hub.len]; have := O.lb; omega) (fun i x H4 H5 hi s4 y K1 K0 h1 h0 => ?_) (fun D ds H4 s4 hD hall => ?_)
    · obtain ⟨rfl, hx⟩ := y
      obtain ⟨b, hb, q, rfl, hq⟩ := hub3.at_ i x hx
      have hq4 := s4 _ _ hq
      have hrow4 := s4 _ _ hrow3
      have bm := List.mem_of_getElem? hb
      obtain ⟨b1, b2, b3, b4, b5⟩ := O.b b bm
      have hbf := Fe.bf b bm
      refine ⟨q, _, rfl, SqT.of hq4, rfl, .int b.i, _, rfl, .int b.j, _, rfl, .int b.d, _, rfl, rfl, rfl, tyes ?_⟩
      refine ⟨_, rfl, _, rfl, r, _, _, _, rfl, rfl, SqT.of hrow4, atI_nat (rowAt_at b2), ?_⟩
      refine ⟨_, rfl, _, rfl, r, _, _, _, rfl, rfl, SqT.of hrow4, atI_nat (rowAt_at b1), ?_⟩
      refine ⟨_, _, rfl, rfl, _, rfl, _, _, rfl, rfl, ?_⟩
      have e : V.bl (decide (b.d ≤ rowAt row b.j - rowAt row b.i)) = V.bl true := blT hbf
      show K1 (V.bl (decide (b.d ≤ rowAt row b.j - rowAt row b.i))) _
      rw [e]
      exact h1 _ (Same.refl _) rfl
    refine ⟨D, ds, rfl, SqL.of hD, ?_⟩
    rw [hall]
    exact k _ (s13.trans s4)
abbrev n_P_least_sum : List Str := ["self", "row", "term"]
abbrev p_P_least_sum : List Str := ["self", "row"]
theorem sc_P_least_sum : FnScope n_P_least_sum p_P_least_sum (defScope s_P_least_sum) := ⟨rfl, rfl, rfl, by decide +kernel, rfl, by decide +kernel, by decide +kernel⟩
def sp_P_least_sum (C : Addr) : Sp := fun vs H Q _ => ∃ (a : Addr) (v : V) (bs : List Bd) (lo : List Int) (ts : List Tm) (fl : V) (row : List Int), vs = [.ref a, v] ∧ PObj C H a row.length bs lo ts fl ∧ POk row.length bs lo ts ∧ Tp H v (row.map V.int) ∧
  ∀ H', Same H H' → Q (.int (cost ts (rowAt row))) H'
theorem ok_P_least_sum {C : Addr} {f : Addr} {fd : FuncData} (F : FunD K "least_sum" "Problem.least_sum" (defArgs s_P_least_sum) (defBody s_P_least_sum) (defScope s_P_least_sum) [] [] f fd) (T : Txt K mg) (Z : Zt K mg C) (C_cost_of_term : Cal P w K mg base "cost_of_term" 1 p_cost_of_term sp_cost_of_term) : FnOk P w K mg base CX0 2 f fd p_P_least_sum (sp_P_least_sum C) := by
  refine ok_by F sc_P_least_sum (fun vs H Q E h => ?_) (fun cdv A outer s H vs Q E hr h => ?_)
  · obtain ⟨a, v, bs, lo, ts, fl, row, rfl, _⟩ := h
    rfl
  · obtain ⟨a, v, bs, lo, ts, fl, row, rfl, ⟨dx, vb, vl, vt, ha, hB, hL, ⟨pt, ut, rfl, hpt, hut⟩⟩, O, ⟨r, rfl, hrow⟩, k⟩ := h
    refine ⟨_, (pss_one (ps_ret (pe_callB (cr_sum rfl) (by rfl) T.sum (by decide +kernel) (pa_cons (pe_lc (own := [("term", 2)]) (by rfl) sc_P_least_sum.nd (pi_tup (pe_fld (pv 0) rfl)) (blkOk_by (own := [("term", 2)]) (N := n_P_least_sum) (sc := defScope s_P_least_sum) (by decide +kernel)) (fun _ _ _ _ _ => (pg_name (i := 2) sc_P_least_sum.nd rfl (Or.inl rfl))) (fun _ _ _ _ _ => pts_nil) (fun _ _ _ _ _ => (pe_cal C_cost_of_term hr (by decide) (pa_cons (pv 2) (pa_cons (pv 1) pa_nil))))) pa_nil)))), ?_⟩
    refine ⟨_, rfl, a, C, dx, _, _, rfl, ha, Z.cl, Z.nT, rfl, pt, rfl, ⟨_, SqT.of hpt⟩, ?_⟩
    refine lc_rep (walk_tup (K := K) (a := pt) (xs := ut)) (δ := Int) (fun H v d => v = .int d) (fun _ _ _ _ e h => h) (fun H' s => s.sqt (SqT.of hpt))
      (fun i => ts[i]?.map (tcost (rowAt row))) (by rw [hut.len]; have := O.lt; omega) (fun i x H2 H3 hi s2 y K1 K0 h1 h0 => ?_) (fun q ys H5 nq s5 hq hR => ?_)
    · obtain ⟨rfl, hx⟩ := y
      obtain ⟨t, ht, e, rfl, he⟩ := hut.at_ i x hx
      have he2 := s2 _ _ he
      refine ⟨rfl, tyes ?_⟩
      exact ⟨_, rfl, _, rfl, .ref e, .ref r, t, row, rfl, ⟨e, rfl, he2⟩, ⟨r, rfl, s2 _ _ hrow⟩, O.t t (List.mem_of_getElem? ht), h1 _ _ _ (Same.refl _) (by rw [ht]; rfl) rfl⟩
    · rw [hut.len, map_at] at hR
      have e := hR.eq_map
      refine ⟨q, _, rfl, SqL.of (by rw [hq, e]), ?_⟩
      exact k _ s5
abbrev n_P_cost_of_row : List Str := ["self", "row"]
abbrev p_P_cost_of_row : List Str := ["self", "row"]
theorem sc_P_cost_of_row : FnScope n_P_cost_of_row p_P_cost_of_row (defScope s_P_cost_of_row) := ⟨rfl, rfl, rfl, by decide +kernel, rfl, by decide +kernel, by decide +kernel⟩
def sp_P_cost_of_row (C : Addr) : Sp := sp_P_least_sum C
theorem ok_P_cost_of_row {C : Addr} {f : Addr} {fd : FuncData} (F : FunD K "cost_of_row" "Problem.cost_of_row" (defArgs s_P_cost_of_row) (defBody s_P_cost_of_row) (defScope s_P_cost_of_row) [] [] f fd) (T : Txt K mg) (Z : Zt K mg C) (C_is_row_of : Cal P w K mg base "is_row_of" 2 p_is_row_of sp_is_row_of) (C_P_least_sum : MCal P w K mg base C "least_sum" 2 p_P_least_sum (sp_P_least_sum C)) : FnOk P w K mg base CX0 3 f fd p_P_cost_of_row (sp_P_cost_of_row C) := by
  refine ok_by F sc_P_cost_of_row (fun vs H Q E h => ?_) (fun cdv A outer s H vs Q E hr h => ?_)
  · obtain ⟨a, v, bs, lo, ts, fl, row, rfl, _⟩ := h
    rfl
  · obtain ⟨a, v, bs, lo, ts, fl, row, rfl, B, O, hrow, k⟩ := h
    have n12 := O.n12
    have B' := B
    obtain ⟨dx, vb, vl, vt, ha, hB, hL, hT⟩ := B'
    refine ⟨_, (pss_cons (ps_if (pt_not (pt_val (pe_cal C_is_row_of hr (by decide) (pa_cons (pv 1) (pa_cons (pe_fld (pv 0) rfl) pa_nil))))) (pss_one ps_never) pss_nil)
      (pss_one (ps_ret (pe_mcal (pv 0) Z.cl C_P_least_sum hr (by decide) (pa_cons (pv 1) pa_nil))))), ?_⟩
    refine ⟨_, rfl, _, rfl, a, C, dx, _, _, rfl, ha, Z.cl, Z.nS, rfl, v, row, rfl, hrow, by omega, fun H1 s1 => ?_⟩
    refine ⟨true, rfl, iteF ?_⟩
    refine ⟨_, rfl, a, dx, _, rfl, s1 _ _ ha, look_m _ _ _ _ _, _, rfl, a, v, bs, lo, ts, fl, row, rfl, B.same s1, O, hrow.mono (TEx.of s1), fun H2 s2 => k _ (s1.trans s2)⟩
end
end Dt
end

section
set_option Elab.async false
set_option linter.all false
set_option maxRecDepth 100000
set_option maxHeartbeats 4000000
/-! first_pulls, residual_arcs, implied_steps, raised -/
namespace Dt
open PySem PySem.Spec PyProof.Rows L2
def zeros (n : Nat) : List Int := (List.range n).map fun _ => (0 : Int)
theorem zeros_len (n : Nat) : (zeros n).length = n := by simp [zeros]
theorem zeros_mem {n : Nat} {z : Int} (h : z ∈ zeros n) : z = 0 := by
  unfold zeros at h
  obtain ⟨_, _, e⟩ := List.mem_map.mp h
  exact e.symm
theorem int_at {l : List Int} {k : Nat} {z : Int} (h : l[k]? = some z) : (l.map V.int)[k]? = some (.int z) := by
  rw [List.getElem?_map, h]
  rfl
theorem zip_zero {α : Type} (F : α × Int → Int) (hF : ∀ a, F (a, 0) = 0) : ∀ (l : List α) (n : Nat), ((l.zip (zeros n)).map F).sum = 0 := fun l n => by
  refine sum_zero _ _ fun t ht => ?_
  have e := zeros_mem (List.of_mem_zip ht).2
  have : t = (t.1, 0) := by rw [← e]
  rw [this]
  exact hF _
theorem eqv_pairs (a b c d : Int) : (!PyData.eqv (intD [a, b]) (intD [c, d])) = !decide (a = c ∧ b = d) := by rw [eqv_pair]
/-- the first of a kind -/
theorem first_of {δ : Type} (p : δ → Bool) : ∀ l : List δ, (∃ x ∈ l, p x = true) → ∃ k x, l[k]? = some x ∧ p x = true ∧ ∀ (j : Nat) (z : δ), j < k → l[j]? = some z → p z = false
  | [], h => by obtain ⟨x, hx, _⟩ := h; cases hx
  | a :: r, h => by
    by_cases ha : p a = true
    · exact ⟨0, a, rfl, ha, fun j z hj => absurd hj (Nat.not_lt_zero j)⟩
    · obtain ⟨x, hx, e⟩ := h
      rcases List.mem_cons.mp hx with rfl | hx
      · exact absurd e ha
      · obtain ⟨k, z, h1, h2, h3⟩ := first_of p r ⟨x, hx, e⟩
        refine ⟨k + 1, z, h1, h2, fun j y hj ey => ?_⟩
        cases j with
        | zero => have : a = y := Option.some.inj ey; rw [← this]; simpa using ha
        | succ j => exact h3 j y (by omega) ey
theorem ix_nat {n j : Nat} (hj : j < n) : ixN n (j : Int) = some j := by
  unfold ixN
  rw [if_pos (by omega), if_pos (by omega)]
  simp
theorem take_succ_at {δ : Type} {l : List δ} {i : Nat} {x : δ} (h : l[i]? = some x) : l.take (i + 1) = l.take i ++ [x] := by
  rw [List.take_succ, h]
  rfl
section
variable {P : Program} {w : World} {K : PySem.W.Frag} {mg : Str → Option Value} {base : Heap}
abbrev n_first_pulls : List Str := ["bounds", "lines", "pulls", "i", "j", "w", "at", "bound"]
abbrev p_first_pulls : List Str := ["bounds", "lines"]
theorem sc_first_pulls : FnScope n_first_pulls p_first_pulls (defScope s_first_pulls) := ⟨rfl, rfl, rfl, by decide +kernel, rfl, by decide +kernel, by decide +kernel⟩
def sp_first_pulls : Sp := fun vs H Q _ => ∃ (vb vl : V) (bs : List Bd) (ls : List Ln), vs = [vb, vl] ∧ TuT bdV H vb bs ∧ LsT lnV H vl ls ∧ bs.length ≤ 100 ∧ ls.length ≤ 100 ∧ (∀ l ∈ ls, ∃ b ∈ bs, b.i = l.i ∧ b.j = l.j) ∧ (∀ l ∈ ls, 0 ≤ l.w) ∧
  ∀ q H' ps, H q = none → Same H H' → H' q = some (.lst (ps.map V.int)) → ps.length = bs.length → (∀ p ∈ ps, 0 ≤ p) → (∀ y, sumB bs ps y = sumL ls y) → Q (.ref q) H'
theorem ok_first_pulls {f : Addr} {fd : FuncData} (F : FunD K "first_pulls" "first_pulls" (defArgs s_first_pulls) (defBody s_first_pulls) (defScope s_first_pulls) [] [] f fd) (T : Txt K mg) : FnOk P w K mg base CX0 1 f fd p_first_pulls sp_first_pulls := by
  refine ok_by F sc_first_pulls (fun vs H Q E h => ?_) (fun cdv A outer s H vs Q E hr h => ?_)
  · obtain ⟨vb, vl, bs, ls, rfl, _⟩ := h
    rfl
  · obtain ⟨vb, vl, bs, ls, rfl, ⟨pb, ub, rfl, hpb, hub⟩, ⟨pl, ul, rfl, hpl, hul⟩, nb, nl, has, wnn, k⟩ := h
    refine ⟨_, (pss_cons (ps_setLc (i := 2) (own := [("bound", 7)]) (by rfl) sc_first_pulls.nd rfl rfl (sw_true rfl rfl rfl (by decide +kernel)) (pi_tup (pv 0)) (blkOk_by (own := [("bound", 7)]) (N := n_first_pulls) (sc := defScope s_first_pulls) (by decide +kernel)) (fun _ _ _ _ _ => (pg_name (i := 7) sc_first_pulls.nd rfl (Or.inl rfl))) (fun _ _ _ _ _ => pts_nil) (fun _ _ _ _ _ => pe_int))
      (pss_cons (ps_for PassesOwn.never rfl (pi_list (pv 1)) (pg_tupK K 3 rfl (pgs_cons (pg_name (i := 3) sc_first_pulls.nd rfl (Or.inl rfl)) (pgs_cons (pg_name (i := 4) sc_first_pulls.nd rfl (Or.inl rfl)) (pgs_cons (pg_name (i := 5) sc_first_pulls.nd rfl (Or.inl rfl)) pgs_nil))))
        (pss_cons (ps_set (i := 6) sc_first_pulls.nd rfl (Or.inl rfl) pe_int)
        (pss_cons (ps_while PassesOwn.never (pt_cmpR (op_neD hr.units) (pe_slice (sl_tupK K) (pe_ix (ix_tupK K) (pv 0) (pv 6) (fun _ _ => rfl)) po_none (po_some pe_int)) (pe_tup (pa_cons (pv 3) (pa_cons (pv 4) pa_nil))) (nomark _))
          (pss_one (ps_set (i := 6) sc_first_pulls.nd rfl (Or.inl rfl) (pe_op op_add (pv 6) pe_int))))
        (pss_one (ps_asg (pe_op op_add (pe_ix (ix_listK K) (pv 2) (pv 6) (fun _ _ => rfl)) (pv 5)) (pg_sub (pv 2) (pv 6) set_list))))))
      (pss_one (ps_ret (pv 2))))), ?_⟩
    refine ⟨_, rfl, pb, rfl, ⟨_, SqT.of hpb⟩, ?_⟩
    refine lc_rep (walk_tup (K := K) (a := pb) (xs := ub)) (δ := Int) (fun H v d => v = .int d) (fun _ _ _ _ e h => h) (fun H' s => s.sqt (SqT.of hpb))
      (fun i => some 0) (by rw [hub.len]; omega) (fun i x H2 H3 hi s2 y K1 K0 h1 h0 => ?_) (fun q ys H1 nq s1 hq hR => ?_)
    · obtain ⟨rfl, hx⟩ := y
      exact ⟨rfl, tyes (h1 _ 0 _ (Same.refl _) rfl rfl)⟩
    rw [filterMap_all (fun _ => (0 : Int))] at hR
    have ey := hR.eq_map
    rw [ey, hub.len] at hq
    have hpl1 := s1 _ _ hpl
    refine ⟨_, rfl, pl, rfl, ⟨_, SqL.of hpl1⟩, ?_⟩
    refine for_it (walk_list (K := K) (a := pl) (xs := ul)) (fun i σ H' => ∃ (x3 x4 x5 x6 : Option V) (ps : List Int), σ = [some (.ref pb), some (.ref pl), some (.ref q), x3, x4, x5, x6, none] ∧ Same H H' ∧ H' q = some (.lst (ps.map V.int)) ∧ ps.length = bs.length ∧ (∀ p ∈ ps, 0 ≤ p) ∧ ∀ y, sumB bs ps y = sumL (ls.take i) y)
      ⟨none, none, none, none, zeros bs.length, rfl, s1, hq, zeros_len _, fun p hp => by rw [zeros_mem hp]; exact Int.le_refl 0, fun y => ?_⟩ (fun i σ H' _ p => ?_) (fun i x σ H2 H3 hi p y => ?_) (fun σ H' p => ?_)
    · exact (zip_zero _ (fun a => by show (0 : Int) * _ = 0; rw [Int.zero_mul]) _ _).trans (by simp [sumL])
    · obtain ⟨_, _, _, _, _, _, s2, _⟩ := p
      exact SqL.of (s2 _ _ hpl)
    · obtain ⟨x3, x4, x5, x6, ps, rfl, s2, hq2, lps, nn, bal⟩ := p
      obtain ⟨rfl, hx⟩ := y
      obtain ⟨l, hl, e, rfl, he⟩ := hul.at_ i x hx
      have he2 := s2 _ _ he
      have lm := List.mem_of_getElem? hl
      obtain ⟨k0, b0, hk0, hb0, hfirst⟩ := first_of (fun b : Bd => decide (((b.i : Int) = l.i) ∧ ((b.j : Int) = l.j))) bs (by
        obtain ⟨b, hb, e1, e2⟩ := has l lm
        exact ⟨b, hb, decide_eq_true ⟨by rw [e1], by rw [e2]⟩⟩)
      have hk0l := (List.getElem?_eq_some_iff.mp hk0).1
      have hb0' := of_decide_eq_true hb0
      refine ⟨e, _, rfl, SqT.of he2, rfl, .int l.i, _, rfl, .int l.j, _, rfl, .int l.w, _, rfl, rfl, ?_⟩
      -- at = 0; while
      refine ⟨fun m σ H' => ∃ k : Nat, m = k0 - k ∧ k ≤ k0 ∧ σ = [some (.ref pb), some (.ref pl), some (.ref q), some (.int l.i), some (.int l.j), some (.int l.w), some (.int k), none] ∧ Same H3 H', ⟨_, 0, rfl, Nat.zero_le _, rfl, Same.refl _⟩, ?_⟩
      rintro m σ H4 ⟨k1, rfl, hk1, rfl, s4⟩
      have hk1l : k1 < bs.length := by omega
      obtain ⟨u1, hu1, eb, rfl, heb⟩ := hub.get (List.getElem?_eq_getElem hk1l)
      have heb4 := s4 _ _ (s2 _ _ heb)
      have hpb4 := s4 _ _ (s2 _ _ hpb)
      generalize hb1 : bs[k1] = b1 at heb4
      have hb1' : bs[k1]? = some b1 := by rw [List.getElem?_eq_getElem hk1l, hb1]
      refine ⟨_, rfl, _, rfl, pb, _, _, _, rfl, rfl, SqT.of hpb4, atI_nat hu1, 2, rfl, eb, _, rfl, SqT.of heb4, fun z => absurd z.2 (show ¬ (HT.sIx 3 3 (some 2) = 3) by decide), fun c nc => ?_⟩
      have ecut : cutV (bdV b1) none (some 2) = [.int b1.i, .int b1.j] := rfl
      rw [ecut]
      refine ⟨_, rfl, _, rfl, (by show 2 ≤ sizeLine; decide), fun d nd => ?_⟩
      have s5 : Same H4 (upd H4 c (.tup [.int b1.i, .int b1.j])) := same_new nc
      have s6 : Same (upd H4 c (.tup [.int b1.i, .int b1.j])) (upd (upd H4 c (.tup [.int b1.i, .int b1.j])) d (.tup [.int l.i, .int l.j])) := same_new nd
      refine ⟨intD [(b1.i : Int), (b1.j : Int)], intD [(l.i : Int), (l.j : Int)], .tup (SqT.of (s6 _ _ upd_same)) (intD_dp [(b1.i : Int), (b1.j : Int)]), .tup (SqT.of upd_same) (intD_dp [(l.i : Int), (l.j : Int)]), intD_shaped _, intD_shaped _, ?_⟩
      rw [eqv_pairs]
      refine ⟨_, rfl, ?_⟩
      have s46 := (s4.trans s5).trans s6
      by_cases hlt : k1 < k0
      · have hf := of_decide_eq_false (hfirst k1 b1 hlt hb1')
        refine iteND hf ?_
        refine ⟨fun σ H' => ∃ m', m' < k0 - k1 ∧ ∃ k : Nat, m' = k0 - k ∧ k ≤ k0 ∧ σ = [some (.ref pb), some (.ref pl), some (.ref q), some (.int l.i), some (.int l.j), some (.int l.w), some (.int k), none] ∧ Same H3 H', fun σ' H' h => h, ?_⟩
        refine ⟨_, rfl, _, _, rfl, rfl, ?_⟩
        exact ⟨k0 - (k1 + 1), by omega, k1 + 1, rfl, hlt, rfl, s46⟩
      · have ek : k1 = k0 := by omega
        subst ek
        rw [hk0] at hb1'
        have eb01 := Option.some.inj hb1'
        subst eb01
        refine iteNS hb0' ?_
        obtain ⟨p0, hp0⟩ := at_of_len lps hk0
        have hq6 := s46 _ _ hq2
        refine ⟨_, rfl, _, rfl, q, _, _, _, rfl, rfl, SqL.of hq6, atI_nat (int_at hp0), _, rfl, _, _, rfl, rfl, ?_⟩
        refine ⟨_, rfl, _, rfl, q, _, _, k1, rfl, rfl, hq6, ix_nat (by rw [List.length_map, lps]; exact hk0l), ?_⟩
        have eset : (ps.map V.int).set k1 (.int (p0 + l.w)) = (bump ps k1 l.w).map V.int := by
          unfold bump
          rw [getD_of hp0, List.map_set]
        refine ⟨some (.int l.i), some (.int l.j), some (.int l.w), some (.int k1), bump ps k1 l.w, rfl, Same.mut (s2.trans s46) nq, by rw [upd_same, eset], by rw [bump_len, lps], fun p hp => ?_, fun y => ?_⟩
        · unfold bump at hp
          rcases List.mem_or_eq_of_mem_set hp with h | h
          · exact nn p h
          · rw [h, getD_of hp0]
            have := nn p0 (List.mem_of_getElem? hp0)
            have := wnn l lm
            omega
        · rw [take_succ_at hl]
          have e1 := bump_sum (fun b : Bd => y b.j - y b.i) l.w bs ps k1 b0 hk0 lps
          have e2 := bal y
          have e3 : sumL (ls.take i ++ [l]) y = sumL (ls.take i) y + l.w * (y l.j - y l.i) := by
            unfold sumL
            rw [List.map_append, List.sum_append]
            simp
          rw [e3, ← e2]
          have i1 : b0.i = l.i := by have := hb0'.1; omega
          have i2 : b0.j = l.j := by have := hb0'.2; omega
          rw [i1, i2] at e1
          exact e1
    · obtain ⟨x3, x4, x5, x6, ps, rfl, s2, hq2, lps, nn, bal⟩ := p
      refine ⟨_, rfl, ?_⟩
      refine k q H' ps nq s2 hq2 lps nn fun y => ?_
      have := bal y
      rw [hul.len, List.take_length] at this
      exact this
end
end Dt
end

section
set_option Elab.async false
set_option linter.all false
set_option maxRecDepth 100000
set_option maxHeartbeats 4000000
/-! residual_arcs, implied_steps, raised -/
namespace Dt
open PySem PySem.Spec PyProof.Rows L2
theorem arcs_app {H0 H : Hp} {q p : Addr} {vs : List V} {as : List Arc} (a : Arc) (nq : H0 q = none) (s : Same H0 H) (hq : H q = some (.lst vs)) (r : Tps arcV H vs as) (np : H p = none) :
    Same H0 (upd (upd H p (.tup (arcV a))) q (.lst (vs ++ [.ref p]))) ∧ upd (upd H p (.tup (arcV a))) q (.lst (vs ++ [.ref p])) q = some (.lst (vs ++ [.ref p])) ∧ Tps arcV (upd (upd H p (.tup (arcV a))) q (.lst (vs ++ [.ref p]))) (vs ++ [.ref p]) (as ++ [a]) := by
  have s1 : Same H (upd H p (.tup (arcV a))) := same_new np
  have t : TEx (upd H p (.tup (arcV a))) (upd (upd H p (.tup (arcV a))) q (.lst (vs ++ [.ref p]))) := TEx.lst (s1 _ _ hq)
  refine ⟨Same.mut (s.trans s1) nq, upd_same, Rep.snoc (Tps.mono ((TEx.of s1).trans t) r) ⟨p, rfl, t _ _ upd_same⟩⟩
theorem flat_len {α : Type} (f : Nat → List α) (c : Nat) (h : ∀ i, (f i).length ≤ c) : ∀ n : Nat, ((List.range n).flatMap f).length ≤ c * n
  | 0 => by simp
  | n + 1 => by
    rw [flat_succ, List.length_append, Nat.mul_succ]
    have := flat_len f c h n
    have := h n
    omega
theorem arcBs_len (bs : List Bd) (ps : List Int) (i : Nat) : (arcBs bs ps i).length ≤ 2 := by
  unfold arcBs
  split
  · unfold arcB
    split <;> simp
  · simp
theorem arcTs_len (bn : List Bn) (gs : List Int) (i : Nat) : (arcTs bn gs i).length ≤ 2 := by
  unfold arcTs
  split
  · unfold arcT
    split <;> split <;> simp
  · simp
theorem resid_len (bs : List Bd) (bn : List Bn) (ps gs : List Int) : (resid bs bn ps gs).length ≤ 2 * bs.length + 2 * bn.length := by
  unfold resid
  rw [List.length_append]
  have h1 := flat_len (arcBs bs ps) 2 (arcBs_len bs ps) bs.length
  have h2 := flat_len (arcTs bn gs) 2 (arcTs_len bn gs) bn.length
  omega
section
variable {P : Program} {w : World} {K : PySem.W.Frag} {mg : Str → Option Value} {base : Heap}
abbrev n_residual_arcs : List Str := ["bounds", "bends", "pulls", "turns", "found", "index", "i", "j", "d", "k", "w"]
abbrev p_residual_arcs : List Str := ["bounds", "bends", "pulls", "turns"]
theorem sc_residual_arcs : FnScope n_residual_arcs p_residual_arcs (defScope s_residual_arcs) := ⟨rfl, rfl, rfl, by decide +kernel, rfl, by decide +kernel, by decide +kernel⟩
def sp_residual_arcs : Sp := fun vs H Q _ => ∃ (vb vn : V) (pp gp : Addr) (bs : List Bd) (bn : List Bn) (ps gs : List Int), vs = [vb, vn, .ref pp, .ref gp] ∧ TuT bdV H vb bs ∧ LsT bnV H vn bn ∧ H pp = some (.lst (ps.map V.int)) ∧ H gp = some (.lst (gs.map V.int)) ∧ ps.length = bs.length ∧ gs.length = bn.length ∧ bs.length ≤ 100 ∧ bn.length ≤ 100 ∧
  ∀ v H', Same H H' → LsT arcV H' v (resid bs bn ps gs) → Q v H'
theorem ok_residual_arcs {f : Addr} {fd : FuncData} (F : FunD K "residual_arcs" "residual_arcs" (defArgs s_residual_arcs) (defBody s_residual_arcs) (defScope s_residual_arcs) [] [] f fd) (T : Txt K mg) : FnOk P w K mg base CX0 1 f fd p_residual_arcs sp_residual_arcs := by
  refine ok_by F sc_residual_arcs (fun vs H Q E h => ?_) (fun cdv A outer s H vs Q E hr h => ?_)
  · obtain ⟨vb, vn, pp, gp, bs, bn, ps, gs, rfl, _⟩ := h
    rfl
  · obtain ⟨vb, vn, pp, gp, bs, bn, ps, gs, rfl, ⟨pb, ub, rfl, hpb, hub⟩, ⟨pn, un, rfl, hpn, hun⟩, hpp, hgp, lps, lgs, nb, nn, k⟩ := h
    refine ⟨_, (pss_cons (ps_set (i := 4) sc_residual_arcs.nd rfl (Or.inl rfl) (pe_lst pa_nil))
      (pss_cons (ps_for PassesOwn.never rfl (pi_enumK true (by rfl) T.enumerate (pa_cons (pv 0) pa_nil)) (pg_tupK K 2 rfl (pgs_cons (pg_name (i := 5) sc_residual_arcs.nd rfl (Or.inl rfl)) (pgs_cons (pg_tupK K 3 rfl (pgs_cons (pg_name (i := 6) sc_residual_arcs.nd rfl (Or.inl rfl)) (pgs_cons (pg_name (i := 7) sc_residual_arcs.nd rfl (Or.inl rfl)) (pgs_cons (pg_name (i := 8) sc_residual_arcs.nd rfl (Or.inl rfl)) pgs_nil)))) pgs_nil)))
        (pss_cons (ps_expr (pe_bm PySem.F.plainAttrs_list PySem.F.slot_list_append PySem.F.type_list_append mt_append (pv 4) (pa_cons (pe_tup (pa_cons (pv 6) (pa_cons (pv 7) (pa_cons (pe_op op_sub pe_int (pv 8)) (pa_cons pe_non (pa_cons pe_int (pa_cons (pv 5) (pa_cons pe_int pa_nil)))))))) pa_nil)))
        (pss_one (ps_if (pt_cmpR op_gt (pe_ix (ix_listK K) (pv 2) (pv 5) (fun _ _ => rfl)) pe_int (nomark _)) (pss_one (ps_expr (pe_bm PySem.F.plainAttrs_list PySem.F.slot_list_append PySem.F.type_list_append mt_append (pv 4) (pa_cons (pe_tup (pa_cons (pv 7) (pa_cons (pv 6) (pa_cons (pv 8) (pa_cons (pe_ix (ix_listK K) (pv 2) (pv 5) (fun _ _ => rfl)) (pa_cons pe_int (pa_cons (pv 5) (pa_cons (pe_un un_neg pe_int) pa_nil)))))))) pa_nil)))) pss_nil))))
      (pss_cons (ps_for PassesOwn.never rfl (pi_enumK false (by rfl) T.enumerate (pa_cons (pv 1) pa_nil)) (pg_tupK K 2 rfl (pgs_cons (pg_name (i := 5) sc_residual_arcs.nd rfl (Or.inl rfl)) (pgs_cons (pg_tupK K 4 rfl (pgs_cons (pg_name (i := 6) sc_residual_arcs.nd rfl (Or.inl rfl)) (pgs_cons (pg_name (i := 7) sc_residual_arcs.nd rfl (Or.inl rfl)) (pgs_cons (pg_name (i := 9) sc_residual_arcs.nd rfl (Or.inl rfl)) (pgs_cons (pg_name (i := 10) sc_residual_arcs.nd rfl (Or.inl rfl)) pgs_nil))))) pgs_nil)))
        (pss_cons (ps_if (pt_cmpR op_lt (pe_ix (ix_listK K) (pv 3) (pv 5) (fun _ _ => rfl)) (pv 10) (nomark _)) (pss_one (ps_expr (pe_bm PySem.F.plainAttrs_list PySem.F.slot_list_append PySem.F.type_list_append mt_append (pv 4) (pa_cons (pe_tup (pa_cons (pv 6) (pa_cons (pv 7) (pa_cons (pe_op op_sub pe_int (pv 9)) (pa_cons (pe_op op_sub (pv 10) (pe_ix (ix_listK K) (pv 3) (pv 5) (fun _ _ => rfl))) (pa_cons pe_int (pa_cons (pv 5) (pa_cons pe_int pa_nil)))))))) pa_nil)))) pss_nil)
        (pss_one (ps_if (pt_cmpR op_gt (pe_ix (ix_listK K) (pv 3) (pv 5) (fun _ _ => rfl)) (pe_op op_sub pe_int (pv 10)) (nomark _)) (pss_one (ps_expr (pe_bm PySem.F.plainAttrs_list PySem.F.slot_list_append PySem.F.type_list_append mt_append (pv 4) (pa_cons (pe_tup (pa_cons (pv 7) (pa_cons (pv 6) (pa_cons (pv 9) (pa_cons (pe_op op_add (pv 10) (pe_ix (ix_listK K) (pv 3) (pv 5) (fun _ _ => rfl))) (pa_cons pe_int (pa_cons (pv 5) (pa_cons (pe_un un_neg pe_int) pa_nil)))))))) pa_nil)))) pss_nil))))
      (pss_one (ps_ret (pv 4)))))), ?_⟩
    refine ⟨(by show 0 ≤ sizeLine; exact Nat.zero_le _), fun q nq => ?_⟩
    have s1 : Same H (upd H q (.lst [])) := same_new nq
    refine ⟨_, rfl, pb, ub, rfl, SqT.of (s1 _ _ hpb), ?_⟩
    refine for_it (walk_enumK (t := true) (K := K) (a := pb) (xs := ub)) (fun i σ H' => ∃ (x5 x6 x7 x8 : Option V) (vs : List V), σ = [some (.ref pb), some (.ref pn), some (.ref pp), some (.ref gp), some (.ref q), x5, x6, x7, x8, none, none] ∧ Same H H' ∧ H' q = some (.lst vs) ∧ Tps arcV H' vs ((List.range i).flatMap (arcBs bs ps)))
      ⟨none, none, none, none, [], rfl, s1, upd_same, Rep.nil⟩ (fun i σ H' _ p => ?_) (fun i x σ H2 H3 hi p y => ?_) (fun σ H2 p => ?_)
    · obtain ⟨_, _, _, _, _, _, s2, _⟩ := p
      exact SqT.of (s2 _ _ hpb)
    · obtain ⟨x5, x6, x7, x8, vs, rfl, s2, hq, hR⟩ := p
      obtain ⟨t, x, z, rfl, nt, rfl, hx, hz⟩ := y
      cases hx
      obtain ⟨b, hb, e, rfl, he⟩ := hub.at_ i z hz
      have hil := (List.getElem?_eq_some_iff.mp hb).1
      obtain ⟨p0, hp0⟩ := at_of_len lps hb
      have s3 : Same H2 (upd H2 t (.tup [.int (i : Nat), .ref e])) := same_new nt
      have s23 := s2.trans s3
      refine ⟨t, _, rfl, SqT.of upd_same, rfl, .int (i : Nat), _, rfl, .ref e, _, rfl, e, _, rfl, SqT.of (s23 _ _ he), rfl, .int b.i, _, rfl, .int b.j, _, rfl, .int b.d, _, rfl, rfl, rfl, ?_⟩
      have hq3 := s3 _ _ hq
      have hR3 := Tps.mono (TEx.of s3) hR
      have hlen : vs.length ≤ 2 * i := by rw [hR.len]; exact flat_len (arcBs bs ps) 2 (arcBs_len bs ps) i
      refine ⟨_, rfl, Or.inl ⟨rfl, _, SqL.of hq3⟩, _, rfl, _, rfl, _, rfl, _, _, rfl, rfl, _, rfl, (by show 7 ≤ sizeLine; decide), fun p np => ⟨q, vs, _, rfl, rfl, same_new np _ _ hq3, small1000 (by omega), ?_⟩⟩
      obtain ⟨s4, hq4, hR4⟩ := arcs_app (⟨b.i, b.j, 0 - b.d, none, 0, i, 1⟩ : Arc) nq s23 hq3 hR3 np
      generalize hH4 : upd (upd (upd H2 t (.tup [.int (i : Nat), .ref e])) p (.tup (arcV ⟨b.i, b.j, 0 - b.d, none, 0, i, 1⟩))) q (.lst (vs ++ [.ref p])) = H4 at s4 hq4 hR4
      have hH4' : upd (upd (upd H2 t (.tup [.int (i : Nat), .ref e])) p (.tup [.int b.i, .int b.j, .int (0 - b.d), .non, .int 0, .int (i : Nat), .int 1])) q (.lst (vs ++ [.ref p])) = H4 := hH4
      rw [hH4']
      refine ⟨_, rfl, _, rfl, pp, _, _, _, rfl, rfl, SqL.of (s4 _ _ hpp), atI_nat (int_at hp0), _, _, rfl, rfl, _, rfl, ?_⟩
      by_cases hpos : 0 < p0
      · refine iteD hpos ?_
        refine ⟨_, rfl, Or.inl ⟨rfl, _, SqL.of hq4⟩, _, rfl, _, rfl, _, rfl, _, rfl, _, rfl, pp, _, _, _, rfl, rfl, SqL.of (s4 _ _ hpp), atI_nat (int_at hp0), _, rfl, 1, rfl, (by show 7 ≤ sizeLine; decide), fun p2 np2 => ⟨q, _, _, rfl, rfl, same_new np2 _ _ hq4, small1000 (by rw [List.length_append, List.length_singleton]; omega), ?_⟩⟩
        obtain ⟨s5, hq5, hR5⟩ := arcs_app (⟨b.j, b.i, b.d, some p0, 0, i, -1⟩ : Arc) nq s4 hq4 hR4 np2
        refine ⟨some (.int (i : Nat)), some (.int b.i), some (.int b.j), some (.int b.d), _, rfl, s5, hq5, ?_⟩
        rw [flat_succ, arcBs_at hb hp0]
        unfold arcB
        rw [if_pos hpos]
        show Tps arcV _ _ (_ ++ ([_] ++ [_]))
        rw [← List.append_assoc]
        exact hR5
      · refine iteN hpos ?_
        refine ⟨some (.int (i : Nat)), some (.int b.i), some (.int b.j), some (.int b.d), _, rfl, s4, hq4, ?_⟩
        rw [flat_succ, arcBs_at hb hp0]
        unfold arcB
        rw [if_neg hpos]
        exact hR4
    · obtain ⟨x5, x6, x7, x8, vs, rfl, s2, hq, hR⟩ := p
      rw [hub.len] at hR
      refine ⟨_, rfl, pn, un, rfl, SqL.of (s2 _ _ hpn), ?_⟩
      refine for_it (walk_enumK (t := false) (K := K) (a := pn) (xs := un)) (fun i σ H' => ∃ (x5 x6 x7 x8 x9 x10 : Option V) (vs : List V), σ = [some (.ref pb), some (.ref pn), some (.ref pp), some (.ref gp), some (.ref q), x5, x6, x7, x8, x9, x10] ∧ Same H H' ∧ H' q = some (.lst vs) ∧ Tps arcV H' vs ((List.range bs.length).flatMap (arcBs bs ps) ++ (List.range i).flatMap (arcTs bn gs)))
        ⟨x5, x6, x7, x8, none, none, vs, rfl, s2, hq, by simpa using hR⟩ (fun i σ H' _ p => ?_) (fun i x σ H2 H3 hi p y => ?_) (fun σ H2 p => ?_)
      · obtain ⟨_, _, _, _, _, _, _, _, s2, _⟩ := p
        exact SqL.of (s2 _ _ hpn)
      · obtain ⟨x5, x6, x7, x8, x9, x10, vs, rfl, s2, hq, hR⟩ := p
        obtain ⟨t, x, z, rfl, nt, rfl, hx, hz⟩ := y
        cases hx
        obtain ⟨b, hb, e, rfl, he⟩ := hun.at_ i z hz
        have hil := (List.getElem?_eq_some_iff.mp hb).1
        obtain ⟨g0, hg0⟩ := at_of_len lgs hb
        have s3 : Same H2 (upd H2 t (.tup [.int (i : Nat), .ref e])) := same_new nt
        have s23 := s2.trans s3
        refine ⟨t, _, rfl, SqT.of upd_same, rfl, .int (i : Nat), _, rfl, .ref e, _, rfl, e, _, rfl, SqT.of (s23 _ _ he), rfl, .int b.i, _, rfl, .int b.j, _, rfl, .int b.k, _, rfl, .int b.w, _, rfl, rfl, rfl, ?_⟩
        have hq3 := s3 _ _ hq
        have hR3 := Tps.mono (TEx.of s3) hR
        have hlen : vs.length ≤ 2 * bs.length + 2 * i := by
          rw [hR.len, List.length_append]
          have h1 := flat_len (arcBs bs ps) 2 (arcBs_len bs ps) bs.length
          have h2 := flat_len (arcTs bn gs) 2 (arcTs_len bn gs) i
          omega
        generalize upd H2 t (.tup [.int (i : Nat), .ref e]) = Hx at s3 s23 hq3 hR3
        refine ⟨_, rfl, _, rfl, gp, _, _, _, rfl, rfl, SqL.of (s23 _ _ hgp), atI_nat (int_at hg0), _, rfl, _, _, rfl, rfl, _, rfl, ?_⟩
        by_cases hlt : g0 < b.w
        case' pos =>
          refine iteD hlt ?_
          refine ⟨_, rfl, Or.inl ⟨rfl, _, SqL.of hq3⟩, _, rfl, _, rfl, _, rfl, _, _, rfl, rfl, _, rfl, _, rfl, _, rfl, gp, _, _, _, rfl, rfl, SqL.of (s23 _ _ hgp), atI_nat (int_at hg0), _, _, rfl, rfl, _, rfl, (by show 7 ≤ sizeLine; decide), fun p np => ⟨q, vs, _, rfl, rfl, same_new np _ _ hq3, small1000 (by omega), ?_⟩⟩
          obtain ⟨s4, hq4, hR4'⟩ := arcs_app (⟨b.i, b.j, 0 - b.k, some (b.w - g0), 1, i, 1⟩ : Arc) nq s23 hq3 hR3 np
          have hR4 := hR4'
          rw [List.append_assoc, show [(⟨b.i, b.j, 0 - b.k, some (b.w - g0), 1, i, 1⟩ : Arc)] = (if g0 < b.w then [⟨b.i, b.j, 0 - b.k, some (b.w - g0), 1, i, 1⟩] else []) from (if_pos hlt).symm] at hR4
          have hl4 : (vs ++ [V.ref p]).length ≤ 2 * bs.length + 2 * i + 1 := by rw [List.length_append, List.length_singleton]; omega
        case' neg =>
          refine iteN hlt ?_
          have s4 := s23
          have hq4 := hq3
          have hR4 : Tps arcV Hx vs ((List.range bs.length).flatMap (arcBs bs ps) ++ ((List.range i).flatMap (arcTs bn gs) ++ (if g0 < b.w then [⟨b.i, b.j, 0 - b.k, some (b.w - g0), 1, i, 1⟩] else []))) := by
            rw [if_neg hlt, List.append_nil]
            exact hR3
          have hl4 : vs.length ≤ 2 * bs.length + 2 * i + 1 := by omega
        all_goals
          refine ⟨_, rfl, _, rfl, gp, _, _, _, rfl, rfl, SqL.of (s4 _ _ hgp), atI_nat (int_at hg0), _, rfl, _, _, rfl, rfl, _, _, rfl, rfl, _, rfl, ?_⟩
          by_cases hlt2 : 0 - b.w < g0
          · refine iteD hlt2 ?_
            refine ⟨_, rfl, Or.inl ⟨rfl, _, SqL.of hq4⟩, _, rfl, _, rfl, _, rfl, _, rfl, _, rfl, _, rfl, gp, _, _, _, rfl, rfl, SqL.of (s4 _ _ hgp), atI_nat (int_at hg0), _, _, rfl, rfl, _, rfl, 1, rfl, (by show 7 ≤ sizeLine; decide), fun p np => ⟨q, _, _, rfl, rfl, same_new np _ _ hq4, small1000 (by omega), ?_⟩⟩
            obtain ⟨s5, hq5, hR5⟩ := arcs_app (⟨b.j, b.i, b.k, some (b.w + g0), 1, i, -1⟩ : Arc) nq s4 hq4 hR4 np
            refine ⟨some (.int (i : Nat)), some (.int b.i), some (.int b.j), x8, some (.int b.k), some (.int b.w), _, rfl, s5, hq5, ?_⟩
            rw [flat_succ, arcTs_at hb hg0]
            unfold arcT
            rw [if_pos hlt2]
            rw [← List.append_assoc, ← List.append_assoc]
            rw [← List.append_assoc] at hR5
            exact hR5
          · refine iteN hlt2 ?_
            refine ⟨some (.int (i : Nat)), some (.int b.i), some (.int b.j), x8, some (.int b.k), some (.int b.w), _, rfl, s4, hq4, ?_⟩
            rw [flat_succ, arcTs_at hb hg0]
            unfold arcT
            rw [if_neg hlt2, List.append_nil]
            exact hR4
      · obtain ⟨x5, x6, x7, x8, x9, x10, vs, rfl, s2, hq, hR⟩ := p
        rw [hun.len] at hR
        exact ⟨_, rfl, k _ _ s2 ⟨q, vs, rfl, hq, hR⟩⟩
end
end Dt
end

section
set_option Elab.async false
set_option linter.all false
set_option maxRecDepth 100000
set_option maxHeartbeats 4000000
/-! implied_steps, raised -/
namespace Dt
open PySem PySem.Spec PyProof.Rows L2
section
variable {P : Program} {w : World} {K : PySem.W.Frag} {mg : Str → Option Value} {base : Heap}
abbrev n_implied_steps : List Str := ["bounds", "bends", "pulls", "turns", "arc"]
abbrev p_implied_steps : List Str := ["bounds", "bends", "pulls", "turns"]
theorem sc_implied_steps : FnScope n_implied_steps p_implied_steps (defScope s_implied_steps) := ⟨rfl, rfl, rfl, by decide +kernel, rfl, by decide +kernel, by decide +kernel⟩
def sp_implied_steps : Sp := fun vs H Q _ => ∃ (vb vn : V) (pp gp : Addr) (bs : List Bd) (bn : List Bn) (ps gs : List Int), vs = [vb, vn, .ref pp, .ref gp] ∧ TuT bdV H vb bs ∧ LsT bnV H vn bn ∧ H pp = some (.lst (ps.map V.int)) ∧ H gp = some (.lst (gs.map V.int)) ∧ ps.length = bs.length ∧ gs.length = bn.length ∧ bs.length ≤ 100 ∧ bn.length ≤ 100 ∧
  ∀ v H', Same H H' → LsT stV H' v (resid bs bn ps gs) → Q v H'
theorem ok_implied_steps {f : Addr} {fd : FuncData} (F : FunD K "implied_steps" "implied_steps" (defArgs s_implied_steps) (defBody s_implied_steps) (defScope s_implied_steps) [] [] f fd) (T : Txt K mg) (C_residual_arcs : Cal P w K mg base "residual_arcs" 1 p_residual_arcs sp_residual_arcs) : FnOk P w K mg base CX0 2 f fd p_implied_steps sp_implied_steps := by
  refine ok_by F sc_implied_steps (fun vs H Q E h => ?_) (fun cdv A outer s H vs Q E hr h => ?_)
  · obtain ⟨vb, vn, pp, gp, bs, bn, ps, gs, rfl, _⟩ := h
    rfl
  · obtain ⟨vb, vn, pp, gp, bs, bn, ps, gs, rfl, hB, hN, hpp, hgp, lps, lgs, nb, nn, k⟩ := h
    refine ⟨_, (pss_one (ps_ret (pe_lc (own := [("arc", 4)]) (by rfl) sc_implied_steps.nd (pi_list (pe_cal C_residual_arcs hr (by decide) (pa_cons (pv 0) (pa_cons (pv 1) (pa_cons (pv 2) (pa_cons (pv 3) pa_nil)))))) (blkOk_by (own := [("arc", 4)]) (N := n_implied_steps) (sc := defScope s_implied_steps) (by decide +kernel)) (fun _ _ _ _ _ => (pg_name (i := 4) sc_implied_steps.nd rfl (Or.inl rfl))) (fun _ _ _ _ _ => pts_nil) (fun _ _ _ _ _ => (pe_tup (pa_cons (pe_ix (ix_tupK K) (pv 4) pe_int (fun _ _ => rfl)) (pa_cons (pe_ix (ix_tupK K) (pv 4) pe_int (fun _ _ => rfl)) (pa_cons (pe_op op_sub pe_int (pe_ix (ix_tupK K) (pv 4) pe_int (fun _ _ => rfl))) pa_nil)))))))), ?_⟩
    refine ⟨_, rfl, _, rfl, _, rfl, _, rfl, vb, vn, pp, gp, bs, bn, ps, gs, rfl, hB, hN, hpp, hgp, lps, lgs, nb, nn, fun v H1 s1 hA => ?_⟩
    obtain ⟨p, us, rfl, hp, hus⟩ := hA
    have hlen := resid_len bs bn ps gs
    refine ⟨p, rfl, ⟨_, SqL.of hp⟩, ?_⟩
    refine lc_rep (walk_list (K := K) (a := p) (xs := us)) (δ := Arc) (fun H v d => Tp H v (stV d)) (fun _ _ _ _ e h => h.mono e) (fun H' s => s.seq (SqL.of hp))
      (fun i => (resid bs bn ps gs)[i]?) (by rw [hus.len]; omega) (fun i x H2 H3 hi s2 y K1 K0 h1 h0 => ?_) (fun q ys H5 nq s5 hq hR => ?_)
    · obtain ⟨rfl, hx⟩ := y
      obtain ⟨a, ha, e, rfl, he⟩ := hus.at_ i x hx
      have he2 := s2 _ _ he
      refine ⟨rfl, tyes ?_⟩
      refine ⟨_, rfl, e, _, 0, .int a.u, rfl, rfl, SqT.of he2, rfl, _, rfl, e, _, 1, .int a.v, rfl, rfl, SqT.of he2, rfl, _, rfl, e, _, 2, .int a.c, rfl, rfl, SqT.of he2, rfl, _, _, rfl, rfl, (by show 3 ≤ sizeLine; decide), fun c nc => ?_⟩
      exact h1 _ a _ (same_new nc) ha ⟨c, rfl, upd_same⟩
    · rw [hus.len, at_all] at hR
      exact k _ _ (s1.trans s5) ⟨q, ys, rfl, hq, hR⟩
abbrev n_raised : List Str := ["row", "steps", "found", "is_new", "u", "v", "c"]
abbrev p_raised : List Str := ["row", "steps"]
theorem sc_raised : FnScope n_raised p_raised (defScope s_raised) := ⟨rfl, rfl, rfl, by decide +kernel, rfl, by decide +kernel, by decide +kernel⟩
def sp_raised : Sp := fun vs H Q _ => ∃ (vr vt : V) (row : List Int) (arcs : List Arc) (y : Nat → Int), vs = [vr, vt] ∧ Tp H vr (row.map V.int) ∧ LsT stV H vt arcs ∧ ArcsLt row.length arcs ∧ (∀ v, v < row.length → rowAt row v ≤ y v) ∧ Sat arcs y ∧ arcs.length ≤ 1000 ∧
  ∀ v H' z, Same H H' → Tp H' v (z.map V.int) → RInv row.length arcs row z → Sat arcs (rowAt z) → Q v H'
theorem ok_raised {f : Addr} {fd : FuncData} (F : FunD K "raised" "raised" (defArgs s_raised) (defBody s_raised) (defScope s_raised) [] [] f fd) (T : Txt K mg) : FnOk P w K mg base CX0 1 f fd p_raised sp_raised := by
  refine ok_by F sc_raised (fun vs H Q E h => ?_) (fun cdv A outer s H vs Q E hr h => ?_)
  · obtain ⟨vr, vt, row, arcs, y, rfl, _⟩ := h
    rfl
  · obtain ⟨vr, vt, row, arcs, y, rfl, ⟨r, rfl, hrow⟩, ⟨pt, ut, rfl, hpt, hut⟩, lt, hy, hsat, hlen, k⟩ := h
    refine ⟨_, (pss_cons (ps_set (i := 2) sc_raised.nd rfl (Or.inl rfl) (pe_callTy call_list_of (by rfl) T.list (by decide +kernel) (pa_cons (pv 0) pa_nil)))
      (pss_cons (ps_set (i := 3) sc_raised.nd rfl (Or.inl rfl) pe_bl)
      (pss_cons (ps_while PassesOwn.never (pt_val (pv 3))
        (pss_cons (ps_set (i := 3) sc_raised.nd rfl (Or.inl rfl) pe_bl)
        (pss_one (ps_for PassesOwn.never rfl (pi_list (pv 1)) (pg_tupK K 3 rfl (pgs_cons (pg_name (i := 4) sc_raised.nd rfl (Or.inl rfl)) (pgs_cons (pg_name (i := 5) sc_raised.nd rfl (Or.inl rfl)) (pgs_cons (pg_name (i := 6) sc_raised.nd rfl (Or.inl rfl)) pgs_nil))))
          (pss_one (ps_if (pt_cmpR op_gt (pe_op op_add (pe_ix (ix_listK K) (pv 2) (pv 4) (fun _ _ => rfl)) (pv 6)) (pe_ix (ix_listK K) (pv 2) (pv 5) (fun _ _ => rfl)) (nomark _)) (pss_cons (ps_asg (pe_op op_add (pe_ix (ix_listK K) (pv 2) (pv 4) (fun _ _ => rfl)) (pv 6)) (pg_sub (pv 2) (pv 5) set_list))
            (pss_one (ps_set (i := 3) sc_raised.nd rfl (Or.inl rfl) pe_bl))) pss_nil))))))
      (pss_one (ps_ret (pe_callTy call_tuple_of (by rfl) T.tuple (by decide +kernel) (pa_cons (pv 2) pa_nil))))))), ?_⟩
    refine ⟨_, rfl, r, _, rfl, .inr (SqT.of hrow), fun q nq => ?_⟩
    have s1 : Same H (upd H q (.lst (row.map V.int))) := same_new nq
    let bound := (listOf row.length y).sum
    let J : Nat → List (Option V) → Hp → Prop := fun m σ H' => ∃ (z : List Int) (b : Bool) (x4 x5 x6 : Option V), σ = [some (.ref r), some (.ref pt), some (.ref q), some (.bl b), x4, x5, x6] ∧ Same H H' ∧ H' q = some (.lst (z.map V.int)) ∧ RInv row.length arcs row z ∧ (b = false → Sat arcs (rowAt z)) ∧ m = 2 * (bound - z.sum).toNat + (if b then 1 else 0)
    refine ⟨J, ⟨_, row, true, none, none, none, rfl, s1, upd_same, RInv.start rfl, (fun z => by cases z), rfl⟩, ?_⟩
    rintro m σ H1 ⟨z, b, x4, x5, x6, rfl, s2, hq, I, hb, rfl⟩
    refine ⟨_, rfl, b, rfl, ?_⟩
    cases b with
    | false =>
      refine iteF ?_
      refine ⟨_, rfl, q, _, rfl, .inl ⟨SqL.of hq, fun l nl => ?_⟩⟩
      have s3 : Same H1 (upd H1 l (.tup (z.map V.int))) := same_new nl
      exact k _ _ z (s2.trans s3) ⟨l, rfl, upd_same⟩ I (hb rfl)
    | true =>
      refine iteT ?_
      refine ⟨fun σ' H' => ∃ m', m' < 2 * (bound - z.sum).toNat + 1 ∧ J m' σ' H', fun σ' H' h => h, ?_⟩
      have hpt1 := s2 _ _ hpt
      refine ⟨_, rfl, pt, rfl, ⟨_, SqL.of hpt1⟩, ?_⟩
      refine for_it (walk_list (K := K) (a := pt) (xs := ut)) (fun i σ H' => ∃ (z' : List Int) (b : Bool) (x4 x5 x6 : Option V), σ = [some (.ref r), some (.ref pt), some (.ref q), some (.bl b), x4, x5, x6] ∧ Same H H' ∧ H' q = some (.lst (z'.map V.int)) ∧ RInv row.length arcs row z' ∧ (b = true → z.sum + 1 ≤ z'.sum) ∧ (b = false → z' = z ∧ ∀ a ∈ arcs.take i, rowAt z a.u + (0 - a.c) ≤ rowAt z a.v))
        ⟨z, false, x4, x5, x6, rfl, s2, hq, I, (fun z => by cases z), fun _ => ⟨rfl, fun a ha => by simp at ha⟩⟩ (fun i σ H' _ p => ?_) (fun i x σ H2 H3 hi p y => ?_) (fun σ H' p => ?_)
      · obtain ⟨_, _, _, _, _, _, s3, _⟩ := p
        exact SqL.of (s3 _ _ hpt)
      · obtain ⟨z', b, x4, x5, x6, rfl, s3, hq3, I3, hb1, hb2⟩ := p
        obtain ⟨rfl, hx⟩ := y
        obtain ⟨a, ha, e, rfl, he⟩ := hut.at_ i x hx
        have he3 := s3 _ _ he
        have am := List.mem_of_getElem? ha
        obtain ⟨hu, hv⟩ := lt a am
        have hu' : a.u < z'.length := by rw [I3.len]; exact hu
        have hv' : a.v < z'.length := by rw [I3.len]; exact hv
        refine ⟨e, _, rfl, SqT.of he3, rfl, .int a.u, _, rfl, .int a.v, _, rfl, .int (0 - a.c), _, rfl, rfl, ?_⟩
        refine ⟨_, rfl, _, rfl, q, _, _, _, rfl, rfl, SqL.of hq3, atI_nat (rowAt_at hu'), _, rfl, _, _, rfl, rfl, _, rfl, _, rfl, q, _, _, _, rfl, rfl, SqL.of hq3, atI_nat (rowAt_at hv'), _, _, rfl, rfl, _, rfl, ?_⟩
        by_cases hlt : rowAt z' a.v < rowAt z' a.u + (0 - a.c)
        · refine iteD hlt ?_
          refine ⟨_, rfl, _, rfl, q, _, _, _, rfl, rfl, SqL.of hq3, atI_nat (rowAt_at hu'), _, rfl, _, _, rfl, rfl, _, rfl, _, rfl, q, _, _, a.v, rfl, rfl, hq3, ix_nat (by rw [List.length_map]; exact hv'), ?_⟩
          obtain ⟨I4, hs4⟩ := I3.up am hu hv hlt
          refine ⟨_, true, some (.int a.u), some (.int a.v), some (.int (0 - a.c)), rfl, Same.mut s3 nq, by rw [upd_same, List.map_set], I4, fun _ => ?_, fun z => by cases z⟩
          cases b with
          | true =>
            have := hb1 rfl
            omega
          | false =>
            have := (hb2 rfl).1
            rw [this] at hs4 ⊢
            omega
        · refine iteN hlt ?_
          refine ⟨z', b, some (.int a.u), some (.int a.v), some (.int (0 - a.c)), rfl, s3, hq3, I3, hb1, fun h => ?_⟩
          obtain ⟨rfl, h2⟩ := hb2 h
          refine ⟨rfl, fun c hc => ?_⟩
          rw [take_succ_at ha] at hc
          rcases List.mem_append.mp hc with hc | hc
          · exact h2 c hc
          · have : c = a := by simpa using hc
            rw [this]
            omega
      · obtain ⟨z', b, x4, x5, x6, rfl, s3, hq3, I3, hb1, hb2⟩ := p
        have B : z'.sum ≤ bound := I3.bound hy hsat
        refine ⟨_, ?_, z', b, x4, x5, x6, rfl, s3, hq3, I3, fun h => ?_, rfl⟩
        · cases b with
          | true =>
            have := hb1 rfl
            show 2 * (bound - z'.sum).toNat + 1 < _
            omega
          | false =>
            rw [(hb2 rfl).1]
            show 2 * (bound - z.sum).toNat + 0 < _
            omega
        · obtain ⟨rfl, h2⟩ := hb2 h
          rw [hut.len, List.take_length] at h2
          exact h2
end
end Dt
end

section
set_option Elab.async false
set_option linter.all false
set_option maxRecDepth 100000
set_option maxHeartbeats 4000000
/-! walk_rows -/
namespace Dt
open PySem PySem.Spec PyProof.Rows L2
/-- what stands for an arc or for none -/
def LArc (H : Hp) (v : V) : Option Arc → Prop
  | none => v = .non
  | some a => Tp H v (arcV a)
theorem LArc.mono {H H' : Hp} {v : V} {o : Option Arc} (e : TEx H H') (h : LArc H v o) : LArc H' v o := by
  cases o with
  | none => exact h
  | some a => exact Tp.mono e h
def RowC (q1 q2 : Addr) (H : Hp) (v : V) (c : List (Option Int)) : Prop := ∃ p, v = .ref p ∧ p ≠ q1 ∧ p ≠ q2 ∧ H p = some (.lst (c.map optV))
def RowL (q1 q2 : Addr) (H : Hp) (v : V) (l : List (Option Arc)) : Prop := ∃ p us, v = .ref p ∧ p ≠ q1 ∧ p ≠ q2 ∧ H p = some (.lst us) ∧ Rep (LArc H) us l
/-- heaps that differ at most at q1 and q2 -/
structure Two (q1 q2 : Addr) (H H' : Hp) : Prop where
  tex : TEx H H'
  lst : ∀ p us, p ≠ q1 → p ≠ q2 → H p = some (.lst us) → H' p = some (.lst us)
theorem Two.of {q1 q2 : Addr} {H H' : Hp} (e : Same H H') : Two q1 q2 H H' := ⟨TEx.of e, fun p us _ _ h => e p _ h⟩
theorem Two.trans {q1 q2 : Addr} {H H1 H2 : Hp} (e : Two q1 q2 H H1) (f : Two q1 q2 H1 H2) : Two q1 q2 H H2 := ⟨e.tex.trans f.tex, fun p us a b h => f.lst p us a b (e.lst p us a b h)⟩
theorem Two.l {q1 q2 : Addr} {H : Hp} {xs ys : List V} (h : H q1 = some (.lst xs)) : Two q1 q2 H (upd H q1 (.lst ys)) := ⟨TEx.lst h, fun p us a _ e => by rw [upd_ne a]; exact e⟩
theorem Two.r {q1 q2 : Addr} {H : Hp} {xs ys : List V} (h : H q2 = some (.lst xs)) : Two q1 q2 H (upd H q2 (.lst ys)) := ⟨TEx.lst h, fun p us _ b e => by rw [upd_ne b]; exact e⟩
theorem RowC.mono {q1 q2 : Addr} {H H' : Hp} {v : V} {c : List (Option Int)} (e : Two q1 q2 H H') (h : RowC q1 q2 H v c) : RowC q1 q2 H' v c := by
  obtain ⟨p, rfl, a, b, h⟩ := h
  exact ⟨p, rfl, a, b, e.lst _ _ a b h⟩
theorem RowL.mono {q1 q2 : Addr} {H H' : Hp} {v : V} {c : List (Option Arc)} (e : Two q1 q2 H H') (h : RowL q1 q2 H v c) : RowL q1 q2 H' v c := by
  obtain ⟨p, us, rfl, a, b, h, r⟩ := h
  exact ⟨p, us, rfl, a, b, e.lst _ _ a b h, Rep.mono r fun v o t => t.mono e.tex⟩
theorem fresh_of {H H' : Hp} (e : Same H H') {p : Addr} (h : H' p = none) : H p = none := by
  cases h1 : H p with
  | none => rfl
  | some u =>
    have := e _ _ h1
    rw [h] at this
    cases this
/-- the tables, as what reads them sees them -/
def CostsAt (H : Hp) (v : V) (n : Nat) (C : Nat → Nat → Option Int) : Prop := ∃ q rs, v = .ref q ∧ H q = some (.lst rs) ∧ ∀ k, k ≤ n → ∃ p us, rs[k]? = some (.ref p) ∧ H p = some (.lst us) ∧ ∀ v, v < n → us[v]? = some (optV (C k v))
def LastsAt (H : Hp) (v : V) (n : Nat) (L : Nat → Nat → Option Arc) : Prop := ∃ q rs, v = .ref q ∧ H q = some (.lst rs) ∧ ∀ k, k ≤ n → ∃ p us, rs[k]? = some (.ref p) ∧ H p = some (.lst us) ∧ ∀ v, v < n → ∃ u, us[v]? = some u ∧ LArc H u (L k v)
theorem CostsAt.same {H H' : Hp} {v : V} {n : Nat} {C : Nat → Nat → Option Int} (h : CostsAt H v n C) (e : Same H H') : CostsAt H' v n C := by
  obtain ⟨q, rs, h1, h2, h3⟩ := h
  exact ⟨q, rs, h1, e _ _ h2, fun k hk => let ⟨p, us, a, b, c⟩ := h3 k hk; ⟨p, us, a, e _ _ b, c⟩⟩
theorem LastsAt.same {H H' : Hp} {v : V} {n : Nat} {L : Nat → Nat → Option Arc} (h : LastsAt H v n L) (e : Same H H') : LastsAt H' v n L := by
  obtain ⟨q, rs, h1, h2, h3⟩ := h
  exact ⟨q, rs, h1, e _ _ h2, fun k hk => let ⟨p, us, a, b, c⟩ := h3 k hk; ⟨p, us, a, e _ _ b, fun v hv => let ⟨u, x, y⟩ := c v hv; ⟨u, x, y.mono (TEx.of e)⟩⟩⟩
theorem costsAt_of {H : Hp} {q q2 : Addr} {rs : List V} {n : Nat} {cs : List (List (Option Int))} (h : H q = some (.lst rs)) (r : Rep (RowC q q2 H) rs cs) (lc : cs.length = n + 1) (len : ∀ (k : Nat) (c : List (Option Int)), cs[k]? = some c → c.length = n) : CostsAt H (.ref q) n (cell cs) := by
  refine ⟨q, rs, rfl, h, fun k hk => ?_⟩
  have hc : cs[k]? = some cs[k] := List.getElem?_eq_getElem (by omega)
  obtain ⟨v, hv, p, rfl, _, _, hp⟩ := r.get hc
  refine ⟨p, _, hv, hp, fun v hv => ?_⟩
  rw [List.getElem?_map, oc_at (by rw [len k _ hc]; exact hv), cell_at hc]
  rfl
theorem lastsAt_of {H : Hp} {q q2 : Addr} {rs : List V} {n : Nat} {ls : List (List (Option Arc))} (h : H q2 = some (.lst rs)) (r : Rep (RowL q q2 H) rs ls) (ll : ls.length = n + 1) (len : ∀ (k : Nat) (c : List (Option Arc)), ls[k]? = some c → c.length = n) : LastsAt H (.ref q2) n (cell ls) := by
  refine ⟨q2, rs, rfl, h, fun k hk => ?_⟩
  have hc : ls[k]? = some ls[k] := List.getElem?_eq_getElem (by omega)
  obtain ⟨v, hv, p, us, rfl, _, _, hp, hr⟩ := r.get hc
  refine ⟨p, us, hv, hp, fun v hv => ?_⟩
  obtain ⟨u, hu, hl⟩ := hr.get (oc_at (by rw [len k _ hc]; exact hv))
  exact ⟨u, hu, by rw [cell_at hc]; exact hl⟩
theorem Rep.set {δ : Type} {R : V → δ → Prop} {vs : List V} {ds : List δ} (h : Rep R vs ds) (k : Nat) {v : V} {d : δ} (r : R v d) : Rep R (vs.set k v) (ds.set k d) := by
  refine ⟨by rw [List.length_set, List.length_set, h.len], fun i u e => ?_⟩
  by_cases hk : k = i
  · subst hk
    have hl : k < vs.length := by
      have := (List.getElem?_eq_some_iff.mp e).1
      rwa [List.length_set] at this
    rw [List.getElem?_set_self hl] at e
    have : v = u := Option.some.inj e
    rw [← this]
    exact ⟨d, List.getElem?_set_self (by rw [← h.len]; exact hl), r⟩
  · rw [List.getElem?_set_ne hk] at e
    obtain ⟨d', h1, h2⟩ := h.at_ i u e
    exact ⟨d', by rw [List.getElem?_set_ne hk]; exact h1, h2⟩
theorem rep_nones {H : Hp} (n : Nat) : Rep (LArc H) ((nones n : List (Option Int)).map optV) (nones n : List (Option Arc)) := by
  refine ⟨by rw [List.length_map, nones_len, nones_len], fun i v e => ?_⟩
  rw [List.getElem?_map] at e
  cases h : (nones n : List (Option Int))[i]? with
  | none => rw [h] at e; cases e
  | some o =>
    have hi := (List.getElem?_eq_some_iff.mp h).1
    rw [nones_len] at hi
    have h1 := oc_at (l := (nones n : List (Option Int))) (v := i) (by rw [nones_len]; exact hi)
    have h2 := oc_at (l := (nones n : List (Option Arc))) (v := i) (by rw [nones_len]; exact hi)
    rw [nones_oc] at h1 h2
    rw [h1] at h
    rw [h1] at e
    exact ⟨none, h2, (Option.some.inj e).symm⟩
theorem brow_set {n : Nat} {c : List (Option Int)} {as : List Arc} {H5 H8 H9 : Hp} {qb qm e : Addr} {best : List (Option Int)} {last : List (Option Arc)} {us : List V} {a : Arc} {x : Int} (s58 : Same H5 H8) (nqb : H5 qb = none) (nqm : H5 qm = none) (d : qb ≠ qm) (s9 : Same H5 H9)
    (hb : H9 qb = some (.lst (best.map optV))) (hm : H9 qm = some (.lst us)) (hr : Rep (LArc H9) us last) (B : BInv n c as best last) (he : H9 e = some (.tup (arcV a))) (hv : a.v < n) (hx : oc c a.u = some x) (hle : ∀ y, oc best a.v = some y → x + a.c ≤ y) :
    let H10 := upd H9 qb (.lst ((best.map optV).set a.v (.int (x + a.c))))
    let H11 := upd H10 qm (.lst (us.set a.v (.ref e)))
    H10 e = some (.tup (arcV a)) ∧ H10 qm = some (.lst us) ∧ Same H5 H11 ∧ H11 qb = some (.lst ((best.set a.v (some (x + a.c))).map optV)) ∧ Rep (LArc H11) (us.set a.v (.ref e)) (last.set a.v (some a)) ∧ BInv n c (as ++ [a]) (best.set a.v (some (x + a.c))) (last.set a.v (some a)) := by
  intro H10 H11
  have t1 : TEx H9 H10 := TEx.lst hb
  have hm10 : H10 qm = some (.lst us) := by
    show upd H9 qb _ qm = _
    rw [upd_ne (fun z => d z.symm)]
    exact hm
  have t2 : TEx H10 H11 := TEx.lst hm10
  refine ⟨t1 _ _ he, hm10, Same.mut (Same.mut s9 nqb) nqm, ?_, ?_, B.set hv hx hle⟩
  · show upd H10 qm _ qb = _
    rw [upd_ne d]
    show upd H9 qb _ qb = _
    rw [upd_same, List.map_set]
    rfl
  · exact Rep.set (Rep.mono hr fun v o t => t.mono (t1.trans t2)) a.v (d := some a) ⟨e, rfl, t2 _ _ (t1 _ _ he)⟩
section
variable {P : Program} {w : World} {K : PySem.W.Frag} {mg : Str → Option Value} {base : Heap}
abbrev n_walk_rows : List Str := ["size", "arcs", "costs", "lasts", "step", "before", "best", "last", "arc", "cost", "v"]
abbrev p_walk_rows : List Str := ["size", "arcs"]
theorem sc_walk_rows : FnScope n_walk_rows p_walk_rows (defScope s_walk_rows) := ⟨rfl, rfl, rfl, by decide +kernel, rfl, by decide +kernel, by decide +kernel⟩
def sp_walk_rows : Sp := fun vs H Q _ => ∃ (n : Nat) (va : V) (arcs : List Arc), vs = [.int n, va] ∧ LsT arcV H va arcs ∧ ArcsLt n arcs ∧ arcs.length ≤ 1000 ∧ n ≤ 100 ∧
  ∀ t vc vl H' C L, Same H H' → H' t = some (.tup [vc, vl]) → CostsAt H' vc n C → LastsAt H' vl n L → Rows n arcs C L → Q (.ref t) H'
theorem ok_walk_rows {f : Addr} {fd : FuncData} (F : FunD K "walk_rows" "walk_rows" (defArgs s_walk_rows) (defBody s_walk_rows) (defScope s_walk_rows) [] [] f fd) (T : Txt K mg) : FnOk P w K mg base CX0 1 f fd p_walk_rows sp_walk_rows := by
  refine ok_by F sc_walk_rows (fun vs H Q E h => ?_) (fun cdv A outer s H vs Q E hr h => ?_)
  · obtain ⟨n, va, arcs, rfl, _⟩ := h
    rfl
  · obtain ⟨n, va, arcs, rfl, ⟨pa, ua, rfl, hpa, hua⟩, lt, la, hn, k⟩ := h
    refine ⟨_, (pss_cons (ps_par (i := 2) (j := 3) (by rfl) sc_walk_rows.nd rfl rfl (by decide) rfl rfl (pa_cons (pe_lst (pa_cons (pe_lc (own := [("v", 10)]) (by rfl) sc_walk_rows.nd (pi_range1 (by rfl) T.range (pa_cons (pv 0) pa_nil)) (blkOk_by (own := [("v", 10)]) (N := n_walk_rows) (sc := defScope s_walk_rows) (by decide +kernel)) (fun _ _ _ _ _ => (pg_name (i := 10) sc_walk_rows.nd rfl (Or.inl rfl))) (fun _ _ _ _ _ => pts_nil) (fun _ _ _ _ _ => pe_int)) pa_nil)) (pa_cons (pe_lst (pa_cons (pe_lc (own := [("v", 10)]) (by rfl) sc_walk_rows.nd (pi_range1 (by rfl) T.range (pa_cons (pv 0) pa_nil)) (blkOk_by (own := [("v", 10)]) (N := n_walk_rows) (sc := defScope s_walk_rows) (by decide +kernel)) (fun _ _ _ _ _ => (pg_name (i := 10) sc_walk_rows.nd rfl (Or.inl rfl))) (fun _ _ _ _ _ => pts_nil) (fun _ _ _ _ _ => pe_non)) pa_nil)) pa_nil)) (by rfl))
      (pss_cons (ps_for PassesOwn.never rfl (pi_range1 (by rfl) T.range (pa_cons (pv 0) pa_nil)) (pg_name (i := 4) sc_walk_rows.nd rfl (Or.inl rfl))
        (pss_cons (ps_par3 (i := 5) (j := 6) (l := 7) (by rfl) sc_walk_rows.nd rfl rfl rfl (by decide) (by decide) (by decide) rfl rfl rfl (pa_cons (pe_ix (ix_listK K) (pv 2) (pv 4) (fun _ _ => rfl)) (pa_cons (pe_lc (own := [("v", 10)]) (by rfl) sc_walk_rows.nd (pi_range1 (by rfl) T.range (pa_cons (pv 0) pa_nil)) (blkOk_by (own := [("v", 10)]) (N := n_walk_rows) (sc := defScope s_walk_rows) (by decide +kernel)) (fun _ _ _ _ _ => (pg_name (i := 10) sc_walk_rows.nd rfl (Or.inl rfl))) (fun _ _ _ _ _ => pts_nil) (fun _ _ _ _ _ => pe_non)) (pa_cons (pe_lc (own := [("v", 10)]) (by rfl) sc_walk_rows.nd (pi_range1 (by rfl) T.range (pa_cons (pv 0) pa_nil)) (blkOk_by (own := [("v", 10)]) (N := n_walk_rows) (sc := defScope s_walk_rows) (by decide +kernel)) (fun _ _ _ _ _ => (pg_name (i := 10) sc_walk_rows.nd rfl (Or.inl rfl))) (fun _ _ _ _ _ => pts_nil) (fun _ _ _ _ _ => pe_non)) pa_nil))) (by rfl))
        (pss_cons (ps_for PassesOwn.never rfl (pi_list (pv 1)) (pg_name (i := 8) sc_walk_rows.nd rfl (Or.inl rfl))
          (pss_one (ps_if (pt_cmpR op_notN (pe_ix (ix_listK K) (pv 5) (pe_ix (ix_tupK K) (pv 8) pe_int (fun _ _ => rfl)) (fun _ _ => rfl)) pe_non (nomark _)) (pss_cons (ps_set (i := 9) sc_walk_rows.nd rfl (Or.inl rfl) (pe_op op_add (pe_ix (ix_listK K) (pv 5) (pe_ix (ix_tupK K) (pv 8) pe_int (fun _ _ => rfl)) (fun _ _ => rfl)) (pe_ix (ix_tupK K) (pv 8) pe_int (fun _ _ => rfl))))
            (pss_one (ps_if (PW.pt (pw_or (pt_cmpR op_isN (pe_ix (ix_listK K) (pv 6) (pe_ix (ix_tupK K) (pv 8) pe_int (fun _ _ => rfl)) (fun _ _ => rfl)) pe_non (nomark _)) (pw_or1 (pt_cmpR op_lt (pv 9) (pe_ix (ix_listK K) (pv 6) (pe_ix (ix_tupK K) (pv 8) pe_int (fun _ _ => rfl)) (fun _ _ => rfl)) (nomark _))))) (pss_cons (ps_asg (pv 9) (pg_sub (pv 6) (pe_ix (ix_tupK K) (pv 8) pe_int (fun _ _ => rfl)) set_list))
              (pss_one (ps_asg (pv 8) (pg_sub (pv 7) (pe_ix (ix_tupK K) (pv 8) pe_int (fun _ _ => rfl)) set_list)))) pss_nil))) pss_nil)))
        (pss_cons (ps_expr (pe_bm PySem.F.plainAttrs_list PySem.F.slot_list_append PySem.F.type_list_append mt_append (pv 2) (pa_cons (pv 6) pa_nil)))
        (pss_one (ps_expr (pe_bm PySem.F.plainAttrs_list PySem.F.slot_list_append PySem.F.type_list_append mt_append (pv 3) (pa_cons (pv 7) pa_nil))))))))
      (pss_one (ps_ret (pe_tup (pa_cons (pv 2) (pa_cons (pv 3) pa_nil))))))), ?_⟩
    refine ⟨_, rfl, n, rfl, by omega, by omega, ?_⟩
    refine lc_rep (walk_range (lo := 0) (n := n)) (δ := Option Int) (fun H v d => v = optV d) (fun _ _ _ _ e h => h) (fun H' s => trivial)
      (fun i => some (some 0)) (by omega) (fun i x H2 H3 hi s2 y K1 K0 h1 h0 => ?_) (fun z ys H1 nz s1 hz hR => ?_)
    · obtain ⟨rfl, rfl⟩ := y
      exact ⟨rfl, tyes (h1 _ (some 0) _ (Same.refl _) rfl rfl)⟩
    rw [filterMap_all (fun _ => (some 0 : Option Int))] at hR
    have ey := hR.eq_map
    rw [ey] at hz
    refine ⟨(by show 1 ≤ sizeLine; decide), fun qc nqc => ?_⟩
    have s2 : Same H1 (upd H1 qc (.lst [.ref z])) := same_new nqc
    refine ⟨_, rfl, n, rfl, by omega, by omega, ?_⟩
    refine lc_rep (walk_range (lo := 0) (n := n)) (δ := Option Int) (fun H v d => v = optV d) (fun _ _ _ _ e h => h) (fun H' s => trivial)
      (fun i => some none) (by omega) (fun i x H2 H3 hi s2 y K1 K0 h1 h0 => ?_) (fun z2 ys2 H2 nz2 s3 hz2 hR2 => ?_)
    · obtain ⟨rfl, rfl⟩ := y
      exact ⟨rfl, tyes (h1 _ none _ (Same.refl _) rfl rfl)⟩
    rw [filterMap_all (fun _ => (none : Option Int))] at hR2
    have ey2 : ys2 = (nones n : List (Option Int)).map optV := hR2.eq_map
    rw [ey2] at hz2
    refine ⟨(by show 1 ≤ sizeLine; decide), fun ql nql => ?_⟩
    have s4 : Same H2 (upd H2 ql (.lst [.ref z2])) := same_new nql
    refine ⟨_, _, rfl, ?_⟩
    have s14 : Same H1 (upd H2 ql (.lst [.ref z2])) := (s2.trans s3).trans s4
    have s04 := s1.trans s14
    have hqc4 := s4 _ _ (s3 _ _ upd_same)
    have nqcH : H qc = none := fresh_of s1 nqc
    have nqlH : H ql = none := fresh_of ((s1.trans s2).trans s3) nql
    have hql4 : upd H2 ql (.lst [.ref z2]) ql = some (.lst [.ref z2]) := upd_same
    have hz4 := s14 _ _ hz
    have hz24 := s4 _ _ hz2
    have ncl : ql ≠ qc := fun e => by rw [e] at nql; rw [s3 _ _ upd_same] at nql; cases nql
    have d1 : z ≠ qc := fun e => by rw [e] at hz; rw [nqc] at hz; cases hz
    have d2 : z ≠ ql := fun e => by have := (s2.trans s3) _ _ hz; rw [e, nql] at this; cases this
    have d3 : z2 ≠ qc := fun e => by rw [e] at nz2; rw [upd_same] at nz2; cases nz2
    have d4 : z2 ≠ ql := fun e => by rw [e, nql] at hz2; cases hz2
    generalize upd H2 ql (.lst [.ref z2]) = H4 at *
    refine ⟨_, rfl, n, rfl, by omega, by omega, ?_⟩
    refine for_it (walk_range (lo := 0) (n := n)) (fun i σ H' => ∃ (x4 x5 x6 x7 x8 x9 : Option V) (cs : List (List (Option Int))) (ls : List (List (Option Arc))) (rc rl : List V), σ = [some (.int n), some (.ref pa), some (.ref qc), some (.ref ql), x4, x5, x6, x7, x8, x9, none] ∧ Same H H' ∧ H' qc = some (.lst rc) ∧ H' ql = some (.lst rl) ∧
        Rep (RowC qc ql H') rc cs ∧ Rep (RowL qc ql H') rl ls ∧ TInv n arcs i cs ls)
      ⟨none, none, none, none, none, none, _, _, [.ref z], [.ref z2], rfl, s04, hqc4, hql4, Rep.snoc Rep.nil ⟨z, rfl, d1, d2, hz4⟩, Rep.snoc Rep.nil ⟨z2, _, rfl, d3, d4, hz24, rep_nones n⟩, TInv.start n arcs⟩ (fun i σ H' _ p => trivial) (fun i x σ H5 H6 hi p y => ?_) (fun σ H' p => ?_)
    · obtain ⟨x4, x5, x6, x7, x8, x9, cs, ls, rc, rl, rfl, s5, hqc, hql, hC, hL, TI⟩ := p
      obtain ⟨rfl, hx⟩ := y
      have ex : x = V.int (i : Nat) := hx.trans (congrArg V.int (Int.zero_add _))
      rw [ex]
      obtain ⟨c, hc⟩ : ∃ c, cs[i]? = some c := ⟨_, List.getElem?_eq_getElem (by rw [TI.lc]; omega)⟩
      obtain ⟨vb, hvb, pb, rfl, b1, b2, hpb⟩ := hC.get hc
      have hcl := TI.len i c hc
      refine ⟨_, rfl, _, rfl, qc, _, _, _, rfl, rfl, SqL.of hqc, atI_nat hvb, ?_⟩
      refine ⟨_, rfl, n, rfl, by omega, by omega, ?_⟩
      refine lc_rep (walk_range (lo := 0) (n := n)) (δ := Option Int) (fun H v d => v = optV d) (fun _ _ _ _ e h => h) (fun H' s => trivial)
        (fun i => some none) (by omega) (fun i x H2 H3 hi s2 y K1 K0 h1 h0 => ?_) (fun qb ys2 H7 nqb s7 hqb hR2 => ?_)
      · obtain ⟨rfl, rfl⟩ := y
        exact ⟨rfl, tyes (h1 _ none _ (Same.refl _) rfl rfl)⟩
      rw [filterMap_all (fun _ => (none : Option Int))] at hR2
      have eyb : ys2 = (nones n : List (Option Int)).map optV := hR2.eq_map
      rw [eyb] at hqb
      refine ⟨_, rfl, n, rfl, by omega, by omega, ?_⟩
      refine lc_rep (walk_range (lo := 0) (n := n)) (δ := Option Int) (fun H v d => v = optV d) (fun _ _ _ _ e h => h) (fun H' s => trivial)
        (fun i => some none) (by omega) (fun i x H2 H3 hi s2 y K1 K0 h1 h0 => ?_) (fun qm ys3 H8 nqm s8 hqm hR3 => ?_)
      · obtain ⟨rfl, rfl⟩ := y
        exact ⟨rfl, tyes (h1 _ none _ (Same.refl _) rfl rfl)⟩
      rw [filterMap_all (fun _ => (none : Option Int))] at hR3
      have eym : ys3 = (nones n : List (Option Int)).map optV := hR3.eq_map
      rw [eym] at hqm
      refine ⟨_, _, _, rfl, ?_⟩
      have nqm5 := fresh_of s7 nqm
      have hqb8 := s8 _ _ hqb
      have dbm : qb ≠ qm := fun e => by rw [e] at hqb; rw [nqm] at hqb; cases hqb
      have s58 := s7.trans s8
      refine ⟨_, rfl, pa, rfl, ⟨_, SqL.of (s58 _ _ (s5 _ _ hpa))⟩, ?_⟩
      refine for_it (walk_list (K := K) (a := pa) (xs := ua)) (fun j σ H' => ∃ (x8 x9 : Option V) (best : List (Option Int)) (last : List (Option Arc)) (us : List V), σ = [some (.int n), some (.ref pa), some (.ref qc), some (.ref ql), some (.int (i : Nat)), some (.ref pb), some (.ref qb), some (.ref qm), x8, x9, none] ∧ Same _ H' ∧
          H' qb = some (.lst (best.map optV)) ∧ H' qm = some (.lst us) ∧ Rep (LArc H') us last ∧ BInv n c (arcs.take j) best last)
        ⟨x8, x9, _, _, _, rfl, s58, hqb8, hqm, rep_nones n, by rw [List.take_zero]; exact BInv.start⟩ (fun j σ H' _ p => ?_) (fun j x σ H9 H10 hj p y => ?_) (fun σ H' p => ?_)
      · obtain ⟨_, _, _, _, _, _, s9, _⟩ := p
        exact SqL.of (s9 _ _ (s5 _ _ hpa))
      · obtain ⟨x8, x9, best, last, us, rfl, s9, hb9, hm9, hr9, B⟩ := p
        obtain ⟨rfl, hx⟩ := y
        obtain ⟨a, ha, e, rfl, he⟩ := hua.at_ j x hx
        have he9 := (s5.trans s9) _ _ he
        have hpb9 := s9 _ _ hpb
        have am := List.mem_of_getElem? ha
        obtain ⟨hu, hv⟩ := lt a am
        have atb : (c.map optV)[a.u]? = some (optV (oc c a.u)) := by rw [List.getElem?_map, oc_at (by rw [hcl]; exact hu)]; rfl
        have atB : (best.map optV)[a.v]? = some (optV (oc best a.v)) := by rw [List.getElem?_map, oc_at (by rw [B.lb]; exact hv)]; rfl
        have vlb : a.v < (best.map optV).length := by rw [List.length_map, B.lb]; exact hv
        have vlu : a.v < us.length := by rw [hr9.len, B.ll]; exact hv
        refine ⟨_, rfl, _, rfl, e, _, 0, .int a.u, rfl, rfl, SqT.of he9, rfl, pb, _, _, _, rfl, rfl, SqL.of hpb9, atI_nat atb, rfl, _, rfl, ?_⟩
        cases hou : oc c a.u with
        | none =>
          refine iteNS rfl ?_
          refine ⟨some (.ref e), x9, best, last, us, rfl, s9, hb9, hm9, hr9, ?_⟩
          rw [take_succ_at ha]
          exact B.skip fun x h => by rw [hou] at h; cases h
        | some x =>
          rw [hou] at atb
          refine iteND (fun z => by cases z) ?_
          refine ⟨_, rfl, _, rfl, e, _, 0, .int a.u, rfl, rfl, SqT.of he9, rfl, pb, _, _, _, rfl, rfl, SqL.of hpb9, atI_nat atb, _, rfl, e, _, 2, .int a.c, rfl, rfl, SqT.of he9, rfl, _, _, rfl, rfl, ?_⟩
          refine ⟨_, rfl, _, rfl, e, _, 1, .int a.v, rfl, rfl, SqT.of he9, rfl, qb, _, _, _, rfl, rfl, SqL.of hb9, atI_nat atB, rfl, _, rfl, ?_⟩
          cases hov : oc best a.v with
          | none =>
            rw [hov] at atB
            refine iteD rfl ?_
            refine ⟨_, rfl, _, rfl, _, rfl, e, _, 1, .int a.v, rfl, rfl, SqT.of he9, rfl, qb, _, _, a.v, rfl, rfl, hb9, ix_nat vlb, ?_⟩
            obtain ⟨t1, t2, t3, t4, t5, t6⟩ := brow_set s58 nqb nqm5 dbm s9 hb9 hm9 hr9 B he9 hv hou (fun y h => by rw [hov] at h; cases h)
            refine ⟨_, rfl, _, rfl, _, rfl, e, _, 1, .int a.v, rfl, rfl, SqT.of t1, rfl, qm, _, _, a.v, rfl, rfl, t2, ix_nat vlu, ?_⟩
            exact ⟨some (.ref e), some (.int (x + a.c)), _, _, _, rfl, t3, t4, upd_same, t5, by rw [take_succ_at ha]; exact t6⟩
          | some y0 =>
            rw [hov] at atB
            refine iteN (fun z => by cases z) ?_
            refine ⟨_, rfl, _, rfl, _, rfl, e, _, 1, .int a.v, rfl, rfl, SqT.of he9, rfl, qb, _, _, _, rfl, rfl, SqL.of hb9, atI_nat atB, _, _, rfl, rfl, _, rfl, ?_⟩
            by_cases hlt : x + a.c < y0
            · refine iteD hlt ?_
              refine ⟨_, rfl, _, rfl, _, rfl, e, _, 1, .int a.v, rfl, rfl, SqT.of he9, rfl, qb, _, _, a.v, rfl, rfl, hb9, ix_nat vlb, ?_⟩
              obtain ⟨t1, t2, t3, t4, t5, t6⟩ := brow_set s58 nqb nqm5 dbm s9 hb9 hm9 hr9 B he9 hv hou (fun y h => by rw [hov] at h; have := Option.some.inj h; omega)
              refine ⟨_, rfl, _, rfl, _, rfl, e, _, 1, .int a.v, rfl, rfl, SqT.of t1, rfl, qm, _, _, a.v, rfl, rfl, t2, ix_nat vlu, ?_⟩
              exact ⟨some (.ref e), some (.int (x + a.c)), _, _, _, rfl, t3, t4, upd_same, t5, by rw [take_succ_at ha]; exact t6⟩
            · refine iteN hlt ?_
              refine ⟨some (.ref e), some (.int (x + a.c)), best, last, us, rfl, s9, hb9, hm9, hr9, ?_⟩
              rw [take_succ_at ha]
              exact B.skip fun x' h => by
                rw [hou] at h
                have := Option.some.inj h
                exact ⟨y0, hov, by omega⟩
      · obtain ⟨x8, x9, best, last, us, rfl, s9, hb9, hm9, hr9, B⟩ := p
        rw [hua.len, List.take_length] at B
        have hqc9 := s9 _ _ hqc
        have hql9 := s9 _ _ hql
        have rcl : rc.length ≤ 101 := by rw [hC.len, TI.lc]; omega
        have rll : rl.length ≤ 101 := by rw [hL.len, TI.ll]; omega
        have e1 : qb ≠ qc := fun e => by rw [e] at nqb; rw [nqb] at hqc; cases hqc
        have e2 : qb ≠ ql := fun e => by rw [e] at nqb; rw [nqb] at hql; cases hql
        have e3 : qm ≠ qc := fun e => by rw [e] at nqm5; rw [nqm5] at hqc; cases hqc
        have e4 : qm ≠ ql := fun e => by rw [e] at nqm5; rw [nqm5] at hql; cases hql
        refine ⟨_, rfl, Or.inl ⟨rfl, _, SqL.of hqc9⟩, _, rfl, qc, rc, _, rfl, rfl, hqc9, small1000 (by omega), ?_⟩
        have w1 : Two qc ql H' (upd H' qc (.lst (rc ++ [.ref qb]))) := Two.l hqc9
        have hql10 : upd H' qc (.lst (rc ++ [.ref qb])) ql = some (.lst rl) := by rw [upd_ne ncl]; exact hql9
        refine ⟨_, rfl, Or.inl ⟨rfl, _, SqL.of hql10⟩, _, rfl, ql, rl, _, rfl, rfl, hql10, small1000 (by omega), ?_⟩
        have w2 : Two qc ql (upd H' qc (.lst (rc ++ [.ref qb]))) (upd (upd H' qc (.lst (rc ++ [.ref qb]))) ql (.lst (rl ++ [.ref qm]))) := Two.r hql10
        have w12 := w1.trans w2
        have w := (Two.of (q1 := qc) (q2 := ql) s9).trans w12
        refine ⟨some (.int (i : Nat)), some (.ref pb), some (.ref qb), some (.ref qm), x8, x9, cs ++ [best], ls ++ [last], rc ++ [.ref qb], rl ++ [.ref qm], rfl, Same.mut (Same.mut (s5.trans s9) nqcH) nqlH, by rw [upd_ne (fun e => ncl e.symm), upd_same], upd_same, ?_, ?_, TI.next hc B⟩
        · exact Rep.snoc (Rep.mono hC fun v d r => r.mono w) ⟨qb, rfl, e1, e2, w12.lst _ _ e1 e2 hb9⟩
        · exact Rep.snoc (Rep.mono hL fun v d r => r.mono w) ⟨qm, us, rfl, e3, e4, w12.lst _ _ e3 e4 hm9, Rep.mono hr9 fun v o t => t.mono w12.tex⟩
    · obtain ⟨x4, x5, x6, x7, x8, x9, cs, ls, rc, rl, rfl, s5, hqc, hql, hC, hL, TI⟩ := p
      refine ⟨_, rfl, _, rfl, (by show 2 ≤ sizeLine; decide), fun t nt => ?_⟩
      have s6 : Same H' (upd H' t (.tup [.ref qc, .ref ql])) := same_new nt
      exact k t _ _ _ _ _ (s5.trans s6) upd_same ((costsAt_of hqc hC TI.lc TI.len).same s6) ((lastsAt_of hql hL TI.ll TI.lenL).same s6) TI.rows
end
end Dt
end

section
set_option Elab.async false
set_option linter.all false
set_option maxRecDepth 100000
set_option maxHeartbeats 4000000
/-! greatest_mean, least_mean_node, cycle_of -/
namespace Dt
open PySem PySem.Spec PyProof.Rows L2
theorem mul_okR {i j : Int} (h1 : -1000000000 < j) (h2 : j < 1000000000) : CMul i j := .inr ⟨by omega, by omega⟩
/-- (a, b) is the greatest mean at v -/
structure Mean (n : Nat) (C : Nat → Nat → Option Int) (v : Nat) (X : Int) (i : Nat) (a b : Int) : Prop where
  pos : 0 < b
  le : b ≤ n
  at_ : ∃ k y, k < n ∧ C k v = some y ∧ a = X - y ∧ b = (n : Int) - k
  all : ∀ k, k < i → ∀ y, C k v = some y → (X - y) * b ≤ a * ((n : Int) - k)
section
variable {P : Program} {w : World} {K : PySem.W.Frag} {mg : Str → Option Value} {base : Heap}
abbrev n_greatest_mean : List Str := ["size", "costs", "v", "found", "step", "mean"]
abbrev p_greatest_mean : List Str := ["size", "costs", "v"]
theorem sc_greatest_mean : FnScope n_greatest_mean p_greatest_mean (defScope s_greatest_mean) := ⟨rfl, rfl, rfl, by decide +kernel, rfl, by decide +kernel, by decide +kernel⟩
def sp_greatest_mean : Sp := fun vs H Q _ => ∃ (n v : Nat) (vc : V) (C : Nat → Nat → Option Int) (X : Int), vs = [.int n, vc, .int v] ∧ CostsAt H vc n C ∧ v < n ∧ n ≤ 100 ∧ C n v = some X ∧ (∃ z, C 0 v = some z) ∧
  ∀ p H' a b, Same H H' → H' p = some (.tup [.int a, .int b]) → Mean n C v X n a b → Q (.ref p) H'
theorem ok_greatest_mean {f : Addr} {fd : FuncData} (F : FunD K "greatest_mean" "greatest_mean" (defArgs s_greatest_mean) (defBody s_greatest_mean) (defScope s_greatest_mean) [] [] f fd) (T : Txt K mg) : FnOk P w K mg base CX0 1 f fd p_greatest_mean sp_greatest_mean := by
  refine ok_by F sc_greatest_mean (fun vs H Q E h => ?_) (fun cdv A outer s H vs Q E hr h => ?_)
  · obtain ⟨n, v, vc, C, X, rfl, _⟩ := h
    rfl
  · obtain ⟨n, v, vc, C, X, rfl, ⟨qc, rc, rfl, hqc, hC⟩, hv, hn, hX, ⟨z0, hz0⟩, k⟩ := h
    refine ⟨_, (pss_cons (ps_set (i := 3) sc_greatest_mean.nd rfl (Or.inl rfl) pe_non)
      (pss_cons (ps_for PassesOwn.never rfl (pi_range1 (by rfl) T.range (pa_cons (pv 0) pa_nil)) (pg_name (i := 4) sc_greatest_mean.nd rfl (Or.inl rfl))
        (pss_one (ps_if (pt_cmpR op_notN (pe_ix (ix_listK K) (pe_ix (ix_listK K) (pv 1) (pv 4) (fun _ _ => rfl)) (pv 2) (fun _ _ => rfl)) pe_non (nomark _)) (pss_cons (ps_set (i := 5) sc_greatest_mean.nd rfl (Or.inl rfl) (pe_tup (pa_cons (pe_op op_sub (pe_ix (ix_listK K) (pe_ix (ix_listK K) (pv 1) (pv 0) (fun _ _ => rfl)) (pv 2) (fun _ _ => rfl)) (pe_ix (ix_listK K) (pe_ix (ix_listK K) (pv 1) (pv 4) (fun _ _ => rfl)) (pv 2) (fun _ _ => rfl))) (pa_cons (pe_op op_sub (pv 0) (pv 4)) pa_nil))))
          (pss_one (ps_if (PW.pt (pw_or (pt_cmpR op_isN (pv 3) pe_non (nomark _)) (pw_or1 (pt_cmpR op_gt (pe_op op_mul (pe_ix (ix_tupK K) (pv 5) pe_int (fun _ _ => rfl)) (pe_ix (ix_tupK K) (pv 3) pe_int (fun _ _ => rfl))) (pe_op op_mul (pe_ix (ix_tupK K) (pv 3) pe_int (fun _ _ => rfl)) (pe_ix (ix_tupK K) (pv 5) pe_int (fun _ _ => rfl))) (nomark _))))) (pss_one (ps_set (i := 3) sc_greatest_mean.nd rfl (Or.inl rfl) (pv 5))) pss_nil))) pss_nil)))
      (pss_one (ps_ret (pv 3))))), ?_⟩
    refine ⟨_, rfl, n, rfl, by omega, by omega, ?_⟩
    refine for_it (walk_range (lo := 0) (n := n)) (fun i σ H' => ∃ (fv : V) (x4 x5 : Option V), σ = [some (.int n), some (.ref qc), some (.int v), some fv, x4, x5] ∧ Same H H' ∧ ((fv = .non ∧ ∀ k, k < i → C k v = none) ∨ ∃ p a b, fv = .ref p ∧ H' p = some (.tup [.int a, .int b]) ∧ Mean n C v X i a b))
      ⟨.non, none, none, rfl, Same.refl _, .inl ⟨rfl, fun k hk => absurd hk (Nat.not_lt_zero k)⟩⟩ (fun i σ H' _ p => trivial) (fun i x σ H2 H3 hi p y => ?_) (fun σ H' p => ?_)
    · obtain ⟨fv, x4, x5, rfl, s2, hf⟩ := p
      obtain ⟨rfl, hx⟩ := y
      have ex : x = V.int (i : Nat) := hx.trans (congrArg V.int (Int.zero_add _))
      rw [ex]
      obtain ⟨p, us, hp1, hp2, hp3⟩ := hC i (by omega)
      obtain ⟨pn, un, hn1, hn2, hn3⟩ := hC n (Nat.le_refl _)
      have hqc2 := s2 _ _ hqc
      have hp22 := s2 _ _ hp2
      have hn22 := s2 _ _ hn2
      have atv := hp3 v hv
      have atn := hn3 v hv
      rw [hX] at atn
      refine ⟨_, rfl, _, rfl, qc, _, _, _, rfl, rfl, SqL.of hqc2, atI_nat hp1, _, rfl, p, _, _, _, rfl, rfl, SqL.of hp22, atI_nat atv, rfl, _, rfl, ?_⟩
      cases hc : C i v with
      | none =>
        refine iteNS rfl ?_
        refine ⟨fv, some (.int (i : Nat)), x5, rfl, s2, ?_⟩
        rcases hf with ⟨rfl, h⟩ | ⟨q, a, b, rfl, h1, M⟩
        · refine .inl ⟨rfl, fun k hk => ?_⟩
          by_cases e : k = i
          · rw [e]; exact hc
          · exact h k (by omega)
        · refine .inr ⟨q, a, b, rfl, h1, M.pos, M.le, M.at_, fun k hk y hy => ?_⟩
          by_cases e : k = i
          · rw [e, hc] at hy; cases hy
          · exact M.all k (by omega) y hy
      | some y0 =>
        rw [hc] at atv
        refine iteND (fun z => by cases z) ?_
        refine ⟨_, rfl, _, rfl, qc, _, _, _, rfl, rfl, SqL.of hqc2, atI_nat hn1, _, rfl, pn, _, _, _, rfl, rfl, SqL.of hn22, atI_nat atn, ?_⟩
        refine ⟨_, rfl, _, rfl, qc, _, _, _, rfl, rfl, SqL.of hqc2, atI_nat hp1, _, rfl, p, _, _, _, rfl, rfl, SqL.of hp22, atI_nat atv, _, _, rfl, rfl, ?_⟩
        refine ⟨_, rfl, _, rfl, _, _, rfl, rfl, (by show 2 ≤ sizeLine; decide), fun m nm => ?_⟩
        have s3 : Same H3 (upd H3 m (.tup [.int (X - y0), .int ((n : Int) - (i : Nat))])) := same_new nm
        have hm3 : upd H3 m (.tup [.int (X - y0), .int ((n : Int) - (i : Nat))]) m = some (.tup [.int (X - y0), .int ((n : Int) - (i : Nat))]) := upd_same
        have s23 := s2.trans s3
        rcases hf with ⟨rfl, h⟩ | ⟨q, a, b, rfl, h1, M⟩
        · refine ⟨_, rfl, rfl, _, rfl, iteD rfl ?_⟩
          refine ⟨_, rfl, .ref m, some (.int (i : Nat)), some (.ref m), rfl, s23, .inr ⟨m, _, _, rfl, hm3, by omega, by omega, ⟨i, y0, hi, hc, rfl, rfl⟩, fun k hk y hy => ?_⟩⟩
          by_cases e : k = i
          · rw [e, hc] at hy
            rw [e, Option.some.inj hy]
            exact Int.le_refl _
          · rw [h k (by omega)] at hy
            cases hy
        · have h13 := s3 _ _ h1
          have hbp := M.pos
          have hbl := M.le
          refine ⟨_, rfl, rfl, _, rfl, iteN (fun z => by cases z) ?_⟩
          refine ⟨_, rfl, m, _, 0, _, rfl, rfl, SqT.of hm3, rfl, _, rfl, q, _, 1, _, rfl, rfl, SqT.of h13, rfl, _, _, rfl, rfl, mul_okR (by omega) (by omega), ?_⟩
          refine ⟨_, rfl, q, _, 0, _, rfl, rfl, SqT.of h13, rfl, _, rfl, m, _, 1, _, rfl, rfl, SqT.of hm3, rfl, _, _, rfl, rfl, mul_okR (by omega) (by omega), _, _, rfl, rfl, _, rfl, ?_⟩
          by_cases hlt : a * ((n : Int) - (i : Nat)) < (X - y0) * b
          · refine iteD hlt ?_
            refine ⟨_, rfl, .ref m, some (.int (i : Nat)), some (.ref m), rfl, s23, .inr ⟨m, _, _, rfl, hm3, by omega, by omega, ⟨i, y0, hi, hc, rfl, rfl⟩, fun k hk y hy => ?_⟩⟩
            by_cases e : k = i
            · rw [e, hc] at hy
              rw [e, Option.some.inj hy]
              exact Int.le_refl _
            · exact frac_trans (by omega) hbp (by omega) (M.all k (by omega) y hy) (by omega)
          · refine iteN hlt ?_
            refine ⟨.ref q, some (.int (i : Nat)), some (.ref m), rfl, s23, .inr ⟨q, a, b, rfl, h13, M.pos, M.le, M.at_, fun k hk y hy => ?_⟩⟩
            by_cases e : k = i
            · rw [e, hc] at hy
              rw [e, ← Option.some.inj hy]
              omega
            · exact M.all k (by omega) y hy
    · obtain ⟨fv, x4, x5, rfl, s2, hf⟩ := p
      rcases hf with ⟨rfl, h⟩ | ⟨q, a, b, rfl, h1, M⟩
      · rw [h 0 (by omega)] at hz0
        cases hz0
      · exact ⟨_, rfl, k q H' a b s2 h1 M⟩
/-- what tells a node of a cycle of negative mean -/
def NodeOf (n : Nat) (C : Nat → Nat → Option Int) (i : Nat) (v : V) : Prop := (v = .non ∧ ∀ u, u < i → ∀ x, C n u = some x → ∃ k y, k < n ∧ C k u = some y ∧ y ≤ x) ∨
  ∃ s : Nat, v = .int s ∧ s < n ∧ (∃ X, C n s = some X) ∧ ∀ X, C n s = some X → ∀ k y, k < n → C k s = some y → X < y
theorem neg_all {n : Nat} {C : Nat → Nat → Option Int} {v : Nat} {X a b : Int} (M : Mean n C v X n a b) (ha : a < 0) : ∀ k y, k < n → C k v = some y → X < y := fun k y hk hy => by
  have h := M.all k hk y hy
  have hb := M.pos
  have h2 : a * ((n : Int) - k) < 0 := Int.mul_neg_of_neg_of_pos ha (by omega)
  apply Decidable.byContradiction
  intro hc
  have : 0 ≤ (X - y) * b := Int.mul_nonneg (by omega) (by omega)
  omega
abbrev n_least_mean_node : List Str := ["size", "costs", "found", "node", "v", "mean"]
abbrev p_least_mean_node : List Str := ["size", "costs"]
theorem sc_least_mean_node : FnScope n_least_mean_node p_least_mean_node (defScope s_least_mean_node) := ⟨rfl, rfl, rfl, by decide +kernel, rfl, by decide +kernel, by decide +kernel⟩
def sp_least_mean_node : Sp := fun vs H Q _ => ∃ (n : Nat) (vc : V) (C : Nat → Nat → Option Int), vs = [.int n, vc] ∧ CostsAt H vc n C ∧ n ≤ 100 ∧ (∀ v, v < n → C 0 v = some 0) ∧ ∀ v H', Same H H' → NodeOf n C n v → Q v H'
theorem ok_least_mean_node {f : Addr} {fd : FuncData} (F : FunD K "least_mean_node" "least_mean_node" (defArgs s_least_mean_node) (defBody s_least_mean_node) (defScope s_least_mean_node) [] [] f fd) (T : Txt K mg) (C_greatest_mean : Cal P w K mg base "greatest_mean" 1 p_greatest_mean sp_greatest_mean) : FnOk P w K mg base CX0 2 f fd p_least_mean_node sp_least_mean_node := by
  refine ok_by F sc_least_mean_node (fun vs H Q E h => ?_) (fun cdv A outer s H vs Q E hr h => ?_)
  · obtain ⟨n, vc, C, rfl, _⟩ := h
    rfl
  · obtain ⟨n, vc, C, rfl, HC, hn, hz, k⟩ := h
    refine ⟨_, (pss_cons (ps_asg (pe_tup (pa_cons (pe_tup (pa_cons pe_int (pa_cons pe_int pa_nil))) (pa_cons pe_non pa_nil))) (pg_tupK K 2 rfl (pgs_cons (pg_name (i := 2) sc_least_mean_node.nd rfl (Or.inl rfl)) (pgs_cons (pg_name (i := 3) sc_least_mean_node.nd rfl (Or.inl rfl)) pgs_nil))))
      (pss_cons (ps_for PassesOwn.never rfl (pi_range1 (by rfl) T.range (pa_cons (pv 0) pa_nil)) (pg_name (i := 4) sc_least_mean_node.nd rfl (Or.inl rfl))
        (pss_one (ps_if (pt_cmpR op_notN (pe_ix (ix_listK K) (pe_ix (ix_listK K) (pv 1) (pv 0) (fun _ _ => rfl)) (pv 4) (fun _ _ => rfl)) pe_non (nomark _)) (pss_cons (ps_set (i := 5) sc_least_mean_node.nd rfl (Or.inl rfl) (pe_cal C_greatest_mean hr (by decide) (pa_cons (pv 0) (pa_cons (pv 1) (pa_cons (pv 4) pa_nil)))))
          (pss_one (ps_if (pt_cmpR op_lt (pe_op op_mul (pe_ix (ix_tupK K) (pv 5) pe_int (fun _ _ => rfl)) (pe_ix (ix_tupK K) (pv 2) pe_int (fun _ _ => rfl))) (pe_op op_mul (pe_ix (ix_tupK K) (pv 2) pe_int (fun _ _ => rfl)) (pe_ix (ix_tupK K) (pv 5) pe_int (fun _ _ => rfl))) (nomark _)) (pss_one (ps_par (i := 2) (j := 3) (by rfl) sc_least_mean_node.nd rfl rfl (by decide) rfl rfl (pa_cons (pv 5) (pa_cons (pv 4) pa_nil)) (by rfl))) pss_nil))) pss_nil)))
      (pss_one (ps_ret (pv 3))))), ?_⟩
    refine ⟨(by show 2 ≤ sizeLine; decide), fun q0 nq0 => ?_⟩
    have s1 : Same H (upd H q0 (.tup [.int 0, .int 1])) := same_new nq0
    refine ⟨(by show 2 ≤ sizeLine; decide), fun q1 nq1 => ?_⟩
    have s2 : Same (upd H q0 (.tup [.int 0, .int 1])) (upd (upd H q0 (.tup [.int 0, .int 1])) q1 (.tup [.ref q0, .non])) := same_new nq1
    refine ⟨q1, _, rfl, SqT.of upd_same, rfl, .ref q0, _, rfl, .non, _, rfl, rfl, ?_⟩
    have hq02 := s2 _ _ upd_same
    have s12 := s1.trans s2
    generalize upd (upd H q0 (.tup [.int 0, .int 1])) q1 (.tup [.ref q0, .non]) = H2 at *
    refine ⟨_, rfl, n, rfl, by omega, by omega, ?_⟩
    refine for_it (walk_range (lo := 0) (n := n)) (fun i σ H' => ∃ (p : Addr) (a b : Int) (nv : V) (x4 x5 : Option V), σ = [some (.int n), some vc, some (.ref p), some nv, x4, x5] ∧ Same H H' ∧ H' p = some (.tup [.int a, .int b]) ∧ 0 < b ∧ b ≤ 100 ∧ NodeOf n C i nv ∧ ((nv = .non ∧ a = 0) ∨ (nv ≠ .non ∧ a < 0)))
      ⟨q0, 0, 1, .non, none, none, rfl, s12, hq02, by omega, by omega, .inl ⟨rfl, fun u hu => absurd hu (Nat.not_lt_zero u)⟩, .inl ⟨rfl, rfl⟩⟩ (fun i σ H' _ p => trivial) (fun i x σ H3 H4 hi p y => ?_) (fun σ H' p => ?_)
    · obtain ⟨p, a, b, nv, x4, x5, rfl, s3, hp, hb1, hb2, N, hna⟩ := p
      obtain ⟨rfl, hx⟩ := y
      have ex : x = V.int (i : Nat) := hx.trans (congrArg V.int (Int.zero_add _))
      rw [ex]
      have HC' := HC
      obtain ⟨qc, rc, rfl, hqc, hC⟩ := HC'
      obtain ⟨pn, un, hn1, hn2, hn3⟩ := hC n (Nat.le_refl _)
      have hqc3 := s3 _ _ hqc
      have hn23 := s3 _ _ hn2
      have atn := hn3 i hi
      refine ⟨_, rfl, _, rfl, qc, _, _, _, rfl, rfl, SqL.of hqc3, atI_nat hn1, _, rfl, pn, _, _, _, rfl, rfl, SqL.of hn23, atI_nat atn, rfl, _, rfl, ?_⟩
      cases hc : C n i with
      | none =>
        refine iteNS rfl ?_
        refine ⟨p, a, b, nv, some (.int (i : Nat)), x5, rfl, s3, hp, hb1, hb2, ?_, hna⟩
        rcases N with ⟨rfl, h⟩ | h
        · refine .inl ⟨rfl, fun u hu x hx => ?_⟩
          by_cases e : u = i
          · rw [e, hc] at hx; cases hx
          · exact h u (by omega) x hx
        · exact .inr h
      | some X =>
        refine iteND (fun z => by cases z) ?_
        refine ⟨_, rfl, _, rfl, _, rfl, n, i, .ref qc, C, X, rfl, HC.same s3, hi, hn, hc, ⟨0, hz i hi⟩, fun m H5 a' b' s5 hm M => ?_⟩
        have hp5 := s5 _ _ hp
        have hbl := M.le
        have hbp := M.pos
        refine ⟨_, rfl, m, _, 0, _, rfl, rfl, SqT.of hm, rfl, _, rfl, p, _, 1, _, rfl, rfl, SqT.of hp5, rfl, _, _, rfl, rfl, mul_okR (by omega) (by omega), ?_⟩
        refine ⟨_, rfl, p, _, 0, _, rfl, rfl, SqT.of hp5, rfl, _, rfl, m, _, 1, _, rfl, rfl, SqT.of hm, rfl, _, _, rfl, rfl, mul_okR (by omega) (by omega), _, _, rfl, rfl, _, rfl, ?_⟩
        by_cases hlt : a' * b < a * b'
        · refine iteD hlt ?_
          have neg : a' < 0 := by
            apply Decidable.byContradiction
            intro hc
            have h1 : 0 ≤ a' * b := Int.mul_nonneg (by omega) (by omega)
            rcases hna with ⟨_, rfl⟩ | ⟨_, ha⟩
            · rw [Int.zero_mul] at hlt
              omega
            · have h2 : a * b' < 0 := Int.mul_neg_of_neg_of_pos ha hbp
              omega
          refine ⟨_, rfl, _, rfl, _, _, rfl, ?_⟩
          refine ⟨m, a', b', .int (i : Nat), some (.int (i : Nat)), some (.ref m), rfl, s3.trans s5, hm, hbp, by omega, .inr ⟨i, rfl, hi, ⟨X, hc⟩, fun X' hX' => ?_⟩, .inr ⟨(fun z => by cases z), neg⟩⟩
          rw [hc] at hX'
          rw [← Option.some.inj hX']
          exact neg_all M neg
        · refine iteN hlt ?_
          refine ⟨p, a, b, nv, some (.int (i : Nat)), some (.ref m), rfl, s3.trans s5, hp5, hb1, hb2, ?_, hna⟩
          rcases N with ⟨rfl, h⟩ | h
          · refine .inl ⟨rfl, fun u hu x hx => ?_⟩
            by_cases e : u = i
            · rw [e, hc] at hx
              have ex := Option.some.inj hx
              obtain ⟨k, y, hk, hy, ha', hb'⟩ := M.at_
              have h0 : 0 ≤ a' := by
                rcases hna with ⟨_, rfl⟩ | ⟨z, _⟩
                · rw [Int.zero_mul] at hlt
                  apply Decidable.byContradiction
                  intro hc
                  have : a' * b < 0 := Int.mul_neg_of_neg_of_pos (by omega) hb1
                  omega
                · exact absurd rfl z
              exact ⟨k, y, hk, by rw [e]; exact hy, by omega⟩
            · exact h u (by omega) x hx
          · exact .inr h
    · obtain ⟨p, a, b, nv, x4, x5, rfl, s3, hp, hb1, hb2, N, hna⟩ := p
      exact ⟨_, rfl, k nv H' s3 N⟩
end
end Dt
end

section
set_option Elab.async false
set_option linter.all false
set_option maxRecDepth 100000
set_option maxHeartbeats 4000000
/-! cycle_of -/
namespace Dt
open PySem PySem.Spec PyProof.Rows L2
theorem cut_from (xs : List V) (j : Nat) : cutV xs (some (j : Int)) none = xs.drop j := by
  unfold cutV
  rw [HT.sIx_nat, HT.sIx_none]
  by_cases h : j ≤ xs.length
  · rw [Nat.min_eq_left h, List.take_of_length_le]
    rw [List.length_drop]
    exact Nat.le_refl _
  · rw [Nat.min_eq_right (by omega), Nat.sub_self, List.take_zero, List.drop_of_length_le (by omega)]
theorem Rep.drop {δ : Type} {R : V → δ → Prop} {vs : List V} {ds : List δ} (h : Rep R vs ds) (j : Nat) : Rep R (vs.drop j) (ds.drop j) := by
  refine ⟨by rw [List.length_drop, List.length_drop, h.len], fun i v e => ?_⟩
  rw [List.getElem?_drop] at e
  obtain ⟨d, h1, h2⟩ := h.at_ _ v e
  exact ⟨d, by rw [List.getElem?_drop]; exact h1, h2⟩
def toI (l : List Nat) : List Int := l.map fun v : Nat => (v : Int)
theorem toI_mem {l : List Nat} {v : Nat} : (v : Int) ∈ toI l ↔ v ∈ l := by
  unfold toI
  rw [List.mem_map]
  constructor
  · rintro ⟨u, hu, e⟩
    have : u = v := by omega
    rw [← this]
    exact hu
  · intro h
    exact ⟨v, h, rfl⟩
/-- a cycle of negative cost -/
structure NegC (arcs cyc : List Arc) : Prop where
  ne : cyc ≠ []
  mem : ∀ b ∈ cyc, b ∈ arcs
  nd : (cyc.map fun b => b.u).Nodup
  closed : ∀ y : Nat → Int, (cyc.map fun b => y b.v - y b.u).sum = 0
  neg : (cyc.map fun b => b.c).sum < 0
section
variable {P : Program} {w : World} {K : PySem.W.Frag} {mg : Str → Option Value} {base : Heap}
abbrev n_cycle_of : List Str := ["size", "arcs", "costs", "lasts", "node", "walk", "seen", "step", "arc"]
abbrev p_cycle_of : List Str := ["size", "arcs"]
theorem sc_cycle_of : FnScope n_cycle_of p_cycle_of (defScope s_cycle_of) := ⟨rfl, rfl, rfl, by decide +kernel, rfl, by decide +kernel, by decide +kernel⟩
def sp_cycle_of : Sp := fun vs H Q _ => ∃ (n : Nat) (va : V) (arcs : List Arc), vs = [.int n, va] ∧ LsT arcV H va arcs ∧ ArcsLt n arcs ∧ arcs.length ≤ 1000 ∧ n ≤ 100 ∧
  ∀ v H' cyc, Same H H' → LsT arcV H' v cyc → ((cyc = [] ∧ ∃ D : Nat → Int, ∀ a ∈ arcs, D a.v ≤ D a.u + a.c) ∨ NegC arcs cyc) → Q v H'
theorem ok_cycle_of {f : Addr} {fd : FuncData} (F : FunD K "cycle_of" "cycle_of" (defArgs s_cycle_of) (defBody s_cycle_of) (defScope s_cycle_of) [] [] f fd) (T : Txt K mg) (C_walk_rows : Cal P w K mg base "walk_rows" 1 p_walk_rows sp_walk_rows) (C_least_mean_node : Cal P w K mg base "least_mean_node" 2 p_least_mean_node sp_least_mean_node) : FnOk P w K mg base CX0 3 f fd p_cycle_of sp_cycle_of := by
  refine ok_by F sc_cycle_of (fun vs H Q E h => ?_) (fun cdv A outer s H vs Q E hr h => ?_)
  · obtain ⟨n, va, arcs, rfl, _⟩ := h
    rfl
  · obtain ⟨n, va, arcs, rfl, hA, lt, la, hn, k⟩ := h
    refine ⟨_, (pss_cons (ps_asg (pe_cal C_walk_rows hr (by decide) (pa_cons (pv 0) (pa_cons (pv 1) pa_nil))) (pg_tupK K 2 rfl (pgs_cons (pg_name (i := 2) sc_cycle_of.nd rfl (Or.inl rfl)) (pgs_cons (pg_name (i := 3) sc_cycle_of.nd rfl (Or.inl rfl)) pgs_nil))))
      (pss_cons (ps_set (i := 4) sc_cycle_of.nd rfl (Or.inl rfl) (pe_cal C_least_mean_node hr (by decide) (pa_cons (pv 0) (pa_cons (pv 2) pa_nil))))
      (pss_cons (ps_if (pt_cmpR op_isN (pv 4) pe_non (nomark _)) (pss_one (ps_ret (pe_lst pa_nil))) pss_nil)
      (pss_cons (ps_par3 (i := 5) (j := 6) (l := 7) (by rfl) sc_cycle_of.nd rfl rfl rfl (by decide) (by decide) (by decide) rfl rfl rfl (pa_cons (pe_lst pa_nil) (pa_cons (pe_lst (pa_cons (pv 4) pa_nil)) (pa_cons (pv 0) pa_nil))) (by rfl))
      (pss_one (ps_while PassesOwn.never (pt_val pe_bl)
        (pss_cons (ps_set (i := 8) sc_cycle_of.nd rfl (Or.inl rfl) (pe_ix (ix_listK K) (pe_ix (ix_listK K) (pv 3) (pv 7) (fun _ _ => rfl)) (pv 4) (fun _ _ => rfl)))
        (pss_cons (ps_expr (pe_bm PySem.F.plainAttrs_list PySem.F.slot_list_append PySem.F.type_list_append mt_append (pv 5) (pa_cons (pv 8) pa_nil)))
        (pss_cons (ps_set (i := 4) sc_cycle_of.nd rfl (Or.inl rfl) (pe_ix (ix_tupK K) (pv 8) pe_int (fun _ _ => rfl)))
        (pss_cons (ps_if (pt_cmpR (op_inK K) (pv 4) (pv 6) (by rfl)) (pss_one (ps_ret (pe_slice (sl_listK K) (pv 5) (po_some (pe_bm PySem.F.plainAttrs_list PySem.F.slot_list_index PySem.F.type_list_index mt_index (pv 6) (pa_cons (pv 4) pa_nil))) po_none))) pss_nil)
        (pss_cons (ps_expr (pe_bm PySem.F.plainAttrs_list PySem.F.slot_list_append PySem.F.type_list_append mt_append (pv 6) (pa_cons (pv 4) pa_nil)))
        (pss_one (ps_set (i := 7) sc_cycle_of.nd rfl (Or.inl rfl) (pe_op op_sub (pv 7) pe_int)))))))))))))), ?_⟩
    refine ⟨_, rfl, _, rfl, n, va, arcs, rfl, hA, lt, la, hn, fun t vc vl H1 C L s1 ht HC HL R => ?_⟩
    refine ⟨t, _, rfl, SqT.of ht, rfl, vc, _, rfl, vl, _, rfl, rfl, ?_⟩
    refine ⟨_, rfl, _, rfl, n, vc, C, rfl, HC, hn, R.zero, fun nv H2 s2 N => ?_⟩
    have s12 := s1.trans s2
    refine ⟨_, rfl, rfl, _, rfl, ?_⟩
    rcases N with ⟨rfl, hno⟩ | ⟨s0, rfl, hs0, ⟨X, hX⟩, neg⟩
    · refine iteD rfl ?_
      refine ⟨(by show 0 ≤ sizeLine; exact Nat.zero_le _), fun q nq => ?_⟩
      exact k _ _ [] (s12.trans (same_new nq)) ⟨q, [], rfl, upd_same, Rep.nil⟩ (.inl ⟨rfl, potential R lt hno⟩)
    · refine iteN (fun z => by cases z) ?_
      refine ⟨(by show 0 ≤ sizeLine; exact Nat.zero_le _), fun pw npw => ?_⟩
      have s3 : Same H2 (upd H2 pw (.lst [])) := same_new npw
      refine ⟨_, rfl, (by show 1 ≤ sizeLine; decide), fun ps nps => ?_⟩
      have s4 : Same (upd H2 pw (.lst [])) (upd (upd H2 pw (.lst [])) ps (.lst [.int s0])) := same_new nps
      have dwp : pw ≠ ps := fun e => by rw [e, upd_same] at nps; cases nps
      have hpw4 := s4 _ _ (show upd H2 pw (.lst []) pw = some (.lst []) from upd_same)
      have hps4 : upd (upd H2 pw (.lst [])) ps (.lst [.int s0]) ps = some (.lst [.int s0]) := upd_same
      have nps2 := fresh_of s3 nps
      have s34 := s3.trans s4
      refine ⟨_, rfl, _, _, _, rfl, ?_⟩
      generalize upd (upd H2 pw (.lst [])) ps (.lst [.int s0]) = H4 at *
      let J : Nat → List (Option V) → Hp → Prop := fun m σ H' => ∃ (walk : List Arc) (seen : List Nat) (step node : Nat) (st : Int) (x8 : Option V) (us : List V), σ = [some (.int n), some va, some vc, some vl, some (.int node), some (.ref pw), some (.ref ps), some (.int st), x8] ∧ st = (step : Nat) ∧ Same H2 H' ∧
        H' pw = some (.lst us) ∧ Tps arcV H' us walk ∧ H' ps = some (.lst ((toI seen).map V.int)) ∧ WInv n arcs C s0 walk seen step node ∧ m = step
      refine ⟨J, ⟨n, [], [s0], n, s0, (n : Int), none, [], rfl, rfl, s34, hpw4, Rep.nil, hps4, WInv.start hs0 hX, rfl⟩, ?_⟩
      rintro m σ H5 ⟨walk, seen, step, node, st, x8, us, rfl, rfl, s5, hpw, hus, hps, W, rfl⟩
      refine ⟨true, rfl, iteT ?_⟩
      refine ⟨fun σ' H' => ∃ m', m' < m ∧ J m' σ' H', fun σ' H' h => h, ?_⟩
      obtain ⟨a, x, e1, am, hav, hx, hc⟩ := W.arc R
      have hl := W.len
      have hpos := W.step_pos
      have hnode := W.node_lt
      have hsl := W.slen
      obtain ⟨ql, rs, rfl, hql, hL⟩ := HL
      obtain ⟨pr, ur, hr1, hr2, hr3⟩ := hL m (by omega)
      obtain ⟨u, hu, hA⟩ := hr3 node hnode
      rw [e1] at hA
      obtain ⟨e, rfl, he⟩ := hA
      have s25 := s2.trans s5
      have he5 := s25 _ _ he
      refine ⟨_, rfl, _, rfl, ql, _, _, _, rfl, rfl, SqL.of (s25 _ _ hql), atI_nat hr1, _, rfl, pr, _, _, _, rfl, rfl, SqL.of (s25 _ _ hr2), atI_nat hu, ?_⟩
      -- walk.append(arc)
      refine ⟨_, rfl, Or.inl ⟨rfl, _, SqL.of hpw⟩, _, rfl, pw, us, _, rfl, rfl, hpw, small1000 (by rw [hus.len]; omega), ?_⟩
      have t6 : TEx H5 (upd H5 pw (.lst (us ++ [.ref e]))) := TEx.lst hpw
      have s6 : Same H2 (upd H5 pw (.lst (us ++ [.ref e]))) := Same.mut s5 npw
      have hpw6 : upd H5 pw (.lst (us ++ [.ref e])) pw = some (.lst (us ++ [.ref e])) := upd_same
      have hps6 : upd H5 pw (.lst (us ++ [.ref e])) ps = some (.lst ((toI seen).map V.int)) := by rw [upd_ne (fun z => dwp z.symm)]; exact hps
      have he6 := t6 _ _ he5
      have hus6 : Tps arcV (upd H5 pw (.lst (us ++ [.ref e]))) (us ++ [.ref e]) (walk ++ [a]) := Rep.snoc (Tps.mono t6 hus) ⟨e, rfl, he6⟩
      generalize upd H5 pw (.lst (us ++ [.ref e])) = H6 at *
      refine ⟨_, rfl, e, _, 0, .int a.u, rfl, rfl, SqT.of he6, rfl, ?_⟩
      refine ⟨_, rfl, _, rfl, ps, _, rfl, .inl (SqL.of hps6), rfl, flat_ints _, _, rfl, ?_⟩
      have ein : (if false = true then !inV (.int (a.u : Int)) ((toI seen).map V.int) else inV (.int (a.u : Int)) ((toI seen).map V.int)) = decide ((a.u : Int) ∈ toI seen) := by
        rw [if_neg Bool.false_ne_true, inV_ints]
      rw [ein]
      by_cases hm : (a.u : Int) ∈ toI seen
      · refine iteD hm ?_
        obtain ⟨j, z, hj, hz, hfirst⟩ := first_of (fun v : Nat => decide (v = a.u)) seen ⟨a.u, toI_mem.mp hm, decide_eq_true rfl⟩
        have hz' := of_decide_eq_true hz
        rw [hz'] at hj
        have atj : ((toI seen).map V.int)[j]? = some (.int a.u) := by
          unfold toI
          rw [List.map_map, List.getElem?_map, hj]
          rfl
        refine ⟨_, rfl, _, rfl, Or.inl ⟨rfl, _, SqL.of hps6⟩, _, rfl, ps, _, .int a.u, j, .int a.u, rfl, rfl, SqL.of hps6, rfl, flat_ints _, atj, (by show ((a.u : Int) == (a.u : Int)) = true; exact beq_self_eq_true _), fun i z' hi hz' => ?_, _, rfl, pw, _, rfl, SqL.of hpw6, fun c nc => ?_⟩
        · unfold toI at hz'
          rw [List.map_map, List.getElem?_map] at hz'
          cases hsi : seen[i]? with
          | none => rw [hsi] at hz'; cases hz'
          | some y =>
            rw [hsi] at hz'
            have hy := of_decide_eq_false (hfirst i y hi hsi)
            cases hz'
            show ((y : Int) == (a.u : Int)) = false
            rw [beq_eq_false_iff_ne]
            omega
        · rw [cut_from]
          have s7 : Same H6 (upd H6 c (.lst ((us ++ [V.ref e]).drop j))) := same_new nc
          obtain ⟨c1, c2, c3, c4, c5⟩ := W.cycle R am hav hx hc neg hj
          exact k _ _ ((walk ++ [a]).drop j) (s12.trans (s6.trans s7)) ⟨c, _, rfl, upd_same, Tps.mono (TEx.of s7) (hus6.drop j)⟩ (.inr ⟨c1, c2, c3, c4, c5⟩)
      · refine iteN hm ?_
        refine ⟨_, rfl, Or.inl ⟨rfl, _, SqL.of hps6⟩, _, rfl, ps, _, _, rfl, rfl, hps6, small1000 (by rw [List.length_map]; unfold toI; rw [List.length_map]; omega), ?_⟩
        refine ⟨_, rfl, _, _, rfl, rfl, ?_⟩
        have t7 : TEx H6 (upd H6 ps (.lst ((toI seen).map V.int ++ [.int a.u]))) := TEx.lst hps6
        have es : (m : Int) - 1 = ((m - 1 : Nat) : Int) := by omega
        refine ⟨m - 1, by omega, walk ++ [a], seen ++ [a.u], m - 1, a.u, (m : Int) - 1, some (.ref e), us ++ [.ref e], rfl, es, Same.mut s6 nps2, by rw [upd_ne dwp]; exact hpw6, Tps.mono t7 hus6, ?_, W.next lt am hav hx hc (fun z => hm (toI_mem.mpr z)), rfl⟩
        rw [upd_same]
        unfold toI
        rw [List.map_append, List.map_append]
        rfl
end
end Dt
end

section
set_option Elab.async false
set_option linter.all false
set_option maxRecDepth 100000
set_option maxHeartbeats 4000000
/-! best_flows -/
namespace Dt
open PySem PySem.Spec PyProof.Rows L2
def optD : Option Int → PyData
  | none => .none
  | some i => .int i
def arcD (a : Arc) : PyData := .tuple [.int a.u, .int a.v, .int a.c, optD a.most, .int a.kind, .int a.ix, .int a.sg]
theorem dp_opt {K : PySem.W.Frag} {H : Hp} (o : Option Int) : Dp K H (optV o) (optD o) := by
  cases o with
  | none => exact .non
  | some i => exact .int i
theorem dp_arc {K : PySem.W.Frag} {H : Hp} {v : V} {a : Arc} (h : Tp H v (arcV a)) : Dp K H v (arcD a) := by
  obtain ⟨p, rfl, hp⟩ := h
  exact .tup (SqT.of hp) (.cons (.int _) (.cons (.int _) (.cons (.int _) (.cons (dp_opt _) (.cons (.int _) (.cons (.int _) (.cons (.int _) .nil)))))))
theorem shaped_list {ds : List PyData} (h : ∀ d ∈ ds, d.canLay0 = true ∧ d.depth ≤ 10) : SeqAt.shaped (.list ds) = true := by
  have h1 : PyData.canLayAll0 ds = true := by
    induction ds with
    | nil => simp [PyData.canLayAll0]
    | cons d ds ih =>
      simp only [PyData.canLayAll0, (h d (List.mem_cons_self ..)).1, ih fun x hx => h x (List.mem_cons_of_mem _ hx), Bool.and_self]
  have h2 : PyData.depthAll ds ≤ 10 := by
    induction ds with
    | nil => simp [PyData.depthAll]
    | cons d ds ih =>
      have a := (h d (List.mem_cons_self ..)).2
      have b := ih (fun x hx => h x (List.mem_cons_of_mem _ hx)) (by simp only [PyData.canLayAll0, Bool.and_eq_true] at h1; exact h1.2)
      simp only [PyData.depthAll]
      omega
  show (PyData.canLay0 (.list ds) && decide (PyData.depth (.list ds) ≤ 64)) = true
  rw [Bool.and_eq_true]
  refine ⟨by simp only [PyData.canLay0]; exact h1, decide_eq_true ?_⟩
  simp only [PyData.depth]
  omega
theorem arcD_flat (a : Arc) : (arcD a).canLay0 = true ∧ (arcD a).depth ≤ 10 := by
  unfold arcD
  cases a.most with
  | none => constructor <;> simp [optD, PyData.canLay0, PyData.canLayAll0, PyData.depth, PyData.depthAll]
  | some i => constructor <;> simp [optD, PyData.canLay0, PyData.canLayAll0, PyData.depth, PyData.depthAll]
theorem eqv_nil {δ : Type} (l : List δ) (e : δ → PyData) : (!PyData.eqv (.list (l.map e)) (.list [])) = !l.isEmpty := by
  cases l <;> rfl
theorem ln_mem {l : Ln} {ts : List Tm} (h : l ∈ lines ts) : Tm.ln l ∈ ts := by
  unfold lines at h
  obtain ⟨t, ht, e⟩ := List.mem_filterMap.mp h
  cases t with
  | ln l' =>
    have : l' = l := Option.some.inj e
    rw [← this]
    exact ht
  | bn b => cases e
theorem bn_mem {b : Bn} {ts : List Tm} (h : b ∈ bends ts) : Tm.bn b ∈ ts := by
  unfold bends at h
  obtain ⟨t, ht, e⟩ := List.mem_filterMap.mp h
  cases t with
  | bn b' =>
    have : b' = b := Option.some.inj e
    rw [← this]
    exact ht
  | ln l => cases e
theorem POk.arcs {n : Nat} {bs : List Bd} {lo : List Int} {ts : List Tm} (O : POk n bs lo ts) (ps gs : List Int) : ArcsLt n (resid bs (bends ts) ps gs) := fun a ha => by
  rcases arcIn_of ha with ⟨_, b, hb, r⟩ | ⟨_, b, hb, r⟩
  · obtain ⟨h1, h2, _⟩ := O.b b (List.mem_of_getElem? hb)
    rcases r with ⟨_, e1, e2, _⟩ | ⟨_, e1, e2, _⟩
    · rw [e1, e2]; exact ⟨h1, h2⟩
    · rw [e1, e2]; exact ⟨h2, h1⟩
  · obtain ⟨h1, h2, _⟩ := O.t _ (bn_mem (List.mem_of_getElem? hb))
    rcases r with ⟨_, e1, e2, _⟩ | ⟨_, e1, e2, _⟩
    · rw [e1, e2]; exact ⟨h1, h2⟩
    · rw [e1, e2]; exact ⟨h2, h1⟩
theorem lines_len (ts : List Tm) : (lines ts).length ≤ ts.length := List.length_filterMap_le _ _
theorem bends_len (ts : List Tm) : (bends ts).length ≤ ts.length := List.length_filterMap_le _ _
theorem resid_le {n : Nat} {bs : List Bd} {lo : List Int} {ts : List Tm} (O : POk n bs lo ts) (ps gs : List Int) : (resid bs (bends ts) ps gs).length ≤ 160 := by
  have h1 := resid_len bs (bends ts) ps gs
  have h2 := O.lb
  have h3 := O.lt
  have h4 := bends_len ts
  omega
theorem FlOk.zero {n : Nat} {bs : List Bd} {lo : List Int} {ts : List Tm} (O : POk n bs lo ts) {ps : List Int} (lp : ps.length = bs.length) (nn : ∀ p ∈ ps, 0 ≤ p) (bal : ∀ y, sumB bs ps y = sumL (lines ts) y) : FlOk bs (lines ts) (bends ts) ps (zeros (bends ts).length) :=
  ⟨lp, zeros_len _, fun k p h => nn p (List.mem_of_getElem? h), fun k b g hb hg => by
    have e := zeros_mem (List.mem_of_getElem? hg)
    obtain ⟨_, _, _, h4, _⟩ := O.t _ (bn_mem (List.mem_of_getElem? hb))
    omega, fun y => by
    have : sumT (bends ts) (zeros (bends ts).length) y = 0 := zip_zero _ (fun a => by show (0 : Int) * _ = 0; rw [Int.zero_mul]) _ _
    rw [this, bal y, Int.add_zero]⟩
theorem appAll_snoc (m : Int) (s : List Int × List Int) (l : List Arc) (a : Arc) : appAll m s (l ++ [a]) = app1 m (appAll m s l) a := by
  unfold appAll
  rw [List.foldl_append]
  rfl
/-- the bound that stops the loop -/
theorem worth_bound {n : Nat} {bs : List Bd} {lo : List Int} {ts : List Tm} (O : POk n bs lo ts) : ∃ M : Int, ∀ ps gs, FlOk bs (lines ts) (bends ts) ps gs → worth bs (bends ts) ps gs ≤ M := by
  obtain ⟨rk, hrk⟩ := O.rk
  obtain ⟨M, _, hM⟩ := row_of_rank rk bs hrk
  exact ⟨_, fun ps gs F => weak F hM⟩
section
variable {P : Program} {w : World} {K : PySem.W.Frag} {mg : Str → Option Value} {base : Heap}
abbrev n_best_flows : List Str := ["size", "bounds", "lines", "bends", "pulls", "turns", "cycle", "arc", "amount", "bend"]
abbrev p_best_flows : List Str := ["size", "bounds", "lines", "bends"]
theorem sc_best_flows : FnScope n_best_flows p_best_flows (defScope s_best_flows) := ⟨rfl, rfl, rfl, by decide +kernel, rfl, by decide +kernel, by decide +kernel⟩
def sp_best_flows : Sp := fun vs H Q _ => ∃ (n : Nat) (vb vl vn : V) (bs : List Bd) (lo : List Int) (ts : List Tm), vs = [.int n, vb, vl, vn] ∧ TuT bdV H vb bs ∧ LsT lnV H vl (lines ts) ∧ LsT bnV H vn (bends ts) ∧ POk n bs lo ts ∧
  ∀ p H' ps gs, Same H H' → FlsAt H' p ps gs → Best n bs ts ps gs → Q (.ref p) H'
theorem ok_best_flows {f : Addr} {fd : FuncData} (F : FunD K "best_flows" "best_flows" (defArgs s_best_flows) (defBody s_best_flows) (defScope s_best_flows) [] [] f fd) (T : Txt K mg) (C_first_pulls : Cal P w K mg base "first_pulls" 1 p_first_pulls sp_first_pulls) (C_residual_arcs : Cal P w K mg base "residual_arcs" 1 p_residual_arcs sp_residual_arcs) (C_cycle_of : Cal P w K mg base "cycle_of" 3 p_cycle_of sp_cycle_of) : FnOk P w K mg base CX0 4 f fd p_best_flows sp_best_flows := by
  refine ok_by F sc_best_flows (fun vs H Q E h => ?_) (fun cdv A outer s H vs Q E hr h => ?_)
  · obtain ⟨n, vb, vl, vn, bs, lo, ts, rfl, _⟩ := h
    rfl
  · obtain ⟨n, vb, vl, vn, bs, lo, ts, rfl, hB, hL, hN, O, k⟩ := h
    refine ⟨_, (pss_cons (ps_par (i := 4) (j := 5) (by rfl) sc_best_flows.nd rfl rfl (by decide) rfl rfl (pa_cons (pe_cal C_first_pulls hr (by decide) (pa_cons (pv 1) (pa_cons (pv 2) pa_nil))) (pa_cons (pe_lc (own := [("bend", 9)]) (by rfl) sc_best_flows.nd (pi_list (pv 3)) (blkOk_by (own := [("bend", 9)]) (N := n_best_flows) (sc := defScope s_best_flows) (by decide +kernel)) (fun _ _ _ _ _ => (pg_name (i := 9) sc_best_flows.nd rfl (Or.inl rfl))) (fun _ _ _ _ _ => pts_nil) (fun _ _ _ _ _ => pe_int)) pa_nil)) (by rfl))
      (pss_cons (ps_set (i := 6) sc_best_flows.nd rfl (Or.inl rfl) (pe_cal C_cycle_of hr (by decide) (pa_cons (pv 0) (pa_cons (pe_cal C_residual_arcs hr (by decide) (pa_cons (pv 1) (pa_cons (pv 3) (pa_cons (pv 4) (pa_cons (pv 5) pa_nil))))) pa_nil))))
      (pss_cons (ps_while PassesOwn.never (pt_cmpR (op_neD hr.units) (pv 6) (pe_lst pa_nil) (nomark _))
        (pss_cons (ps_set (i := 8) sc_best_flows.nd rfl (Or.inl rfl) (pe_callB (cr_min rfl) (by rfl) T.min (by decide +kernel) (pa_cons (pe_lc (own := [("arc", 7)]) (by rfl) sc_best_flows.nd (pi_list (pv 6)) (blkOk_by (own := [("arc", 7)]) (N := n_best_flows) (sc := defScope s_best_flows) (by decide +kernel)) (fun _ _ _ _ _ => (pg_name (i := 7) sc_best_flows.nd rfl (Or.inl rfl))) (fun _ _ _ _ _ => (pts_one (pt_cmpR op_notN (pe_ix (ix_tupK K) (pv 7) pe_int (fun _ _ => rfl)) pe_non (nomark _)))) (fun _ _ _ _ _ => (pe_ix (ix_tupK K) (pv 7) pe_int (fun _ _ => rfl)))) pa_nil)))
        (pss_cons (ps_for PassesOwn.never rfl (pi_list (pv 6)) (pg_name (i := 7) sc_best_flows.nd rfl (Or.inl rfl))
          (pss_one (ps_if (pt_cmpR op_eq (pe_ix (ix_tupK K) (pv 7) pe_int (fun _ _ => rfl)) pe_int (nomark _)) (pss_one (ps_asg (pe_op op_add (pe_ix (ix_listK K) (pv 4) (pe_ix (ix_tupK K) (pv 7) pe_int (fun _ _ => rfl)) (fun _ _ => rfl)) (pe_op op_mul (pe_ix (ix_tupK K) (pv 7) pe_int (fun _ _ => rfl)) (pv 8))) (pg_sub (pv 4) (pe_ix (ix_tupK K) (pv 7) pe_int (fun _ _ => rfl)) set_list))) (pss_one (ps_asg (pe_op op_add (pe_ix (ix_listK K) (pv 5) (pe_ix (ix_tupK K) (pv 7) pe_int (fun _ _ => rfl)) (fun _ _ => rfl)) (pe_op op_mul (pe_ix (ix_tupK K) (pv 7) pe_int (fun _ _ => rfl)) (pv 8))) (pg_sub (pv 5) (pe_ix (ix_tupK K) (pv 7) pe_int (fun _ _ => rfl)) set_list))))))
        (pss_one (ps_set (i := 6) sc_best_flows.nd rfl (Or.inl rfl) (pe_cal C_cycle_of hr (by decide) (pa_cons (pv 0) (pa_cons (pe_cal C_residual_arcs hr (by decide) (pa_cons (pv 1) (pa_cons (pv 3) (pa_cons (pv 4) (pa_cons (pv 5) pa_nil))))) pa_nil))))))))
      (pss_one (ps_ret (pe_tup (pa_cons (pv 4) (pa_cons (pv 5) pa_nil)))))))), ?_⟩
    have n12 := O.n12
    have lb := O.lb
    have lt := O.lt
    have ll := lines_len ts
    have lbn := bends_len ts
    obtain ⟨M, hM⟩ := worth_bound O
    refine ⟨_, rfl, _, rfl, vb, vl, bs, lines ts, rfl, hB, hL, by omega, by omega, fun l hl => O.ln l (ln_mem hl), fun l hl => ?_, fun pp H1 ps0 npp s1 hpp lps0 nn0 bal0 => ?_⟩
    · obtain ⟨_, _, _, h4, _⟩ := O.t _ (ln_mem hl)
      omega
    obtain ⟨pn, un, rfl, hpn, hun⟩ := hN
    have hpn1 := s1 _ _ hpn
    refine ⟨_, rfl, pn, rfl, ⟨_, SqL.of hpn1⟩, ?_⟩
    refine lc_rep (walk_list (K := K) (a := pn) (xs := un)) (δ := Int) (fun H v d => v = .int d) (fun _ _ _ _ e h => h) (fun H' s => s.seq (SqL.of hpn1))
      (fun i => some 0) (by rw [hun.len]; omega) (fun i x H2 H3 hi s2 y K1 K0 h1 h0 => ?_) (fun gp ys H2 ngp1 s2 hgp hR => ?_)
    · obtain ⟨rfl, hx⟩ := y
      exact ⟨rfl, tyes (h1 _ 0 _ (Same.refl _) rfl rfl)⟩
    rw [filterMap_all (fun _ => (0 : Int))] at hR
    have ey : ys = (zeros un.length).map V.int := hR.eq_map
    rw [ey, hun.len] at hgp
    have s12 := s1.trans s2
    have ngp := fresh_of s1 ngp1
    have hpp2 := s2 _ _ hpp
    have dpg : pp ≠ gp := fun e => by rw [e, ngp1] at hpp; cases hpp
    have F0 := FlOk.zero O lps0 nn0 bal0
    refine ⟨_, _, rfl, ?_⟩
    have hB2 := hB.mono (TEx.of s12)
    have hN2 : LsT bnV H2 (.ref pn) (bends ts) := LsT.mono s12 ⟨pn, un, rfl, hpn, hun⟩
    refine ⟨_, rfl, _, rfl, _, rfl, _, rfl, _, rfl, vb, .ref pn, pp, gp, bs, bends ts, ps0, _, rfl, hB2, hN2, hpp2, hgp, lps0, zeros_len _, by omega, by omega, fun va H3 s3 hA => ?_⟩
    refine ⟨n, va, _, rfl, hA, O.arcs _ _, Nat.le_trans (resid_le O _ _) (by omega), by omega, fun vc H4 cyc s4 hC hcase => ?_⟩
    have s34 := s3.trans s4
    let J : Nat → List (Option V) → Hp → Prop := fun m σ H' => ∃ (ps gs : List Int) (vc : V) (cyc : List Arc) (x7 x8 : Option V), σ = [some (.int n), some vb, some vl, some (.ref pn), some (.ref pp), some (.ref gp), some vc, x7, x8, none] ∧ Same H H' ∧ H' pp = some (.lst (ps.map V.int)) ∧ H' gp = some (.lst (gs.map V.int)) ∧
      FlOk bs (lines ts) (bends ts) ps gs ∧ LsT arcV H' vc cyc ∧ ((cyc = [] ∧ ∃ D : Nat → Int, ∀ a ∈ resid bs (bends ts) ps gs, D a.v ≤ D a.u + a.c) ∨ NegC (resid bs (bends ts) ps gs) cyc) ∧ m = (M - worth bs (bends ts) ps gs).toNat
    refine ⟨J, ⟨_, ps0, _, vc, cyc, none, none, rfl, s12.trans s34, s34 _ _ hpp2, s34 _ _ hgp, F0, hC, hcase, rfl⟩, ?_⟩
    rintro m σ H5 ⟨ps, gs, vc, cyc, x7, x8, rfl, s5, hpp5, hgp5, F5, ⟨pc, uc, rfl, hpc, huc⟩, hcase, rfl⟩
    refine ⟨_, rfl, (by show 0 ≤ sizeLine; exact Nat.zero_le _), fun q nq => ?_⟩
    have s6 : Same H5 (upd H5 q (.lst [])) := same_new nq
    have hpc6 := s6 _ _ hpc
    have huc6 := Tps.mono (TEx.of s6) huc
    refine ⟨.list (cyc.map arcD), .list [], .lst (SqL.of hpc6) (dpAll_of arcD (Rep.mono huc6 fun v a h => dp_arc h)), .lst (SqL.of upd_same) .nil, shaped_list (fun d hd => ?_), rfl, ?_⟩
    · obtain ⟨a, _, rfl⟩ := List.mem_map.mp hd
      exact arcD_flat a
    rw [eqv_nil]
    refine ⟨_, rfl, ?_⟩
    have s56 := s5.trans s6
    have hpp6 := s6 _ _ hpp5
    have hgp6 := s6 _ _ hgp5
    generalize upd H5 q (.lst []) = H6 at *
    rcases hcase with ⟨rfl, hD⟩ | NC
    · refine iteF ?_
      refine ⟨_, rfl, _, rfl, (by show 2 ≤ sizeLine; decide), fun r nr => ?_⟩
      have s7 : Same H6 (upd H6 r (.tup [.ref pp, .ref gp])) := same_new nr
      exact k r _ ps gs (s56.trans s7) ⟨pp, gp, upd_same, s7 _ _ hpp6, s7 _ _ hgp6⟩ ⟨F5, hD⟩
    · have hne : (!cyc.isEmpty) = true := by
        cases cyc with
        | nil => exact absurd rfl NC.ne
        | cons a r => rfl
      rw [hne]
      refine iteT ?_
      refine ⟨fun σ' H' => ∃ m', m' < (M - worth bs (bends ts) ps gs).toNat ∧ J m' σ' H', fun σ' H' h => h, ?_⟩
      have nres := resid_le O ps gs
      have ncyc : cyc.length ≤ 160 := by
        have h1 : (cyc.map fun b => b.u).length ≤ n := few n _ NC.nd fun v hv => by
          obtain ⟨b, hb, rfl⟩ := List.mem_map.mp hv
          exact (O.arcs ps gs b (NC.mem b hb)).1
        rw [List.length_map] at h1
        omega
      -- amount
      refine ⟨_, rfl, pc, rfl, ⟨_, SqL.of hpc6⟩, ?_⟩
      refine lc_rep (walk_list (K := K) (a := pc) (xs := uc)) (δ := Int) (fun H v d => v = .int d) (fun _ _ _ _ e h => h) (fun H' s => s.seq (SqL.of hpc6))
        (fun i => cyc[i]?.bind fun a => a.most) (by rw [huc.len]; omega) (fun i x H7 H8 hi s7 y K1 K0 h1 h0 => ?_) (fun qa ys H7 nqa s7 hqa hR => ?_)
      · obtain ⟨rfl, hx⟩ := y
        obtain ⟨a, ha, e, rfl, he⟩ := huc6.at_ i x hx
        have he7 := s7 _ _ he
        refine ⟨rfl, _, rfl, e, _, 3, optV a.most, rfl, rfl, SqT.of he7, rfl, rfl, _, rfl, ?_⟩
        cases hmo : a.most with
        | none =>
          refine iteNS rfl ?_
          exact h0 _ (Same.refl _) (by rw [ha]; exact hmo)
        | some t =>
          refine iteND (fun z => by cases z) ?_
          refine ⟨_, rfl, e, _, 3, optV a.most, rfl, rfl, SqT.of he7, rfl, ?_⟩
          rw [hmo]
          exact h1 _ t _ (Same.refl _) (by rw [ha]; exact hmo) rfl
      rw [huc.len, fm_at] at hR
      have eya := hR.eq_map
      rw [eya] at hqa
      obtain ⟨rk, hrk⟩ := O.rk
      obtain ⟨al, hal, tl, htl⟩ := has_limit NC.mem NC.closed NC.ne rk hrk
      have hml : tl ∈ cyc.filterMap fun a => a.most := List.mem_filterMap.mpr ⟨al, hal, htl⟩
      refine ⟨qa, cyc.filterMap fun a => a.most, rfl, SqL.of hqa, List.length_pos_of_mem hml, fun am ham hmin => ?_⟩
      have hpos : 0 < am := by
        obtain ⟨a, ha, e⟩ := List.mem_filterMap.mp ham
        exact most_pos (NC.mem a ha) e
      have hlim : ∀ a ∈ cyc, ∀ t, a.most = some t → am ≤ t := fun a ha t e => hmin t (List.mem_filterMap.mpr ⟨a, ha, e⟩)
      have s57 := s56.trans s7
      have hpc7 := s7 _ _ hpc6
      have huc7 := Tps.mono (TEx.of s7) huc6
      have Ln0 : Lens bs (bends ts) (ps, gs) := ⟨F5.lp, F5.lg⟩
      obtain ⟨a0, ha0⟩ : ∃ a0, cyc[0]? = some a0 := by
        cases cyc with
        | nil => exact absurd rfl NC.ne
        | cons a r => exact ⟨a, rfl⟩
      obtain ⟨u0, hu0, e0, rfl, _⟩ := huc7.get ha0
      have notInts : ∀ l : List Int, uc ≠ l.map V.int := fun l e => by
        rw [e, List.getElem?_map] at hu0
        cases hl : l[0]? with
        | none => rw [hl] at hu0; cases hu0
        | some z => rw [hl] at hu0; cases hu0
      have dcp : pc ≠ pp := fun e => by
        rw [e, hpp6] at hpc6
        exact notInts ps (HO.lst.inj (Option.some.inj hpc6)).symm
      have dcg : pc ≠ gp := fun e => by
        rw [e, hgp6] at hpc6
        exact notInts gs (HO.lst.inj (Option.some.inj hpc6)).symm
      -- for arc in cycle
      refine ⟨_, rfl, pc, rfl, ⟨_, SqL.of hpc7⟩, ?_⟩
      refine for_it (walk_list (K := K) (a := pc) (xs := uc)) (fun i σ H' => ∃ (x7 : Option V), σ = [some (.int n), some vb, some vl, some (.ref pn), some (.ref pp), some (.ref gp), some (.ref pc), x7, some (.int am), none] ∧ Same H H' ∧ H' pc = some (.lst uc) ∧ Tps arcV H' uc cyc ∧
          H' pp = some (.lst ((appAll am (ps, gs) (cyc.take i)).1.map V.int)) ∧ H' gp = some (.lst ((appAll am (ps, gs) (cyc.take i)).2.map V.int)))
        ⟨x7, rfl, s57, hpc7, huc7, s7 _ _ hpp6, s7 _ _ hgp6⟩ (fun i σ H' _ p => ?_) (fun i x σ H8 H9 hi p y => ?_) (fun σ H8 p => ?_)
      · obtain ⟨_, _, _, h, _⟩ := p
        exact SqL.of h
      · obtain ⟨x7, rfl, s8, hpc8, huc8, hpp8, hgp8⟩ := p
        obtain ⟨rfl, hx⟩ := y
        obtain ⟨a, ha, e, rfl, he⟩ := huc8.at_ i x hx
        have amem := NC.mem a (List.mem_of_getElem? ha)
        have L8 : Lens bs (bends ts) (appAll am (ps, gs) (cyc.take i)) := (appAll_facts am (cyc.take i) (ps, gs) Ln0 fun c hc => arcIn_of (NC.mem c (List.mem_of_mem_take hc))).1
        have estep : appAll am (ps, gs) (cyc.take (i + 1)) = app1 am (appAll am (ps, gs) (cyc.take i)) a := by rw [take_succ_at ha, appAll_snoc]
        generalize appAll am (ps, gs) (cyc.take i) = st at *
        have hsg : a.sg = 1 ∨ a.sg = -1 := by
          rcases arcIn_of amem with ⟨_, b, _, r⟩ | ⟨_, b, _, r⟩
          · rcases r with ⟨r, _⟩ | ⟨r, _⟩
            · exact .inl r
            · exact .inr r
          · rcases r with ⟨r, _⟩ | ⟨r, _⟩
            · exact .inl r
            · exact .inr r
        refine ⟨_, rfl, e, _, 4, .int a.kind, rfl, rfl, SqT.of he, rfl, rfl, _, rfl, ?_⟩
        rcases arcIn_of amem with ⟨hk, b, hb, _⟩ | ⟨hk, b, hb, _⟩
        · have hix : a.ix < st.1.length := by rw [L8.p]; exact (List.getElem?_eq_some_iff.mp hb).1
          refine iteD (by rw [hk]; rfl) ?_
          refine ⟨_, rfl, _, rfl, e, _, 5, .int a.ix, rfl, rfl, SqT.of he, rfl, pp, _, _, _, rfl, rfl, SqL.of hpp8, atI_nat (rowAt_at hix), ?_⟩
          refine ⟨_, rfl, e, _, 6, .int a.sg, rfl, rfl, SqT.of he, rfl, _, rfl, _, _, rfl, rfl, mul_ok (by rcases hsg with h | h <;> omega) (by rcases hsg with h | h <;> omega), _, _, rfl, rfl, ?_⟩
          refine ⟨_, rfl, _, rfl, e, _, 5, .int a.ix, rfl, rfl, SqT.of he, rfl, pp, _, _, a.ix, rfl, rfl, hpp8, ix_nat (by rw [List.length_map]; exact hix), ?_⟩
          have t9 : TEx H9 (upd H9 pp (.lst ((st.1.map V.int).set a.ix (.int (rowAt st.1 a.ix + a.sg * am))))) := TEx.lst hpp8
          refine ⟨some (.ref e), rfl, Same.mut s8 npp, by rw [upd_ne dcp]; exact hpc8, Tps.mono t9 huc8, ?_, ?_⟩
          · rw [upd_same, estep]
            unfold app1
            rw [if_pos hk]
            unfold bump rowAt
            rw [List.map_set]
          · rw [upd_ne (fun z => dpg z.symm), estep]
            unfold app1
            rw [if_pos hk]
            exact hgp8
        · have hk0 : ¬ a.kind = 0 := by omega
          have hix : a.ix < st.2.length := by rw [L8.g]; exact (List.getElem?_eq_some_iff.mp hb).1
          refine iteN (fun z => by have := V.int.inj z; omega) ?_
          refine ⟨_, rfl, _, rfl, e, _, 5, .int a.ix, rfl, rfl, SqT.of he, rfl, gp, _, _, _, rfl, rfl, SqL.of hgp8, atI_nat (rowAt_at hix), ?_⟩
          refine ⟨_, rfl, e, _, 6, .int a.sg, rfl, rfl, SqT.of he, rfl, _, rfl, _, _, rfl, rfl, mul_ok (by rcases hsg with h | h <;> omega) (by rcases hsg with h | h <;> omega), _, _, rfl, rfl, ?_⟩
          refine ⟨_, rfl, _, rfl, e, _, 5, .int a.ix, rfl, rfl, SqT.of he, rfl, gp, _, _, a.ix, rfl, rfl, hgp8, ix_nat (by rw [List.length_map]; exact hix), ?_⟩
          have t9 : TEx H9 (upd H9 gp (.lst ((st.2.map V.int).set a.ix (.int (rowAt st.2 a.ix + a.sg * am))))) := TEx.lst hgp8
          refine ⟨some (.ref e), rfl, Same.mut s8 ngp, by rw [upd_ne dcg]; exact hpc8, Tps.mono t9 huc8, ?_, ?_⟩
          · rw [upd_ne dpg, estep]
            unfold app1
            rw [if_neg hk0]
            exact hpp8
          · rw [upd_same, estep]
            unfold app1
            rw [if_neg hk0]
            unfold bump rowAt
            rw [List.map_set]
      · obtain ⟨x7, rfl, s8, hpc8, huc8, hpp8, hgp8⟩ := p
        rw [huc.len, List.take_length] at hpp8 hgp8
        obtain ⟨F8, hw⟩ := augment F5 NC.mem NC.nd NC.closed hpos hlim
        generalize (appAll am (ps, gs) cyc).1 = ps' at *
        generalize (appAll am (ps, gs) cyc).2 = gs' at *
        have hB8 := hB.mono (TEx.of s8)
        have hN8 : LsT bnV H8 (.ref pn) (bends ts) := LsT.mono s8 ⟨pn, un, rfl, hpn, hun⟩
        refine ⟨_, rfl, _, rfl, _, rfl, _, rfl, _, rfl, vb, .ref pn, pp, gp, bs, bends ts, ps', gs', rfl, hB8, hN8, hpp8, hgp8, F8.lp, F8.lg, by omega, by omega, fun va H10 s10 hA => ?_⟩
        refine ⟨n, va, _, rfl, hA, O.arcs _ _, Nat.le_trans (resid_le O _ _) (by omega), by omega, fun vc H11 cyc' s11 hC hcase => ?_⟩
        have s811 := s10.trans s11
        refine ⟨_, ?_, ps', gs', vc, cyc', x7, some (.int am), rfl, s8.trans s811, s811 _ _ hpp8, s811 _ _ hgp8, F8, hC, hcase, rfl⟩
        have hb1 := hM _ _ F8
        have hng := NC.neg
        have hmul : am * (cyc.map fun a => a.c).sum < 0 := Int.mul_neg_of_pos_of_neg hpos hng
        omega
end
end Dt
end

section
set_option Elab.async false
set_option linter.all false
set_option maxRecDepth 100000
set_option maxHeartbeats 4000000
/-! flows, raised_from, solve, certify, is_solution, better -/
namespace Dt
open PySem PySem.Spec PyProof.Rows L2
def FlSt (H : Hp) (fl : V) (n : Nat) (bs : List Bd) (ts : List Tm) : Prop := fl = .non ∨ ∃ p ps gs, fl = .ref p ∧ FlsAt H p ps gs ∧ Best n bs ts ps gs
def PB (C : Addr) (H : Hp) (a : Addr) (n : Nat) (bs : List Bd) (lo : List Int) (ts : List Tm) : Prop := ∃ fl, PObj C H a n bs lo ts fl ∧ FlSt H fl n bs ts ∧ POk n bs lo ts
section
variable {C a b : Addr} {H H' : Hp} {n m : Nat} {bs bs' : List Bd} {lo lo' : List Int} {ts ts' : List Tm}
theorem PB.same (B : PB C H a n bs lo ts) (e : Same H H') : PB C H' a n bs lo ts := by
  obtain ⟨fl, h1, h2, h3⟩ := B
  refine ⟨fl, h1.same e, ?_, h3⟩
  rcases h2 with h | ⟨p, ps, gs, h, h', h''⟩
  · exact .inl h
  · exact .inr ⟨p, ps, gs, h, h'.same e, h''⟩
theorem PB.other (B : PB C H a n bs lo ts) (B' : PB C H b m bs' lo' ts') (hb : b ≠ a) (e : SameX a H H') : PB C H' b m bs' lo' ts' := by
  obtain ⟨fl, h1, h2, h3⟩ := B
  obtain ⟨fl', g1, g2, g3⟩ := B'
  refine ⟨fl', h1.other g1 hb e, ?_, g3⟩
  rcases g2 with h | ⟨p, ps, gs, h, h', h''⟩
  · exact .inl h
  · exact .inr ⟨p, ps, gs, h, h'.mono h1 e, h''⟩
theorem PB.ok (B : PB C H a n bs lo ts) : POk n bs lo ts := B.elim fun _ h => h.2.2
theorem PB.tex (B : PB C H a n bs lo ts) (e : SameX a H H') : TEx H H' := B.elim fun _ h => h.1.tex e
end
theorem eqvAll_ints : ∀ l : List Int, PyData.eqvAll (l.map PyData.int) (l.map PyData.int) = true
  | [] => by simp [PyData.eqvAll]
  | a :: l => by
    have := eqvAll_ints l
    simp [PyData.eqvAll, PyData.eqv, this]
theorem eqv_ints (l : List Int) : PyData.eqv (intD l) (intD l) = true := by
  have := eqvAll_ints l
  simp only [intD, PyData.eqv]
  exact this
section
variable {P : Program} {w : World} {K : PySem.W.Frag} {mg : Str → Option Value} {base : Heap}
abbrev n_P_flows : List Str := ["self", "lines", "term"]
abbrev p_P_flows : List Str := ["self"]
theorem sc_P_flows : FnScope n_P_flows p_P_flows (defScope s_P_flows) := ⟨rfl, rfl, rfl, by decide +kernel, rfl, by decide +kernel, by decide +kernel⟩
def sp_P_flows (C : Addr) : Sp := fun vs H Q _ => ∃ (a : Addr) (n : Nat) (bs : List Bd) (lo : List Int) (ts : List Tm), vs = [.ref a] ∧ PB C H a n bs lo ts ∧
  ∀ p H' ps gs, SameX a H H' → PB C H' a n bs lo ts → FlsAt H' p ps gs → Best n bs ts ps gs → Q (.ref p) H'
theorem ok_P_flows {C : Addr} {f : Addr} {fd : FuncData} (F : FunD K "flows" "Problem.flows" (defArgs s_P_flows) (defBody s_P_flows) (defScope s_P_flows) [] [] f fd) (T : Txt K mg) (Z : Zt K mg C) (C_best_flows : Cal P w K mg base "best_flows" 4 p_best_flows sp_best_flows) (C_bends_of : Cal P w K mg base "bends_of" 1 p_bends_of sp_bends_of) : FnOk P w K mg base CX0 5 f fd p_P_flows (sp_P_flows C) := by
  refine ok_by F sc_P_flows (fun vs H Q E h => ?_) (fun cdv A outer s H vs Q E hr h => ?_)
  · obtain ⟨a, n, bs, lo, ts, rfl, _⟩ := h
    rfl
  · obtain ⟨a, n, bs, lo, ts, rfl, ⟨fl, ⟨dx, vb, vl, vt, ha, hB, hL, hT⟩, hF, O⟩, k⟩ := h
    refine ⟨_, (pss_cons (ps_if (pt_cmpR op_isN (pe_fld (pv 0) rfl) pe_non (nomark _)) (pss_cons (ps_setLc (i := 1) (own := [("term", 2)]) (by rfl) sc_P_flows.nd rfl rfl (sw_true rfl rfl rfl (by decide +kernel)) (pi_tup (pe_fld (pv 0) rfl)) (blkOk_by (own := [("term", 2)]) (N := n_P_flows) (sc := defScope s_P_flows) (by decide +kernel)) (fun _ _ _ _ _ => (pg_name (i := 2) sc_P_flows.nd rfl (Or.inl rfl))) (fun _ _ _ _ _ => (pts_one (pt_cmpR op_eq (pe_ix (ix_tupK K) (pv 2) pe_int (fun _ _ => rfl)) pe_str (nomark _)))) (fun _ _ _ _ _ => (pe_slice (sl_tupK K) (pv 2) (po_some pe_int) po_none)))
        (pss_one (ps_fld (pv 0) (pe_cal C_best_flows hr (by decide) (pa_cons (pe_fld (pv 0) rfl) (pa_cons (pe_fld (pv 0) rfl) (pa_cons (pv 1) (pa_cons (pe_cal C_bends_of hr (by decide) (pa_cons (pe_fld (pv 0) rfl) pa_nil)) pa_nil))))) rfl))) pss_nil)
      (pss_one (ps_ret (pe_fld (pv 0) rfl)))), ?_⟩
    have lt := O.lt
    refine ⟨_, rfl, a, C, dx, _, _, rfl, ha, Z.cl, Z.nF, rfl, rfl, _, rfl, ?_⟩
    rcases hF with rfl | ⟨p, ps, gs, rfl, hF, Be⟩
    · refine iteD rfl ?_
      have hT' := hT
      obtain ⟨pt, ut, rfl, hpt, hut⟩ := hT'
      refine ⟨_, rfl, a, C, dx, _, _, rfl, ha, Z.cl, Z.nT, rfl, pt, rfl, ⟨_, SqT.of hpt⟩, ?_⟩
      refine lc_rep (walk_tup (K := K) (a := pt) (xs := ut)) (δ := Ln) (fun H v d => Tp H v (lnV d)) (fun _ _ _ _ e h => h.mono e) (fun H' s => s.sqt (SqT.of hpt))
        (fun i => ts[i]?.bind lnOf) (by rw [hut.len]; omega) (fun i x H2 H3 hi s2 y K1 K0 h1 h0 => ?_) (fun q ys H1 nq s1 hq hR => ?_)
      · obtain ⟨rfl, hx⟩ := y
        obtain ⟨t, ht, e, rfl, he⟩ := hut.at_ i x hx
        have he2 := s2 _ _ he
        cases t with
        | ln l =>
          refine ⟨rfl, _, rfl, e, _, 0, .str "line", rfl, rfl, SqT.of he2, rfl, rfl, _, rfl, iteD rfl ?_⟩
          refine ⟨_, rfl, 1, rfl, e, _, rfl, SqT.of he2, sIx1 4 (by omega), fun c nc => ?_⟩
          exact h1 _ l _ (same_new nc) (by rw [ht]; rfl) ⟨c, rfl, upd_same⟩
        | bn b =>
          refine ⟨rfl, _, rfl, e, _, 0, .str "bend", rfl, rfl, SqT.of he2, rfl, rfl, _, rfl, iteN (by decide) ?_⟩
          exact h0 _ (Same.refl _) (by rw [ht]; rfl)
      rw [hut.len, fm_at] at hR
      have hLn : LsT lnV H1 (.ref q) (lines ts) := ⟨q, ys, rfl, hq, hR⟩
      have ha1 := s1 _ _ ha
      refine ⟨_, rfl, a, C, dx, _, _, rfl, ha1, Z.cl, Z.nS, rfl, _, rfl, a, C, dx, _, _, rfl, ha1, Z.cl, Z.nB, rfl, _, rfl, _, rfl, a, C, dx, _, _, rfl, ha1, Z.cl, Z.nT, rfl, .ref pt, ts, rfl, hT.mono (TEx.of s1), by omega, fun vn H2 s2 hN => ?_⟩
      refine ⟨n, vb, .ref q, vn, bs, lo, ts, rfl, hB.mono (TEx.of (s1.trans s2)), hLn.mono s2, hN, O, fun p H3 ps gs s3 hF Be => ?_⟩
      have s13 := (s1.trans s2).trans s3
      have ha3 := s13 _ _ ha
      refine ⟨_, rfl, a, C, dx, _, rfl, ha3, Z.cl, Z.nF, (by show (5 : Nat) < 1000; decide), ?_⟩
      rw [put6]
      have sx : SameX a H3 (upd H3 a (.ins C dx (fl5 (.int n) vb vl (.ref pt) (.ref p)))) := SameX.upd _
      have tx := sx.tex ha3
      have PO3 : PObj C H3 a n bs lo ts .non := PObj.same ⟨dx, vb, vl, .ref pt, ha, hB, hL, hT⟩ s13
      have hF4 := hF.mono PO3 sx
      refine ⟨_, rfl, a, C, dx, _, _, rfl, upd_same, Z.cl, Z.nF, rfl, ?_⟩
      refine k p _ ps gs ((SameX.of s13).trans sx) ⟨.ref p, ⟨dx, vb, vl, .ref pt, upd_same, (hB.mono (TEx.of s13)).mono tx, (hL.mono (TEx.of s13)).mono tx, (hT.mono (TEx.of s13)).mono tx⟩, .inr ⟨p, ps, gs, rfl, hF4, Be⟩, O⟩ hF4 Be
    · refine iteN (fun z => by cases z) ?_
      refine ⟨_, rfl, a, C, dx, _, _, rfl, ha, Z.cl, Z.nF, rfl, ?_⟩
      exact k p _ ps gs (fun _ _ _ h => h) ⟨.ref p, ⟨dx, vb, vl, vt, ha, hB, hL, hT⟩, .inr ⟨p, ps, gs, rfl, hF, Be⟩, O⟩ hF Be
abbrev n_P_raised_from : List Str := ["self", "row", "pulls", "turns"]
abbrev p_P_raised_from : List Str := ["self", "row"]
theorem sc_P_raised_from : FnScope n_P_raised_from p_P_raised_from (defScope s_P_raised_from) := ⟨rfl, rfl, rfl, by decide +kernel, rfl, by decide +kernel, by decide +kernel⟩
def sp_P_raised_from (C : Addr) : Sp := fun vs H Q _ => ∃ (a : Addr) (vr : V) (row : List Int) (bs : List Bd) (lo : List Int) (ts : List Tm), vs = [.ref a, vr] ∧ PB C H a row.length bs lo ts ∧ Tp H vr (row.map V.int) ∧
  ∀ v H' z ps gs, SameX a H H' → PB C H' a row.length bs lo ts → Tp H' v (z.map V.int) → Best row.length bs ts ps gs → RInv row.length (resid bs (bends ts) ps gs) row z → Sat (resid bs (bends ts) ps gs) (rowAt z) → Q v H'
theorem ok_P_raised_from {C : Addr} {f : Addr} {fd : FuncData} (F : FunD K "raised_from" "Problem.raised_from" (defArgs s_P_raised_from) (defBody s_P_raised_from) (defScope s_P_raised_from) [] [] f fd) (T : Txt K mg) (Z : Zt K mg C) (C_P_flows : MCal P w K mg base C "flows" 5 p_P_flows (sp_P_flows C)) (C_raised : Cal P w K mg base "raised" 1 p_raised sp_raised) (C_implied_steps : Cal P w K mg base "implied_steps" 2 p_implied_steps sp_implied_steps)
    (C_bends_of : Cal P w K mg base "bends_of" 1 p_bends_of sp_bends_of) : FnOk P w K mg base CX0 6 f fd p_P_raised_from (sp_P_raised_from C) := by
  refine ok_by F sc_P_raised_from (fun vs H Q E h => ?_) (fun cdv A outer s H vs Q E hr h => ?_)
  · obtain ⟨a, vr, row, bs, lo, ts, rfl, _⟩ := h
    rfl
  · obtain ⟨a, vr, row, bs, lo, ts, rfl, B, hrow, k⟩ := h
    have B' := B
    obtain ⟨fl, ⟨dx, vb, vl, vt, ha, hB, hL, hT⟩, hF, O⟩ := B'
    refine ⟨_, (pss_cons (ps_asg (pe_mcal0 (pv 0) Z.cl C_P_flows hr (by decide)) (pg_tupK K 2 rfl (pgs_cons (pg_name (i := 2) sc_P_raised_from.nd rfl (Or.inl rfl)) (pgs_cons (pg_name (i := 3) sc_P_raised_from.nd rfl (Or.inl rfl)) pgs_nil))))
      (pss_one (ps_ret (pe_cal C_raised hr (by decide) (pa_cons (pv 1) (pa_cons (pe_cal C_implied_steps hr (by decide) (pa_cons (pe_fld (pv 0) rfl) (pa_cons (pe_cal C_bends_of hr (by decide) (pa_cons (pe_fld (pv 0) rfl) pa_nil)) (pa_cons (pv 2) (pa_cons (pv 3) pa_nil))))) pa_nil)))))), ?_⟩
    have lt := O.lt
    have lb := O.lb
    have lbn := bends_len ts
    refine ⟨_, rfl, a, dx, _, rfl, ha, look_m _ _ _ _ _, a, row.length, bs, lo, ts, rfl, B, fun p H1 ps gs s1 B1 F1 Be => ?_⟩
    obtain ⟨pa, ga, f1, f2, f3⟩ := F1
    refine ⟨p, _, rfl, SqT.of f1, rfl, .ref pa, _, rfl, .ref ga, _, rfl, rfl, ?_⟩
    have B1' := B1
    obtain ⟨fl1, ⟨dx1, vb1, vl1, vt1, ha1, hB1, hL1, hT1⟩, hF1, _⟩ := B1'
    refine ⟨_, rfl, _, rfl, a, C, dx1, _, _, rfl, ha1, Z.cl, Z.nB, rfl, _, rfl, a, C, dx1, _, _, rfl, ha1, Z.cl, Z.nT, rfl, vt1, ts, rfl, hT1, by omega, fun vn H2 s2 hN => ?_⟩
    refine ⟨_, rfl, _, rfl, vb1, vn, pa, ga, bs, bends ts, ps, gs, rfl, hB1.mono (TEx.of s2), hN, s2 _ _ f2, s2 _ _ f3, Be.ok.lp, Be.ok.lg, by omega, by omega, fun vs H3 s3 hS => ?_⟩
    obtain ⟨D, hD⟩ := Be.pot
    obtain ⟨y, hy1, hy2⟩ := row_of_potential hD row.length (rowAt row)
    have s23 := s2.trans s3
    refine ⟨vr, vs, row, _, y, rfl, (hrow.mono (B.tex s1)).mono (TEx.of s23), hS, O.arcs ps gs, hy1, hy2, Nat.le_trans (resid_le O ps gs) (by omega), fun v H4 z s4 hz I hs => ?_⟩
    have s24 := s23.trans s4
    exact k v H4 z ps gs (s1.trans (SameX.of s24)) (B1.same s24) hz Be I hs
abbrev n_P_solve : List Str := ["self"]
abbrev p_P_solve : List Str := ["self"]
theorem sc_P_solve : FnScope n_P_solve p_P_solve (defScope s_P_solve) := ⟨rfl, rfl, rfl, by decide +kernel, rfl, by decide +kernel, by decide +kernel⟩
def sp_P_solve (C : Addr) : Sp := fun vs H Q _ => ∃ (a : Addr) (n : Nat) (bs : List Bd) (lo : List Int) (ts : List Tm), vs = [.ref a] ∧ PB C H a n bs lo ts ∧
  ∀ v H' z, SameX a H H' → PB C H' a n bs lo ts → Tp H' v (z.map V.int) → z.length = n → IsSol n bs (rowAt lo) ts (rowAt z) → Q v H'
theorem ok_P_solve {C : Addr} {f : Addr} {fd : FuncData} (F : FunD K "solve" "Problem.solve" (defArgs s_P_solve) (defBody s_P_solve) (defScope s_P_solve) [] [] f fd) (T : Txt K mg) (Z : Zt K mg C) (C_P_raised_from : MCal P w K mg base C "raised_from" 6 p_P_raised_from (sp_P_raised_from C)) : FnOk P w K mg base CX0 7 f fd p_P_solve (sp_P_solve C) := by
  refine ok_by F sc_P_solve (fun vs H Q E h => ?_) (fun cdv A outer s H vs Q E hr h => ?_)
  · obtain ⟨a, n, bs, lo, ts, rfl, _⟩ := h
    rfl
  · obtain ⟨a, n, bs, lo, ts, rfl, B, k⟩ := h
    have e := B.ok.ll
    subst e
    have B' := B
    obtain ⟨fl, ⟨dx, vb, vl, vt, ha, hB, hL, hT⟩, hF, O⟩ := B'
    refine ⟨_, (pss_one (ps_ret (pe_mcal (pv 0) Z.cl C_P_raised_from hr (by decide) (pa_cons (pe_fld (pv 0) rfl) pa_nil)))), ?_⟩
    refine ⟨_, rfl, a, dx, _, rfl, ha, look_m _ _ _ _ _, _, rfl, a, C, dx, _, _, rfl, ha, Z.cl, Z.nL, rfl, a, vl, lo, bs, lo, ts, rfl, B, hL, fun v H' z ps gs s1 B1 hz Be I hs => ?_⟩
    exact k v H' z s1 B1 hz I.len (sol_of Be.ok I hs)
abbrev n_P_certify : List Str := ["self", "pulls", "turns"]
abbrev p_P_certify : List Str := ["self"]
theorem sc_P_certify : FnScope n_P_certify p_P_certify (defScope s_P_certify) := ⟨rfl, rfl, rfl, by decide +kernel, rfl, by decide +kernel, by decide +kernel⟩
def sp_P_certify (C : Addr) : Sp := fun vs H Q _ => ∃ (a : Addr) (n : Nat) (bs : List Bd) (lo : List Int) (ts : List Tm), vs = [.ref a] ∧ PB C H a n bs lo ts ∧
  ∀ t p1 p2 H' ps gs, SameX a H H' → PB C H' a n bs lo ts → H' t = some (.tup [.ref p1, .ref p2]) → H' p1 = some (.tup (ps.map V.int)) → H' p2 = some (.tup (gs.map V.int)) → Best n bs ts ps gs → Q (.ref t) H'
theorem ok_P_certify {C : Addr} {f : Addr} {fd : FuncData} (F : FunD K "certify" "Problem.certify" (defArgs s_P_certify) (defBody s_P_certify) (defScope s_P_certify) [] [] f fd) (T : Txt K mg) (Z : Zt K mg C) (C_P_flows : MCal P w K mg base C "flows" 5 p_P_flows (sp_P_flows C)) : FnOk P w K mg base CX0 6 f fd p_P_certify (sp_P_certify C) := by
  refine ok_by F sc_P_certify (fun vs H Q E h => ?_) (fun cdv A outer s H vs Q E hr h => ?_)
  · obtain ⟨a, n, bs, lo, ts, rfl, _⟩ := h
    rfl
  · obtain ⟨a, n, bs, lo, ts, rfl, B, k⟩ := h
    have B' := B
    obtain ⟨fl, ⟨dx, vb, vl, vt, ha, hB, hL, hT⟩, hF, O⟩ := B'
    refine ⟨_, (pss_cons (ps_asg (pe_mcal0 (pv 0) Z.cl C_P_flows hr (by decide)) (pg_tupK K 2 rfl (pgs_cons (pg_name (i := 1) sc_P_certify.nd rfl (Or.inl rfl)) (pgs_cons (pg_name (i := 2) sc_P_certify.nd rfl (Or.inl rfl)) pgs_nil))))
      (pss_one (ps_ret (pe_tup (pa_cons (pe_callTy call_tuple_of (by rfl) T.tuple (by decide +kernel) (pa_cons (pv 1) pa_nil)) (pa_cons (pe_callTy call_tuple_of (by rfl) T.tuple (by decide +kernel) (pa_cons (pv 2) pa_nil)) pa_nil)))))), ?_⟩
    refine ⟨_, rfl, a, dx, _, rfl, ha, look_m _ _ _ _ _, a, n, bs, lo, ts, rfl, B, fun p H1 ps gs s1 B1 F1 Be => ?_⟩
    obtain ⟨pa, ga, f1, f2, f3⟩ := F1
    refine ⟨p, _, rfl, SqT.of f1, rfl, .ref pa, _, rfl, .ref ga, _, rfl, rfl, ?_⟩
    refine ⟨_, rfl, pa, _, rfl, .inl ⟨SqL.of f2, fun p1 n1 => ?_⟩⟩
    have s2 : Same H1 (upd H1 p1 (.tup (ps.map V.int))) := same_new n1
    refine ⟨_, rfl, ga, _, rfl, .inl ⟨SqL.of (s2 _ _ f3), fun p2 n2 => ?_⟩⟩
    have s3 : Same (upd H1 p1 (.tup (ps.map V.int))) (upd (upd H1 p1 (.tup (ps.map V.int))) p2 (.tup (gs.map V.int))) := same_new n2
    refine ⟨(by show 2 ≤ sizeLine; decide), fun t nt => ?_⟩
    have s4 := same_new (o := .tup [.ref p1, .ref p2]) nt
    have s24 := (s2.trans s3).trans s4
    exact k t p1 p2 _ ps gs (s1.trans (SameX.of s24)) (B1.same s24) upd_same (s4 _ _ (s3 _ _ upd_same)) (s4 _ _ upd_same) Be
abbrev n_P_is_solution : List Str := ["self", "row"]
abbrev p_P_is_solution : List Str := ["self", "row"]
theorem sc_P_is_solution : FnScope n_P_is_solution p_P_is_solution (defScope s_P_is_solution) := ⟨rfl, rfl, rfl, by decide +kernel, rfl, by decide +kernel, by decide +kernel⟩
def sp_P_is_solution (C : Addr) : Sp := fun vs H Q _ => ∃ (a : Addr) (v : V) (row : List Int) (bs : List Bd) (lo : List Int) (ts : List Tm), vs = [.ref a, v] ∧ PB C H a row.length bs lo ts ∧ Tp H v (row.map V.int) ∧ IsSol row.length bs (rowAt lo) ts (rowAt row) ∧
  ∀ H', SameX a H H' → PB C H' a row.length bs lo ts → Q (.bl true) H'
theorem ok_P_is_solution {C : Addr} {f : Addr} {fd : FuncData} (F : FunD K "is_solution" "Problem.is_solution" (defArgs s_P_is_solution) (defBody s_P_is_solution) (defScope s_P_is_solution) [] [] f fd) (T : Txt K mg) (Z : Zt K mg C) (C_P_is_feasible : MCal P w K mg base C "is_feasible" 3 p_P_is_feasible (sp_P_is_feasible C)) (C_P_solve : MCal P w K mg base C "solve" 7 p_P_solve (sp_P_solve C)) : FnOk P w K mg base CX0 8 f fd p_P_is_solution (sp_P_is_solution C) := by
  refine ok_by F sc_P_is_solution (fun vs H Q E h => ?_) (fun cdv A outer s H vs Q E hr h => ?_)
  · obtain ⟨a, v, row, bs, lo, ts, rfl, _⟩ := h
    rfl
  · obtain ⟨a, v, row, bs, lo, ts, rfl, B, hv, S, k⟩ := h
    have B' := B
    obtain ⟨fl, PO, hF, O⟩ := B'
    have PO' := PO
    obtain ⟨dx, vb, vl, vt, ha, hB, hL, hT⟩ := PO'
    refine ⟨_, (pss_one (ps_ret (pe_and (pe_mcal (pv 0) Z.cl C_P_is_feasible hr (by decide) (pa_cons (pv 1) pa_nil)) (pe_one (pe_cmpR (op_eqD hr.units) (pv 1) (pe_mcal0 (pv 0) Z.cl C_P_solve hr (by decide)) (nomark _)))))), ?_⟩
    refine ⟨_, rfl, a, dx, _, rfl, ha, look_m _ _ _ _ _, _, rfl, a, v, bs, lo, ts, fl, row, rfl, PO, O, hv, S.feas, fun H1 s1 => ?_⟩
    refine ⟨true, rfl, iteT ?_⟩
    refine ⟨_, rfl, _, rfl, a, dx, _, rfl, s1 _ _ ha, look_m _ _ _ _ _, a, row.length, bs, lo, ts, rfl, B.same s1, fun v2 H2 z s2 B2 hz lz Sz => ?_⟩
    have ez : z = row := ext_row lz rfl (Sz.eq S)
    subst ez
    have hv2 := (hv.mono (TEx.of s1)).mono ((B.same s1).tex s2)
    obtain ⟨p, rfl, hp⟩ := hv2
    obtain ⟨q, rfl, hq⟩ := hz
    refine ⟨intD z, intD z, .tup (SqT.of hp) (intD_dp z), .tup (SqT.of hq) (intD_dp z), intD_shaped z, intD_shaped z, ?_⟩
    rw [eqv_ints]
    exact k H2 ((SameX.of s1).trans s2) B2
abbrev n_P_better : List Str := ["self", "row", "goal", "steps", "most", "far", "value", "step", "v"]
abbrev p_P_better : List Str := ["self", "row"]
theorem sc_P_better : FnScope n_P_better p_P_better (defScope s_P_better) := ⟨rfl, rfl, rfl, by decide +kernel, rfl, by decide +kernel, by decide +kernel⟩
def sp_P_better (C : Addr) : Sp := fun vs H Q _ => ∃ (a : Addr) (v : V) (row : List Int) (bs : List Bd) (lo : List Int) (ts : List Tm), vs = [.ref a, v] ∧ PB C H a row.length bs lo ts ∧ Tp H v (row.map V.int) ∧ IsSol row.length bs (rowAt lo) ts (rowAt row) ∧
  ∀ H', SameX a H H' → PB C H' a row.length bs lo ts → Q .non H'
theorem ok_P_better {C : Addr} {f : Addr} {fd : FuncData} (F : FunD K "better" "Problem.better" (defArgs s_P_better) (defBody s_P_better) (defScope s_P_better) [] [] f fd) (T : Txt K mg) (Z : Zt K mg C) (C_P_is_feasible : MCal P w K mg base C "is_feasible" 3 p_P_is_feasible (sp_P_is_feasible C)) (C_P_raised_from : MCal P w K mg base C "raised_from" 6 p_P_raised_from (sp_P_raised_from C)) : FnOk P w K mg base CX0 7 f fd p_P_better (sp_P_better C) := by
  refine ok_by F sc_P_better (fun vs H Q E h => ?_) (fun cdv A outer s H vs Q E hr h => ?_)
  · obtain ⟨a, v, row, bs, lo, ts, rfl, _⟩ := h
    rfl
  · obtain ⟨a, v, row, bs, lo, ts, rfl, B, hv, S, k⟩ := h
    have B' := B
    obtain ⟨fl, PO, hF, O⟩ := B'
    have PO' := PO
    obtain ⟨dx, vb, vl, vt, ha, hB, hL, hT⟩ := PO'
    refine ⟨_, (pss_cons (ps_if (pt_not (pt_val (pe_mcal (pv 0) Z.cl C_P_is_feasible hr (by decide) (pa_cons (pv 1) pa_nil)))) (pss_one ps_never) pss_nil)
      (pss_cons (ps_set (i := 2) sc_P_better.nd rfl (Or.inl rfl) (pe_mcal (pv 0) Z.cl C_P_raised_from hr (by decide) (pa_cons (pv 1) pa_nil)))
      (pss_cons (ps_setLc (i := 3) (own := [("far", 5), ("value", 6)]) (by rfl) sc_P_better.nd rfl rfl (sw_true rfl rfl rfl (by decide +kernel)) (pi_zipK true true (by rfl) T.zip (pa_cons (pv 2) (pa_cons (pv 1) pa_nil))) (blkOk_by (own := [("far", 5), ("value", 6)]) (N := n_P_better) (sc := defScope s_P_better) (by decide +kernel)) (fun _ _ _ _ _ => (pg_tupK K 2 rfl (pgs_cons (pg_name (i := 5) sc_P_better.nd rfl (Or.inl rfl)) (pgs_cons (pg_name (i := 6) sc_P_better.nd rfl (Or.inl rfl)) pgs_nil)))) (fun _ _ _ _ _ => pts_nil) (fun _ _ _ _ _ => (pe_op op_sub (pv 5) (pv 6))))
      (pss_cons (ps_if (pt_val (pe_callB (cr_all rfl) (by rfl) T.all (by decide +kernel) (pa_cons (pe_lc (own := [("step", 7)]) (by rfl) sc_P_better.nd (pi_list (pv 3)) (blkOk_by (own := [("step", 7)]) (N := n_P_better) (sc := defScope s_P_better) (by decide +kernel)) (fun _ _ _ _ _ => (pg_name (i := 7) sc_P_better.nd rfl (Or.inl rfl))) (fun _ _ _ _ _ => pts_nil) (fun _ _ _ _ _ => (pe_cmpR op_eq (pv 7) pe_int (nomark _)))) pa_nil))) (pss_one (ps_ret pe_non)) pss_nil)
      (pss_cons (ps_set (i := 4) sc_P_better.nd rfl (Or.inr rfl) (pe_callB (cr_max rfl) (by rfl) T.max (by decide +kernel) (pa_cons (pv 3) pa_nil)))
      (pss_one (ps_ret (pe_tup (pa_cons pe_int (pa_cons (pe_callTy call_tuple_of (by rfl) T.tuple (by decide +kernel) (pa_cons (pe_lc (own := [("v", 8), ("step", 7)]) (by rfl) sc_P_better.nd (pi_enumK false (by rfl) T.enumerate (pa_cons (pv 3) pa_nil)) (blkOk_by (own := [("v", 8), ("step", 7)]) (N := n_P_better) (sc := defScope s_P_better) (by decide +kernel)) (fun _ _ _ _ _ => (pg_tupK K 2 rfl (pgs_cons (pg_name (i := 8) sc_P_better.nd rfl (Or.inl rfl)) (pgs_cons (pg_name (i := 7) sc_P_better.nd rfl (Or.inl rfl)) pgs_nil)))) (fun _ _ _ _ _ => (pts_one (pt_cmpR op_eq (pv 7) (pv 4) (nomark _)))) (fun _ _ _ _ _ => (pv 8))) pa_nil)) pa_nil)))))))))), ?_⟩
    have n12 := O.n12
    refine ⟨_, rfl, a, dx, _, rfl, ha, look_m _ _ _ _ _, _, rfl, a, v, bs, lo, ts, fl, row, rfl, PO, O, hv, S.feas, fun H1 s1 => ?_⟩
    refine ⟨true, rfl, iteF ?_⟩
    have hv1 := hv.mono (TEx.of s1)
    refine ⟨_, rfl, a, dx, _, rfl, s1 _ _ ha, look_m _ _ _ _ _, _, rfl, a, v, row, bs, lo, ts, rfl, B.same s1, hv1, fun v2 H2 z ps gs s2 B2 hz Be I hs => ?_⟩
    obtain ⟨D, hD⟩ := Be.pot
    obtain ⟨y, hy1, hy2⟩ := row_of_potential hD row.length (rowAt lo)
    obtain ⟨hsr, _⟩ := sol_sat Be.ok S hy1 hy2
    have ez : z = row := ext_row I.len rfl fun u hu => by
      have h1 := I.ge u hu
      have h2 := I.le (rowAt row) (fun _ _ => Int.le_refl _) hsr u hu
      omega
    subst ez
    have hv2 := hv1.mono ((B.same s1).tex s2)
    obtain ⟨p, rfl, hp⟩ := hv2
    obtain ⟨q, rfl, hq⟩ := hz
    have s02 := (SameX.of (a := a) s1).trans s2
    refine ⟨_, rfl, _, rfl, q, p, _, _, rfl, SqT.of hq, SqT.of hp, ?_⟩
    refine lc_rep (walk_zipK (t1 := true) (t2 := true) (K := K) (a := q) (b := p) (xs := z.map V.int) (ys := z.map V.int) rfl) (δ := Int) (fun H v d => v = .int d) (fun _ _ _ _ e h => h) (fun H' s => ⟨s.sqt (SqT.of hq), s.sqt (SqT.of hp)⟩)
      (fun i => some 0) (by rw [List.length_map]; omega) (fun i x H3 H4 hi s3 y K1 K0 h1 h0 => ?_) (fun r ys H3 nr s3 hr hR => ?_)
    · obtain ⟨c, x, w, rfl, nc, rfl, hx, hw⟩ := y
      have hx' : (z.map V.int)[i]? = some x := hx
      have hw' : (z.map V.int)[i]? = some w := hw
      rw [hx'] at hw'
      have e := Option.some.inj hw'
      subst e
      obtain ⟨x, ex, rfl⟩ := (rep_map V.int z).at_ i x hx'
      refine ⟨c, _, rfl, SqT.of upd_same, rfl, .int x, _, rfl, .int x, _, rfl, rfl, rfl, tyes ?_⟩
      refine ⟨_, rfl, _, rfl, _, _, rfl, rfl, ?_⟩
      exact h1 _ 0 _ (same_new nc) rfl (congrArg V.int (Int.sub_self x))
    rw [filterMap_all (fun _ => (0 : Int))] at hR
    have ey := hR.eq_map
    rw [ey] at hr
    refine ⟨_, rfl, r, rfl, ⟨_, SqL.of hr⟩, ?_⟩
    refine lc_all (walk_list (K := K) (a := r) (xs := _)) (fun H' s => s.seq (SqL.of hr)) (fun _ => true) (by simp; omega) (fun i x H4 H5 hi s4 y K1 K0 h1 h0 => ?_) (fun D ds H4 s4 hD hall => ?_)
    · obtain ⟨rfl, hx⟩ := y
      obtain ⟨d, hd, rfl⟩ := (rep_map V.int _).at_ i x hx
      have ed : d = 0 := by
        obtain ⟨_, _, e⟩ := List.mem_map.mp (List.mem_of_getElem? hd)
        exact e.symm
      subst ed
      refine ⟨rfl, tyes ?_⟩
      exact ⟨_, rfl, rfl, h1 _ (Same.refl _) rfl⟩
    refine ⟨D, ds, rfl, SqL.of hD, ?_⟩
    rw [hall]
    refine ⟨true, rfl, iteT ?_⟩
    exact k H4 (s02.trans (SameX.of (s3.trans s4))) (B2.same (s3.trans s4))
end
end Dt
end

section
set_option Elab.async false
set_option linter.all false
set_option maxRecDepth 100000
set_option maxHeartbeats 4000000
/-! the law's source -/
namespace Dt
open PySem PySem.Spec PyProof.Rows L2
def primes : List Int := [2147483647, 2147483629, 2147483587, 2147483579, 2147483563, 2147483549, 2147483543, 2147483497, 2147483489, 2147483477, 2147483423]
theorem primes_ok : ∀ p ∈ primes, 13 < p ∧ p < 2147483648 := by decide
/-- the source at p, drawn from at most b times -/
def Src (H : Hp) (p : Addr) (b : Nat) : Prop := ∃ c t x : Int, H p = some (.lst [.int c, .int t, .int x]) ∧ 0 ≤ t ∧ t ≤ b ∧ 0 ≤ x
theorem Src.up {H : Hp} {p : Addr} {b b' : Nat} (h : Src H p b) (e : b ≤ b') : Src H p b' := by
  obtain ⟨c, t, x, h1, h2, h3, h4⟩ := h
  exact ⟨c, t, x, h1, h2, by omega, h4⟩
theorem Src.same {H H' : Hp} {p : Addr} {b : Nat} (h : Src H p b) (e : Same H H') : Src H' p b := by
  obtain ⟨c, t, x, h1, h2⟩ := h
  exact ⟨c, t, x, e _ _ h1, h2⟩
theorem Src.tex {H H' : Hp} {p : Addr} {b : Nat} (h : Src H p b) (e : SameX p H H') : TEx H H' := by
  obtain ⟨c, t, x, h1, _⟩ := h
  intro q xs hq
  exact e q _ (fun z => by rw [z, h1] at hq; cases hq) hq
theorem SameX.refl {p : Addr} {H : Hp} : SameX p H H := fun _ _ _ h => h
section
variable {P : Program} {w : World} {K : PySem.W.Frag} {mg : Str → Option Value} {base : Heap}
abbrev n_L_source : List Str := ["_law_script", "_law_k", "_law_cell"]
abbrev p_L_source : List Str := ["_law_script", "_law_k"]
theorem sc_L_source : FnScope n_L_source p_L_source (defScope s_L_source) := ⟨rfl, rfl, rfl, by decide +kernel, rfl, by decide +kernel, by decide +kernel⟩
def sp_L_source (K : PySem.W.Frag) : Sp := fun vs H Q _ => ∃ (ps : Addr) (script : List Int) (k : Nat), vs = [.ref ps, .int k] ∧ SqL K H ps (script.map V.int) ∧ ∀ p H', H p = none → Same H H' → Src H' p (3 * k) → Q (.ref p) H'
theorem ok_L_source {f : Addr} {fd : FuncData} (F : FunD K "_law_source" "_law_source" (defArgs s_L_source) (defBody s_L_source) (defScope s_L_source) [] [] f fd) (T : Txt K mg) : FnOk P w K mg base CX0 1 f fd p_L_source (sp_L_source K) := by
  refine ok_by F sc_L_source (fun vs H Q E h => ?_) (fun cdv A outer s H vs Q E hr h => ?_)
  · obtain ⟨ps, script, k, rfl, _⟩ := h
    rfl
  · obtain ⟨ps, script, k, rfl, hs, kk⟩ := h
    refine ⟨_, (pss_cons (ps_set (i := 2) sc_L_source.nd rfl (Or.inl rfl) (pe_ifExp (pt_cmpR (op_neD hr.units) (pv 0) (pe_lst pa_nil) (nomark _)) (pe_ix (ix_listK K) (pv 0) (pe_op op_mod (pv 1) (pe_callB call_len_seq (by rfl) T.len (by decide +kernel) (pa_cons (pv 0) pa_nil))) (fun _ _ => rfl)) pe_int))
      (pss_one (ps_ret (pe_lst (pa_cons (pv 2) (pa_cons (pe_op op_mul pe_int (pv 1)) (pa_cons (pe_ifExp (pt_cmpR op_ge (pv 2) (pe_op op_pow pe_int pe_int) (nomark _)) (pe_op op_fdivW (pv 2) (pe_op op_pow pe_int pe_int)) pe_int) pa_nil))))))), ?_⟩
    refine ⟨_, rfl, (by show 0 ≤ sizeLine; exact Nat.zero_le _), fun q nq => ?_⟩
    have s1 : Same H (upd H q (.lst [])) := same_new nq
    have hs1 := s1.seq hs
    refine ⟨.list (script.map PyData.int), .list [], .lst hs1 (intD_dp script), .lst (SqL.of upd_same) .nil, intL_shaped script, rfl, ?_⟩
    rw [eqv_nil]
    refine ⟨_, rfl, ?_⟩
    generalize upd H q (.lst []) = H1 at *
    cases script with
    | nil =>
      refine iteF ?_
      refine ⟨_, rfl, _, rfl, _, _, rfl, rfl, mul_ok (by omega) (by omega), ?_⟩
      refine ⟨_, rfl, 10, 18, rfl, rfl, ⟨by omega, by omega, by decide⟩, _, _, rfl, rfl, _, rfl, ?_⟩
      refine iteN (by decide) ?_
      refine ⟨(by show 3 ≤ sizeLine; decide), fun p np => ?_⟩
      exact kk p _ (fresh_of s1 np) (s1.trans (same_new np)) ⟨_, _, _, upd_same, by omega, by omega, Int.le_refl _⟩
    | cons a r =>
      refine iteT ?_
      have hpos : 0 < (a :: r).length := by simp
      generalize (a :: r) = script at *
      obtain ⟨j, hj⟩ : ∃ j : Nat, ((k : Int) % (script.length : Int)) = (j : Nat) := ⟨((k : Int) % (script.length : Int)).toNat, by
        have := Int.emod_nonneg (k : Int) (show (script.length : Int) ≠ 0 by omega)
        omega⟩
      have hjl : j < script.length := by
        have := Int.emod_lt_of_pos (k : Int) (show (0 : Int) < script.length by omega)
        omega
      refine ⟨_, rfl, _, rfl, _, rfl, ps, _, rfl, .inl hs1, _, _, rfl, rfl, (by rw [List.length_map]; omega), ps, _, _, _, rfl, rfl, hs1, at_of (by rw [List.length_map]; exact hj) (rowAt_at hjl), ?_⟩
      generalize rowAt script j = c
      refine ⟨_, rfl, _, rfl, _, _, rfl, rfl, mul_ok (by omega) (by omega), ?_⟩
      refine ⟨_, rfl, 10, 18, rfl, rfl, ⟨by omega, by omega, by decide⟩, _, _, rfl, rfl, _, rfl, ?_⟩
      have e18 : (10 : Int) ^ (18 : Int).toNat = 1000000000000000000 := by decide
      rw [e18]
      by_cases hc : 1000000000000000000 ≤ c
      · refine iteD hc ?_
        refine ⟨_, rfl, 10, 18, rfl, rfl, ⟨by omega, by omega, by decide⟩, _, _, rfl, rfl, ⟨by decide, by decide⟩, ?_⟩
        refine ⟨(by show 3 ≤ sizeLine; decide), fun p np => ?_⟩
        refine kk p _ (fresh_of s1 np) (s1.trans (same_new np)) ⟨_, _, _, upd_same, by omega, by omega, ?_⟩
        rw [e18]
        exact Int.ediv_nonneg (by omega) (by omega)
      · refine iteN hc ?_
        refine ⟨(by show 3 ≤ sizeLine; decide), fun p np => ?_⟩
        exact kk p _ (fresh_of s1 np) (s1.trans (same_new np)) ⟨_, _, _, upd_same, by omega, by omega, Int.le_refl _⟩
abbrev n_L_next : List Str := ["_law_source_here", "_law_many", "_law_found", "_law_primes", "_law_prime"]
abbrev p_L_next : List Str := ["_law_source_here", "_law_many"]
theorem sc_L_next : FnScope n_L_next p_L_next (defScope s_L_next) := ⟨rfl, rfl, rfl, by decide +kernel, rfl, by decide +kernel, by decide +kernel⟩
def sp_L_next : Sp := fun vs H Q _ => ∃ (p : Addr) (n b : Nat), vs = [.ref p, .int n] ∧ Src H p b ∧ 0 < n ∧ n ≤ 1000 ∧ b ≤ 1000000000 ∧ ∀ (r : Nat) H', SameX p H H' → Src H' p (b + 1) → r < n → Q (.int r) H'
theorem ok_L_next {f : Addr} {fd : FuncData} (F : FunD K "_law_next" "_law_next" (defArgs s_L_next) (defBody s_L_next) (defScope s_L_next) [] [] f fd) (T : Txt K mg) : FnOk P w K mg base CX0 1 f fd p_L_next sp_L_next := by
  refine ok_by F sc_L_next (fun vs H Q E h => ?_) (fun cdv A outer s H vs Q E hr h => ?_)
  · obtain ⟨p, n, b, rfl, _⟩ := h
    rfl
  · obtain ⟨p, n, b, rfl, ⟨c, t, x, hp, ht0, htb, hx⟩, hn, hn1, hb, k⟩ := h
    refine ⟨_, (pss_cons (ps_if (pt_cmpR op_gt (pe_ix (ix_listK K) (pv 0) pe_int (fun _ _ => rfl)) pe_int (nomark _)) (pss_cons (ps_set (i := 2) sc_L_next.nd rfl (Or.inl rfl) (pe_op op_mod (pe_ix (ix_listK K) (pv 0) pe_int (fun _ _ => rfl)) (pv 1)))
        (pss_cons (ps_asg (pe_op op_fdiv (pe_ix (ix_listK K) (pv 0) pe_int (fun _ _ => rfl)) (pv 1)) (pg_sub (pv 0) pe_int set_list))
        (pss_one (ps_ret (pv 2))))) pss_nil)
      (pss_cons (ps_asg (pe_op op_add (pe_ix (ix_listK K) (pv 0) pe_int (fun _ _ => rfl)) pe_int) (pg_sub (pv 0) pe_int set_list))
      (pss_cons (ps_set (i := 3) sc_L_next.nd rfl (Or.inl rfl) (pe_lst (pa_cons pe_int (pa_cons pe_int (pa_cons pe_int (pa_cons pe_int (pa_cons pe_int (pa_cons pe_int (pa_cons pe_int (pa_cons pe_int pa_nil))))))))))
      (pss_cons (ps_set (i := 4) sc_L_next.nd rfl (Or.inl rfl) (pe_ix (ix_listK K) (pe_op op_cat (pv 3) (pe_lst (pa_cons pe_int (pa_cons pe_int (pa_cons pe_int pa_nil))))) (pe_op op_mod (pe_ix (ix_listK K) (pv 0) pe_int (fun _ _ => rfl)) pe_int) (fun _ _ => rfl)))
      (pss_one (ps_ret (pe_op op_mod (pe_op op_fdiv (pe_op op_mod (pe_op op_pow (pe_op op_add (pe_op op_add (pe_op op_mod (pe_ix (ix_listK K) (pv 0) pe_int (fun _ _ => rfl)) (pv 4)) (pe_op op_mul pe_int (pe_ix (ix_listK K) (pv 0) pe_int (fun _ _ => rfl)))) pe_int) pe_int) (pv 4)) pe_int) (pv 1)))))))), ?_⟩
    have natOf : ∀ z : Int, 0 ≤ z → ∃ r : Nat, z = (r : Nat) := fun z h => ⟨z.toNat, by omega⟩
    refine ⟨_, rfl, p, _, 2, .int x, rfl, rfl, SqL.of hp, rfl, _, _, rfl, rfl, _, rfl, ?_⟩
    by_cases hpos : 0 < x
    · refine iteD hpos ?_
      refine ⟨_, rfl, p, _, 2, .int x, rfl, rfl, SqL.of hp, rfl, _, rfl, _, _, rfl, rfl, (by show (0 : Int) < n; omega), ?_⟩
      refine ⟨_, rfl, p, _, 2, .int x, rfl, rfl, SqL.of hp, rfl, _, rfl, _, _, rfl, rfl, ⟨by omega, by omega⟩, ?_⟩
      refine ⟨_, rfl, p, _, 2, 2, rfl, rfl, hp, rfl, ?_⟩
      refine ⟨_, rfl, ?_⟩
      obtain ⟨r, er⟩ := natOf (x % n) (Int.emod_nonneg _ (by omega))
      have hlt := Int.emod_lt_of_pos x (show (0 : Int) < n by omega)
      show Q (.int (x % n)) _
      rw [er]
      exact k r _ (SameX.upd _) ⟨c, t, x / n, upd_same, ht0, by omega, Int.ediv_nonneg hx (by omega)⟩ (by omega)
    · refine iteN hpos ?_
      refine ⟨_, rfl, p, _, 1, .int t, rfl, rfl, SqL.of hp, rfl, _, _, rfl, rfl, ?_⟩
      refine ⟨_, rfl, p, _, 1, 1, rfl, rfl, hp, rfl, ?_⟩
      have hp1 : upd H p (.lst ([V.int c, .int t, .int x].set 1 (.int (t + 1)))) p = some (.lst [.int c, .int (t + 1), .int x]) := upd_same
      have sx : SameX p H (upd H p (.lst ([V.int c, .int t, .int x].set 1 (.int (t + 1))))) := SameX.upd _
      generalize upd H p (.lst ([V.int c, .int t, .int x].set 1 (.int (t + 1)))) = H1 at *
      refine ⟨(by show 8 ≤ sizeLine; decide), fun q1 n1 => ?_⟩
      have s1 : Same H1 (upd H1 q1 (.lst (([2147483647, 2147483629, 2147483587, 2147483579, 2147483563, 2147483549, 2147483543, 2147483497] : List Int).map V.int))) := same_new n1
      refine ⟨_, rfl, (by show 3 ≤ sizeLine; decide), fun q2 n2 => ?_⟩
      have s2 := same_new (o := .lst (([2147483489, 2147483477, 2147483423] : List Int).map V.int)) n2
      refine ⟨q1, q2, _, _, rfl, rfl, s2 _ _ upd_same, upd_same, (by show 11 ≤ sizeLine; decide), fun q3 n3 => ?_⟩
      have s3 := same_new (o := .lst (primes.map V.int)) n3
      have s13 := (s1.trans s2).trans s3
      have hp3 := s13 _ _ hp1
      obtain ⟨j, hj⟩ := natOf ((t + 1) % 11) (Int.emod_nonneg _ (by omega))
      have hjl : j < primes.length := by
        have := Int.emod_lt_of_pos (t + 1) (show (0 : Int) < 11 by omega)
        show j < 11
        omega
      refine ⟨_, rfl, p, _, 1, .int (t + 1), rfl, rfl, SqL.of hp3, rfl, _, _, rfl, rfl, (by show (0 : Int) < 11; omega), q3, primes.map V.int, _, _, rfl, rfl, SqL.of upd_same, at_of hj (rowAt_at hjl), ?_⟩
      obtain ⟨pr1, pr2⟩ := primes_ok (rowAt primes j) (List.mem_of_getElem? (rowAt_of hjl))
      generalize rowAt primes j = pr at *
      have hm0 := Int.emod_nonneg c (show pr ≠ 0 by omega)
      have hm1 := Int.emod_lt_of_pos c (show 0 < pr by omega)
      refine ⟨_, rfl, p, _, 0, .int c, rfl, rfl, SqL.of hp3, rfl, _, rfl, _, _, rfl, rfl, (by show 0 < pr; omega), ?_⟩
      refine ⟨_, rfl, p, _, 1, .int (t + 1), rfl, rfl, SqL.of hp3, rfl, _, _, rfl, rfl, mul_ok (by omega) (by omega), _, _, rfl, rfl, _, _, rfl, rfl, _, 5, rfl, rfl, ⟨by omega, by omega, by omega⟩, ?_⟩
      refine ⟨_, rfl, _, _, rfl, rfl, (by show 0 < pr; omega), _, _, rfl, rfl, ⟨by omega, by omega⟩, _, rfl, _, _, rfl, rfl, (by show (0 : Int) < n; omega), ?_⟩
      generalize ((c % pr + 7919 * (t + 1) + 1) ^ (5 : Int).toNat % pr / 13) = z
      obtain ⟨r, er⟩ := natOf (z % n) (Int.emod_nonneg _ (by omega))
      have hlt := Int.emod_lt_of_pos z (show (0 : Int) < n by omega)
      show Q (.int (z % n)) _
      rw [er]
      exact k r _ (sx.trans (SameX.of s13)) ⟨c, t + 1, x, hp3, by omega, by omega, hx⟩ (by omega)
abbrev n_L_pair_drawn : List Str := ["_law_source_here", "_law_size", "_law_i"]
abbrev p_L_pair_drawn : List Str := ["_law_source_here", "_law_size"]
theorem sc_L_pair_drawn : FnScope n_L_pair_drawn p_L_pair_drawn (defScope s_L_pair_drawn) := ⟨rfl, rfl, rfl, by decide +kernel, rfl, by decide +kernel, by decide +kernel⟩
def sp_L_pair_drawn : Sp := fun vs H Q _ => ∃ (p : Addr) (n b : Nat), vs = [.ref p, .int n] ∧ Src H p b ∧ 1 < n ∧ n ≤ 1000 ∧ b < 1000000000 ∧ ∀ q (i j : Nat) H', SameX p H H' → Src H' p (b + 2) → H' q = some (.tup [.int i, .int j]) → i < n → j < n → i ≠ j → Q (.ref q) H'
theorem ok_L_pair_drawn {f : Addr} {fd : FuncData} (F : FunD K "_law_pair_drawn" "_law_pair_drawn" (defArgs s_L_pair_drawn) (defBody s_L_pair_drawn) (defScope s_L_pair_drawn) [] [] f fd) (T : Txt K mg) (C_L_next : Cal P w K mg base "_law_next" 1 p_L_next sp_L_next) : FnOk P w K mg base CX0 2 f fd p_L_pair_drawn sp_L_pair_drawn := by
  refine ok_by F sc_L_pair_drawn (fun vs H Q E h => ?_) (fun cdv A outer s H vs Q E hr h => ?_)
  · obtain ⟨p, n, b, rfl, _⟩ := h
    rfl
  · obtain ⟨p, n, b, rfl, hS, hn, hn1, hb, k⟩ := h
    refine ⟨_, (pss_cons (ps_set (i := 2) sc_L_pair_drawn.nd rfl (Or.inl rfl) (pe_cal C_L_next hr (by decide) (pa_cons (pv 0) (pa_cons (pv 1) pa_nil))))
      (pss_one (ps_ret (pe_tup (pa_cons (pv 2) (pa_cons (pe_op op_mod (pe_op op_add (pe_op op_add (pv 2) pe_int) (pe_cal C_L_next hr (by decide) (pa_cons (pv 0) (pa_cons (pe_op op_sub (pv 1) pe_int) pa_nil)))) (pv 1)) pa_nil)))))), ?_⟩
    refine ⟨_, rfl, _, rfl, p, n, b, rfl, hS, by omega, hn1, by omega, fun i H1 s1 hS1 hi => ?_⟩
    refine ⟨_, rfl, _, rfl, _, _, rfl, rfl, _, rfl, _, rfl, _, _, rfl, rfl, p, n - 1, b + 1, ?_, hS1, by omega, by omega, by omega, fun r H2 s2 hS2 hr => ?_⟩
    · have e : ((n : Int) - 1) = ((n - 1 : Nat) : Int) := by omega
      show [V.ref p, V.int ((n : Int) - 1)] = _
      rw [e]
    refine ⟨_, _, rfl, rfl, _, rfl, _, _, rfl, rfl, (by show (0 : Int) < n; omega), ?_⟩
    refine ⟨(by show 2 ≤ sizeLine; decide), fun q nq => ?_⟩
    have s3 := same_new (o := .tup [.int (i : Nat), .int (((i : Int) + 1 + r) % n)]) nq
    have e : ((i : Int) + 1 + r) % n = (((i + 1 + r) % n : Nat) : Int) := by
      rw [Int.natCast_emod]
      rfl
    have hne : i ≠ (i + 1 + r) % n := fun z => by
      by_cases hl : i + 1 + r < n
      · rw [Nat.mod_eq_of_lt hl] at z
        omega
      · have : (i + 1 + r) % n = i + 1 + r - n := by
          rw [Nat.mod_eq_sub_mod (by omega), Nat.mod_eq_of_lt (by omega)]
        omega
    refine k q i ((i + 1 + r) % n) _ ((s1.trans s2).trans (SameX.of s3)) (hS2.same s3) ?_ hi (Nat.mod_lt _ (by omega)) hne
    rw [← e]
    exact upd_same
end
end Dt
end

section
set_option Elab.async false
set_option linter.all false
set_option maxRecDepth 100000
set_option maxHeartbeats 4000000
/-! tools of the drawing -/
namespace Dt
open PySem PySem.Spec PyProof.Rows L2
theorem te_cut {te : TE} {σ : L2.St} {H : Hp} {Q : VK} (R : V → Hp → Prop) (h : ∀ Q' : VK, (∀ v H', R v H' → Q' v H') → te σ H Q') (k : ∀ v H', R v H' → Q v H') : te σ H Q := h Q k
theorem ifs_cut {c : TT} {t u : TS} {D : Ends} {σ : L2.St} {H : Hp} (R : Bool → Hp → Prop) (hc : ∀ Q : Bool → Hp → Prop, (∀ b H', R b H' → Q b H') → c σ H Q) (ht : ∀ H', R true H' → t D σ H') (hu : ∀ H', R false H' → u D σ H') : tIfS c t u D σ H :=
  hc _ fun b H' r => by
    cases b
    · exact hu H' r
    · exact ht H' r
theorem seq_cut {t u : TS} {D : Ends} {σ : L2.St} {H : Hp} (Mid : L2.St → Hp → Prop) (h1 : ∀ Dn : Ends, (∀ σ' H', Mid σ' H' → Dn.nx σ' H') → t Dn σ H) (h2 : ∀ σ' H', Mid σ' H' → u D σ' H') : tSeq t u D σ H := h1 { D with nx := u D } h2
theorem ne_new {H : Hp} {q a : Addr} {o : HO} (n : H q = none) (s : H a = some o) : a ≠ q := fun e => by
  rw [e, n] at s
  cases s
theorem SameX.mut {p q : Addr} {H H' : Hp} {o : HO} (e : SameX p H H') (n : H q = none) : SameX p H (L2.upd H' q o) := fun b u hb h => by
  rw [upd_ne (ne_new n h)]
  exact e b u hb h
theorem Src.upd {H : Hp} {p q : Addr} {b : Nat} {o : HO} (h : Src H p b) (e : q ≠ p) : Src (upd H q o) p b := by
  obtain ⟨c, t, x, h1, h2⟩ := h
  exact ⟨c, t, x, by rw [upd_ne (fun z => e z.symm)]; exact h1, h2⟩
theorem Src.some {H : Hp} {p : Addr} {b : Nat} (h : Src H p b) : ∃ xs, H p = some (.lst xs) := by
  obtain ⟨c, t, x, h1, _⟩ := h
  exact ⟨_, h1⟩
/-- the place of v -/
def posOf : List Nat → Nat → Nat
  | [], _ => 0
  | a :: r, v => if a = v then 0 else posOf r v + 1
theorem posOf_at : ∀ {l : List Nat} {v : Nat}, v ∈ l → l[posOf l v]? = some v
  | [], v, h => by cases h
  | a :: r, v, h => by
    unfold posOf
    by_cases e : a = v
    · rw [if_pos e, e]
      rfl
    · rw [if_neg e]
      rcases List.mem_cons.mp h with z | z
      · exact absurd z.symm e
      · simpa using posOf_at z
theorem posOf_first : ∀ {l : List Nat} {v j z : Nat}, j < posOf l v → l[j]? = some z → z ≠ v
  | [], v, j, z, h, e => by simp at e
  | a :: r, v, j, z, h, e => by
    unfold posOf at h
    by_cases q : a = v
    · rw [if_pos q] at h
      omega
    · rw [if_neg q] at h
      cases j with
      | zero =>
        have : a = z := Option.some.inj e
        rw [← this]
        exact q
      | succ j => exact posOf_first (l := r) (v := v) (j := j) (by omega) (by simpa using e)
theorem posOf_inj {l : List Nat} {u v : Nat} (hu : u ∈ l) (hv : v ∈ l) (e : posOf l u = posOf l v) : u = v := by
  have h1 := posOf_at hu
  rw [e, posOf_at hv] at h1
  exact (Option.some.inj h1).symm
theorem erase_perm {α : Type} : ∀ {l : List α} {k : Nat} {v : α}, l[k]? = some v → (v :: l.eraseIdx k).Perm l
  | [], k, v, h => by simp at h
  | a :: r, 0, v, h => by
    have : a = v := Option.some.inj h
    rw [this]
    exact List.Perm.refl _
  | a :: r, k + 1, v, h => by
    have ih := erase_perm (l := r) (k := k) (v := v) (by simpa using h)
    exact (List.Perm.swap a v _).trans (ih.cons a)
theorem erase_map {α β : Type} (f : α → β) : ∀ (l : List α) (k : Nat), (l.map f).eraseIdx k = (l.eraseIdx k).map f
  | [], k => by simp
  | a :: r, 0 => rfl
  | a :: r, k + 1 => by
    have := erase_map f r k
    simp [this]
theorem toI_at {l : List Nat} {k v : Nat} (h : l[k]? = some v) : ((toI l).map V.int)[k]? = some (.int v) := by
  unfold toI
  rw [List.map_map, List.getElem?_map, h]
  rfl
theorem toI_len (l : List Nat) : ((toI l).map V.int).length = l.length := by simp [toI]
/-- order.index(v), as it is read -/
theorem index_first {l : List Nat} {v : Nat} : ∀ (m : Nat) (z' : V), m < posOf l v → ((toI l).map V.int)[m]? = some z' → eqV z' (.int v) = false := fun m z' hm e => by
  unfold toI at e
  rw [List.map_map, List.getElem?_map] at e
  cases h : l[m]? with
  | none => rw [h] at e; cases e
  | some y =>
    rw [h] at e
    have := posOf_first hm h
    cases e
    show ((y : Int) == (v : Int)) = false
    rw [beq_eq_false_iff_ne]
    omega
/-- a comprehension of ints over a range that draws -/
theorem lc_src {J : It} {n : Nat} {G : Hp → Prop} {Y : Nat → Hp → V → Hp → Prop} (w : Walk J n G Y) {g : TG} {te : TE} {vs : List Nat} {σ : L2.St} {H1 : Hp} {Q : Addr → Hp → Prop} {p : Addr} {b c : Nat} (hS : Src H1 p b) (good : Int → Prop)
    (hG : ∀ H', SameX p H1 H' → G H') (hn : n ≤ 1000)
    (hs : ∀ i x H H', i < n → SameX p H1 H → Src H p (b + c * i) → Y i H x H' → ∀ (K1 : V → Hp → Prop), (∀ d H4, SameX p H H4 → Src H4 p (b + c * i + c) → good d → K1 (.int d) H4) → g x (wipe σ vs) H' fun σ2 H2 => wipe σ2 vs = wipe σ vs ∧ te σ2 H2 K1)
    (hd : ∀ D (ds : List Int) H', H1 D = none → SameX p H1 H' → Src H' p (b + c * n) → H' D = some (.lst (ds.map V.int)) → ds.length = n → (∀ d ∈ ds, good d) → Q D H') :
    ∀ D, H1 D = none → ∃ W : Nat → Nat → Hp → Prop, (∃ m, W 0 m (upd H1 D (.lst []))) ∧ ∀ i m H, W i m H →
      (J.stop i H ∧ Q D H) ∨ (J.go i H ∧ ∃ Nx : Hp → Prop, (∀ H', Nx H' → ∃ m', m' < m ∧ W (i + 1) m' H') ∧ ∀ x H', J.yld i H x H' → g x (wipe σ vs) H' fun σ2 H2 => wipe σ2 vs = wipe σ vs ∧ tYes σ2 H2 fun b H3 =>
        if b = true then te σ2 H3 fun y H4 => ∃ acc, H4 D = some (.lst acc) ∧ acc.length < sizeLine ∧ Nx (upd H4 D (.lst (acc ++ [y]))) else Nx H3) := fun D hD => by
  obtain ⟨xs0, hp0⟩ := hS.some
  have dp : D ≠ p := fun e => ne_new hD hp0 e.symm
  refine lc_it w (Qd := fun H => Q D H) (fun i H => SameX p H1 H ∧ Src H p (b + c * i) ∧ ∃ ds : List Int, H D = some (.lst (ds.map V.int)) ∧ ds.length = i ∧ ∀ d ∈ ds, good d)
    ⟨SameX.mut SameX.refl hD, by rw [Nat.mul_zero]; exact hS.upd dp, [], upd_same, rfl, fun d h => by cases h⟩ (fun i H _ q => hG H q.1) (fun i x H H' hi q y => ?_) fun H q => ?_
  · obtain ⟨s1, S1, ds, h1, h2, h3⟩ := q
    refine hs i x H H' hi s1 S1 y _ ?_
    intro d H4 s4 S4 hg
    have h4 := s4 _ _ dp h1
    refine ⟨_, h4, small1000 (by rw [List.length_map]; omega), SameX.mut (s1.trans s4) hD, ?_, ds ++ [d], ?_, by rw [List.length_append, h2]; rfl, fun e he => ?_⟩
    · rw [Nat.mul_succ, ← Nat.add_assoc]
      exact S4.upd dp
    · rw [upd_same, List.map_append]
      rfl
    · rcases List.mem_append.mp he with he | he
      · exact h3 e he
      · rw [List.mem_singleton.mp he]
        exact hg
  · obtain ⟨s1, S1, ds, h1, h2, h3⟩ := q
    exact hd D ds H hD s1 S1 h1 h2 h3
/-! ### the plain problem, a dict -/
abbrev ks : Str := "size"
abbrev kl : Str := "links"
abbrev kf : Str := "floor"
abbrev kc : Str := "costs"
def pl4 (n l f c : V) : List (Key × V) := [(.inr ks, n), (.inr kl, l), (.inr kf, f), (.inr kc, c)]
theorem pl_s (n l f c : V) : valV (pl4 n l f c) (.inr ks) = some n := valV_pos rfl
theorem pl_l (n l f c : V) : valV (pl4 n l f c) (.inr kl) = some l := (valV_neg (fun z => absurd (Sum.inr.inj z) (by decide))).trans (valV_pos rfl)
theorem pl_f (n l f c : V) : valV (pl4 n l f c) (.inr kf) = some f := (valV_neg (fun z => absurd (Sum.inr.inj z) (by decide))).trans ((valV_neg (fun z => absurd (Sum.inr.inj z) (by decide))).trans (valV_pos rfl))
theorem pl_c (n l f c : V) : valV (pl4 n l f c) (.inr kc) = some c := (valV_neg (fun z => absurd (Sum.inr.inj z) (by decide))).trans ((valV_neg (fun z => absurd (Sum.inr.inj z) (by decide))).trans ((valV_neg (fun z => absurd (Sum.inr.inj z) (by decide))).trans (valV_pos rfl)))
theorem merge4 (n l f c : V) : mergeK [] (pl4 n l f c) = pl4 n l f c := by
  simp [mergeK, pl4, putK, (by decide : ¬ (ks = kl)), (by decide : ¬ (ks = kf)), (by decide : ¬ (ks = kc)), (by decide : ¬ (kl = kf)), (by decide : ¬ (kl = kc)), (by decide : ¬ (kf = kc))]
theorem merge3 (n l f : V) : mergeK [] [(.inr ks, n), (.inr kl, l), (.inr kf, f)] = [(.inr ks, n), (.inr kl, l), (.inr kf, f)] := by
  simp [mergeK, putK, (by decide : ¬ (ks = kl)), (by decide : ¬ (ks = kf)), (by decide : ¬ (kl = kf))]
theorem put_c (n l f c : V) : putK [(.inr ks, n), (.inr kl, l), (.inr kf, f)] (.inr kc) c = pl4 n l f c := by
  simp [putK, pl4, (by decide : ¬ (ks = kc)), (by decide : ¬ (kl = kc)), (by decide : ¬ (kf = kc))]
def Plain (H : Hp) (v : V) (n : Nat) (bs : List Bd) (lo : List Int) (ts : List Tm) : Prop := ∃ d vb vl vt, v = .ref d ∧ H d = some (.dK (pl4 (.int n) vb vl vt)) ∧ TuT bdV H vb bs ∧ Tp H vl (lo.map V.int) ∧ TuT tmV H vt ts
theorem Plain.same {H H' : Hp} {v : V} {n : Nat} {bs : List Bd} {lo : List Int} {ts : List Tm} (h : Plain H v n bs lo ts) (e : Same H H') : Plain H' v n bs lo ts := by
  obtain ⟨d, vb, vl, vt, h0, h1, h2, h3, h4⟩ := h
  exact ⟨d, vb, vl, vt, h0, e _ _ h1, h2.mono (TEx.of e), h3.mono (TEx.of e), h4.mono (TEx.of e)⟩
/-- another object may change -/
theorem Plain.x {H H' : Hp} {v : V} {p : Addr} {n : Nat} {bs : List Bd} {lo : List Int} {ts : List Tm} (h : Plain H v n bs lo ts) (e : SameX p H H') (hp : ∀ kvs, H p ≠ some (.dK kvs)) (ht : TEx H H') : Plain H' v n bs lo ts := by
  obtain ⟨d, vb, vl, vt, h0, h1, h2, h3, h4⟩ := h
  exact ⟨d, vb, vl, vt, h0, e _ _ (fun z => hp _ (by rw [← z]; exact h1)) h1, h2.mono ht, h3.mono ht, h4.mono ht⟩
end Dt
end

section
set_option Elab.async false
set_option linter.all false
set_option maxRecDepth 100000
set_option maxHeartbeats 4000000
/-! the drawn problem -/
namespace Dt
open PySem PySem.Spec PyProof.Rows L2
def bd7 (n : Nat) (os : List Nat) (b : Bd) : Prop := b.i < n ∧ b.j < n ∧ posOf os b.i < posOf os b.j ∧ 0 ≤ b.d ∧ b.d ≤ 7
def prD (d : Bd) : PyData := intD [(d.i : Int), (d.j : Int)]
def tm7 (n : Nat) (ls : List Bd) : Tm → Prop
  | .ln l => l.i < n ∧ l.j < n ∧ l.i ≠ l.j ∧ 1 ≤ l.w ∧ l.w ≤ 5 ∧ ∃ b ∈ ls, b.i = l.i ∧ b.j = l.j
  | .bn b => b.i < n ∧ b.j < n ∧ b.i ≠ b.j ∧ 1 ≤ b.w ∧ b.w ≤ 5 ∧ -7 ≤ b.k ∧ b.k ≤ 7
section
variable {P : Program} {w : World} {K : PySem.W.Frag} {mg : Str → Option Value} {base : Heap}
abbrev n_L_drawn_problem : List Str := ["_law_source_here", "_law_size", "_law_far", "_law_order", "_law_rest", "_law_links", "_law_costs", "_law_turn", "_law_i", "_law_j", "_law_pairs", "_law_floor_so", "_law_v", "_law_link"]
abbrev p_L_drawn_problem : List Str := ["_law_source_here", "_law_size", "_law_far"]
theorem sc_L_drawn_problem : FnScope n_L_drawn_problem p_L_drawn_problem (defScope s_L_drawn_problem) := ⟨rfl, rfl, rfl, by decide +kernel, rfl, by decide +kernel, by decide +kernel⟩
def sp_L_drawn_problem : Sp := fun vs H Q _ => ∃ (p : Addr) (n b : Nat), vs = [.ref p, .int n, .int 7] ∧ Src H p b ∧ 1 ≤ n ∧ n ≤ 4 ∧ b ≤ 1000000 ∧
  ∀ v H' bs lo ts, SameX p H H' → Src H' p (b + 200) → Plain H' v n bs lo ts → POk n bs lo ts → bs.length ≤ 8 → ts.length ≤ 8 → (∀ b ∈ bs, b.d ≤ 7) → Q v H'
theorem ok_L_drawn_problem {f : Addr} {fd : FuncData} (F : FunD K "_law_drawn_problem" "_law_drawn_problem" (defArgs s_L_drawn_problem) (defBody s_L_drawn_problem) (defScope s_L_drawn_problem) [] [] f fd) (T : Txt K mg) (C_L_next : Cal P w K mg base "_law_next" 1 p_L_next sp_L_next) (C_L_pair_drawn : Cal P w K mg base "_law_pair_drawn" 2 p_L_pair_drawn sp_L_pair_drawn) : FnOk P w K mg base CX0 3 f fd p_L_drawn_problem sp_L_drawn_problem := by
  refine ok_by F sc_L_drawn_problem (fun vs H Q E h => ?_) (fun cdv A outer s H vs Q E hr h => ?_)
  · obtain ⟨p, n, b, rfl, _⟩ := h
    rfl
  · obtain ⟨p, n, b, rfl, hS, n1, n4, hb, k⟩ := h
    refine ⟨_, (pss_cons (ps_par (i := 3) (j := 4) (by rfl) sc_L_drawn_problem.nd rfl rfl (by decide) rfl rfl (pa_cons (pe_lst pa_nil) (pa_cons (pe_listRg rfl rfl T.list (prg_1 rfl T.range (pv 1))) pa_nil)) (by rfl))
      (pss_cons (ps_while PassesOwn.never (pt_cmpR (op_neD hr.units) (pv 4) (pe_lst pa_nil) (nomark _))
        (pss_one (ps_expr (pe_bm PySem.F.plainAttrs_list PySem.F.slot_list_append PySem.F.type_list_append mt_append (pv 3) (pa_cons (pe_bm PySem.F.plainAttrs_list PySem.F.slot_list_pop PySem.F.type_list_pop mt_popAt (pv 4) (pa_cons (pe_cal C_L_next hr (by decide) (pa_cons (pv 0) (pa_cons (pe_callB call_len_seq (by rfl) T.len (by decide +kernel) (pa_cons (pv 4) pa_nil)) pa_nil))) pa_nil)) pa_nil)))))
      (pss_cons (ps_par (i := 5) (j := 6) (by rfl) sc_L_drawn_problem.nd rfl rfl (by decide) rfl rfl (pa_cons (pe_lst pa_nil) (pa_cons (pe_lst pa_nil) pa_nil)) (by rfl))
      (pss_cons (ps_for PassesOwn.never rfl (pi_range1 (by rfl) T.range (pa_cons (pe_ifExp (pt_cmpR op_gt (pv 1) pe_int (nomark _)) (pe_cal C_L_next hr (by decide) (pa_cons (pv 0) (pa_cons (pe_op op_mul pe_int (pv 1)) pa_nil))) pe_int) pa_nil)) (pg_name (i := 7) sc_L_drawn_problem.nd rfl (Or.inl rfl))
        (pss_cons (ps_asg (pe_cal C_L_pair_drawn hr (by decide) (pa_cons (pv 0) (pa_cons (pv 1) pa_nil))) (pg_tupK K 2 rfl (pgs_cons (pg_name (i := 8) sc_L_drawn_problem.nd rfl (Or.inl rfl)) (pgs_cons (pg_name (i := 9) sc_L_drawn_problem.nd rfl (Or.inl rfl)) pgs_nil))))
        (pss_cons (ps_if (pt_cmpR op_gt (pe_bm PySem.F.plainAttrs_list PySem.F.slot_list_index PySem.F.type_list_index mt_index (pv 3) (pa_cons (pv 8) pa_nil)) (pe_bm PySem.F.plainAttrs_list PySem.F.slot_list_index PySem.F.type_list_index mt_index (pv 3) (pa_cons (pv 9) pa_nil)) (nomark _)) (pss_one (ps_par (i := 8) (j := 9) (by rfl) sc_L_drawn_problem.nd rfl rfl (by decide) rfl rfl (pa_cons (pv 9) (pa_cons (pv 8) pa_nil)) (by rfl))) pss_nil)
        (pss_one (ps_expr (pe_bm PySem.F.plainAttrs_list PySem.F.slot_list_append PySem.F.type_list_append mt_append (pv 5) (pa_cons (pe_tup (pa_cons (pv 8) (pa_cons (pv 9) (pa_cons (pe_cal C_L_next hr (by decide) (pa_cons (pv 0) (pa_cons (pe_op op_add (pv 2) pe_int) pa_nil))) pa_nil)))) pa_nil)))))))
      (pss_cons (ps_for PassesOwn.never rfl (pi_range1 (by rfl) T.range (pa_cons (pe_ifExp (pt_cmpR op_gt (pv 1) pe_int (nomark _)) (pe_cal C_L_next hr (by decide) (pa_cons (pv 0) (pa_cons (pe_op op_mul pe_int (pv 1)) pa_nil))) pe_int) pa_nil)) (pg_name (i := 7) sc_L_drawn_problem.nd rfl (Or.inl rfl))
        (pss_cons (ps_asg (pe_cal C_L_pair_drawn hr (by decide) (pa_cons (pv 0) (pa_cons (pv 1) pa_nil))) (pg_tupK K 2 rfl (pgs_cons (pg_name (i := 8) sc_L_drawn_problem.nd rfl (Or.inl rfl)) (pgs_cons (pg_name (i := 9) sc_L_drawn_problem.nd rfl (Or.inl rfl)) pgs_nil))))
        (pss_cons (ps_setLc (i := 10) (own := [("_law_link", 13)]) (by rfl) sc_L_drawn_problem.nd rfl rfl (sw_true rfl rfl rfl (by decide +kernel)) (pi_list (pv 5)) (blkOk_by (own := [("_law_link", 13)]) (N := n_L_drawn_problem) (sc := defScope s_L_drawn_problem) (by decide +kernel)) (fun _ _ _ _ _ => (pg_name (i := 13) sc_L_drawn_problem.nd rfl (Or.inl rfl))) (fun _ _ _ _ _ => pts_nil) (fun _ _ _ _ _ => (pe_slice (sl_tupK K) (pv 13) po_none (po_some pe_int))))
        (pss_one (ps_if (PW.pt (pw_and (pt_cmpR (op_inDK K hr) (pe_tup (pa_cons (pv 8) (pa_cons (pv 9) pa_nil))) (pv 10) (by rfl)) (pw_and1 (pt_cmpR op_gt (pe_cal C_L_next hr (by decide) (pa_cons (pv 0) (pa_cons pe_int pa_nil))) pe_int (nomark _))))) (pss_one (ps_expr (pe_bm PySem.F.plainAttrs_list PySem.F.slot_list_append PySem.F.type_list_append mt_append (pv 6) (pa_cons (pe_tup (pa_cons pe_str (pa_cons (pv 8) (pa_cons (pv 9) (pa_cons (pe_op op_add pe_int (pe_cal C_L_next hr (by decide) (pa_cons (pv 0) (pa_cons pe_int pa_nil)))) pa_nil))))) pa_nil)))) (pss_one (ps_if (PW.pt (pw_and (pt_cmpR (op_neD hr.units) (pv 10) (pe_lst pa_nil) (nomark _)) (pw_and1 (pt_cmpR op_eq (pe_cal C_L_next hr (by decide) (pa_cons (pv 0) (pa_cons pe_int pa_nil))) pe_int (nomark _))))) (pss_one (ps_expr (pe_bm PySem.F.plainAttrs_list PySem.F.slot_list_append PySem.F.type_list_append mt_append (pv 6) (pa_cons (pe_op op_catT (pe_op op_catT (pe_tup (pa_cons pe_str pa_nil)) (pe_ix (ix_listK K) (pv 10) (pe_cal C_L_next hr (by decide) (pa_cons (pv 0) (pa_cons (pe_callB call_len_seq (by rfl) T.len (by decide +kernel) (pa_cons (pv 10) pa_nil)) pa_nil))) (fun _ _ => rfl))) (pe_tup (pa_cons (pe_op op_add pe_int (pe_cal C_L_next hr (by decide) (pa_cons (pv 0) (pa_cons pe_int pa_nil)))) pa_nil))) pa_nil)))) (pss_one (ps_expr (pe_bm PySem.F.plainAttrs_list PySem.F.slot_list_append PySem.F.type_list_append mt_append (pv 6) (pa_cons (pe_tup (pa_cons pe_str (pa_cons (pv 8) (pa_cons (pv 9) (pa_cons (pe_op op_sub (pe_cal C_L_next hr (by decide) (pa_cons (pv 0) (pa_cons (pe_op op_add (pe_op op_mul pe_int (pv 2)) pe_int) pa_nil))) (pv 2)) (pa_cons (pe_op op_add pe_int (pe_cal C_L_next hr (by decide) (pa_cons (pv 0) (pa_cons pe_int pa_nil)))) pa_nil)))))) pa_nil)))))))))))
      (pss_cons (ps_setLc (i := 11) (own := [("_law_v", 12)]) (by rfl) sc_L_drawn_problem.nd rfl rfl (sw_true rfl rfl rfl (by decide +kernel)) (pi_range1 (by rfl) T.range (pa_cons (pv 1) pa_nil)) (blkOk_by (own := [("_law_v", 12)]) (N := n_L_drawn_problem) (sc := defScope s_L_drawn_problem) (by decide +kernel)) (fun _ _ _ _ _ => (pg_name (i := 12) sc_L_drawn_problem.nd rfl (Or.inl rfl))) (fun _ _ _ _ _ => pts_nil) (fun _ _ _ _ _ => (pe_ifExp (pt_cmpR op_eq (pe_cal C_L_next hr (by decide) (pa_cons (pv 0) (pa_cons pe_int pa_nil))) pe_int (nomark _)) (pe_cal C_L_next hr (by decide) (pa_cons (pv 0) (pa_cons (pe_op op_add (pv 2) pe_int) pa_nil))) pe_int)))
      (pss_one (ps_ret (pe_disp (pps_cons pe_str (pv 1) (pps_cons pe_str (pe_callTy call_tuple_of (by rfl) T.tuple (by decide +kernel) (pa_cons (pv 5) pa_nil)) (pps_cons pe_str (pe_callTy call_tuple_of (by rfl) T.tuple (by decide +kernel) (pa_cons (pv 11) pa_nil)) (pps_cons pe_str (pe_callTy call_tuple_of (by rfl) T.tuple (by decide +kernel) (pa_cons (pv 6) pa_nil)) pps_nil)))) (by rfl) (by rfl) (fun z => by cases z) (by decide)))))))))), ?_⟩
    obtain ⟨xs0, hp0⟩ := hS.some
    refine ⟨(by show 0 ≤ sizeLine; exact Nat.zero_le _), fun qo nqo => ?_⟩
    have s1 : Same H (upd H qo (.lst [])) := same_new nqo
    have hqo1 : upd H qo (.lst []) qo = some (.lst []) := upd_same
    generalize upd H qo (.lst []) = H1 at *
    refine ⟨_, rfl, n, rfl, RgOk.of_le (by omega) (by omega) (by omega) (by omega), fun qr nqr => ?_⟩
    have s2 : Same H1 (upd H1 qr (.lst (rgV 0 n))) := same_new nqr
    have hqr2 : upd H1 qr (.lst (rgV 0 n)) qr = some (.lst ((toI (List.range n)).map V.int)) := by
      rw [upd_same, rgV_nats]
      rfl
    have hqo2 := s2 _ _ hqo1
    have s12 := s1.trans s2
    generalize upd H1 qr (.lst (rgV 0 n)) = H2 at *
    refine ⟨_, _, rfl, ?_⟩
    have dor : qo ≠ qr := ne_new nqr hqo1
    have nqrH := fresh_of s1 nqr
    have dpo : p ≠ qo := ne_new nqo hp0
    have dpr : p ≠ qr := ne_new nqrH hp0
    have S2 := hS.same s12
    -- the order
    let J : Nat → List (Option V) → Hp → Prop := fun m σ H' => ∃ (os rs : List Nat), σ = [some (.ref p), some (.int n), some (.int 7), some (.ref qo), some (.ref qr), none, none, none, none, none, none, none, none, none] ∧ SameX p H H' ∧ Src H' p (b + os.length) ∧
      H' qo = some (.lst ((toI os).map V.int)) ∧ H' qr = some (.lst ((toI rs).map V.int)) ∧ (os ++ rs).Perm (List.range n) ∧ m = rs.length
    refine ⟨J, ⟨_, [], List.range n, rfl, SameX.of s12, S2, hqo2, hqr2, List.Perm.refl _, rfl⟩, ?_⟩
    rintro m σ H3 ⟨os, rs, rfl, s3, S3, hqo, hqr, hperm, rfl⟩
    have hlen : os.length + rs.length = n := by
      have := hperm.length_eq
      rw [List.length_append, List.length_range] at this
      exact this
    refine ⟨_, rfl, (by show 0 ≤ sizeLine; exact Nat.zero_le _), fun q nq => ?_⟩
    have s4 : Same H3 (upd H3 q (.lst [])) := same_new nq
    refine ⟨.list ((toI rs).map PyData.int), .list [], .lst (SqL.of (s4 _ _ hqr)) (intD_dp (toI rs)), .lst (SqL.of upd_same) .nil, intL_shaped (toI rs), rfl, ?_⟩
    rw [eqv_nil]
    refine ⟨_, rfl, ?_⟩
    have hqo4 := s4 _ _ hqo
    have hqr4 := s4 _ _ hqr
    have S4 := S3.same s4
    have s34 := s3.trans (SameX.of (a := p) s4)
    generalize upd H3 q (.lst []) = H4 at *
    cases hrs : rs with
    | cons v0 r0 =>
      refine iteT ?_
      have hpos : 0 < rs.length := by rw [hrs]; simp
      rw [← hrs]
      refine ⟨fun σ' H' => ∃ m', m' < rs.length ∧ J m' σ' H', fun σ' H' h => h, ?_⟩
      refine ⟨_, rfl, Or.inl ⟨rfl, _, SqL.of hqo4⟩, _, rfl, Or.inl ⟨rfl, _, SqL.of hqr4⟩, _, rfl, _, rfl, qr, _, rfl, .inl (SqL.of hqr4), p, rs.length, b + os.length, by rw [toI_len]; rfl, S4, hpos, by omega, by omega, fun r H5 s5 S5 hr5 => ?_⟩
      obtain ⟨v, hv⟩ : ∃ v, rs[r]? = some v := ⟨_, List.getElem?_eq_getElem hr5⟩
      have hqo5 := s5 _ _ (fun e => dpo e.symm) hqo4
      have hqr5 := s5 _ _ (fun e => dpr e.symm) hqr4
      refine ⟨qr, _, _, r, _, rfl, rfl, hqr5, by omega, by omega, (ixN_seq (ix_nat (by rw [toI_len]; exact hr5))).1, toI_at hv, ?_⟩
      refine ⟨qo, _, _, rfl, rfl, (by rw [upd_ne dor]; exact hqo5), small1000 (by rw [toI_len]; omega), ?_⟩
      have eo : (toI os).map V.int ++ [V.int v] = (toI (os ++ [v])).map V.int := by simp [toI]
      have er : ((toI rs).map V.int).eraseIdx r = (toI (rs.eraseIdx r)).map V.int := by
        unfold toI
        rw [List.map_map, List.map_map, erase_map]
      have hel : (rs.eraseIdx r).length = rs.length - 1 := List.length_eraseIdx_of_lt hr5
      refine ⟨(rs.eraseIdx r).length, by omega, os ++ [v], rs.eraseIdx r, rfl, SameX.mut (SameX.mut (s34.trans s5) nqrH) nqo, ?_, by rw [upd_same, eo], by rw [upd_ne (fun e => dor e.symm), upd_same, er], ?_, rfl⟩
      · rw [List.length_append, List.length_singleton, ← Nat.add_assoc]
        exact (S5.upd (fun e => dpr e.symm)).upd (fun e => dpo e.symm)
      · rw [List.append_assoc]
        exact ((erase_perm hv).append_left os).trans hperm
    | nil =>
      refine iteF ?_
      rw [hrs] at hperm hlen
      rw [List.append_nil] at hperm
      have ol : os.length = n := by simpa using hlen
      have omem : ∀ v, v < n → v ∈ os := fun v hv => hperm.symm.subset (List.mem_range.mpr hv)
      have ord : ∀ i j, i < n → j < n → i ≠ j → posOf os i < posOf os j ∨ posOf os j < posOf os i := fun i j hi hj hij => by
        have hne : posOf os i ≠ posOf os j := fun e => hij (posOf_inj (omem i hi) (omem j hj) e)
        omega
      clear hqr4 hqr hqr2 S3 hqo hqo2 hqo1 s4 nq S2 nqr
      rw [ol] at S4
      -- links, costs
      refine ⟨(by show 0 ≤ sizeLine; exact Nat.zero_le _), fun ql nql => ?_⟩
      have s5 : Same H4 (upd H4 ql (.lst [])) := same_new nql
      have hql5 : upd H4 ql (.lst []) ql = some (.lst []) := upd_same
      have hqo5 := s5 _ _ hqo4
      have S5 := S4.same s5
      have s35 := s34.trans (SameX.of (a := p) s5)
      have dol : qo ≠ ql := ne_new nql hqo4
      generalize upd H4 ql (.lst []) = H5 at *
      refine ⟨(by show 0 ≤ sizeLine; exact Nat.zero_le _), fun qc nqc => ?_⟩
      have s6 : Same H5 (upd H5 qc (.lst [])) := same_new nqc
      have hqc6 : upd H5 qc (.lst []) qc = some (.lst []) := upd_same
      have hqo6 := s6 _ _ hqo5
      have hql6 := s6 _ _ hql5
      have S6 := S5.same s6
      have s36 := s35.trans (SameX.of (a := p) s6)
      have doc : qo ≠ qc := ne_new nqc hqo5
      have dlc : ql ≠ qc := ne_new nqc hql5
      have dpl : p ≠ ql := by obtain ⟨_, e⟩ := S4.some; exact ne_new nql e
      have dpc : p ≠ qc := by obtain ⟨_, e⟩ := S5.some; exact ne_new nqc e
      have nqlH : H ql = none := by
        cases e : H ql with
        | none => rfl
        | some o => rw [s34 _ _ (fun z => dpl z.symm) e] at nql; cases nql
      have nqcH : H qc = none := by
        cases e : H qc with
        | none => rfl
        | some o => rw [s35 _ _ (fun z => dpc z.symm) e] at nqc; cases nqc
      generalize upd H5 qc (.lst []) = H6 at *
      refine ⟨_, _, rfl, ?_⟩
      have draws : ∀ (σ : L2.St) (Ha : Hp) (bb : Nat), σ[0]? = some (some (.ref p)) → σ[1]? = some (some (.int n)) → Src Ha p bb → bb ≤ 2000000 → ∀ Q' : VK, (∀ v H', (∃ r : Nat, v = .int r ∧ SameX p Ha H' ∧ Src H' p (bb + 1) ∧ r ≤ 8 ∧ (1 < n ∨ r = 0)) → Q' v H') →
          tIf (tTest (tOp (rI0 fun i j => .bl (decide (j < i))) (tVar 1) (tC (.int 1)))) (tCall sp_L_next [] E0 (tCons (tVar 0) (tCons (tOp (rI CMul fun i j => .int (i * j)) (tC (.int 2)) (tVar 1)) tNil))) (tC (.int 0)) σ Ha Q' := fun σ Ha bb e0 e1 S hbb Q' hQ => by
        refine ⟨_, e1, _, _, rfl, rfl, _, rfl, ?_⟩
        by_cases hn : 1 < (n : Int)
        · refine iteD hn ?_
          have em : (2 : Int) * (n : Int) = ((2 * n : Nat) : Int) := by omega
          refine ⟨_, e0, _, e1, _, _, rfl, rfl, mul_ok (by omega) (by omega), p, 2 * n, bb, by show [V.ref p, V.int ((2 : Int) * (n : Int))] = _; rw [em], S, by omega, by omega, by omega, fun r H' s' S' hr' => ?_⟩
          exact hQ _ _ ⟨r, rfl, s', S', by omega, .inl (by omega)⟩
        · refine iteN hn ?_
          exact hQ _ _ ⟨0, rfl, SameX.refl, S.up (by omega), by omega, .inr rfl⟩
      -- the links
      refine te_cut (te := tIf _ _ _) (fun v H' => ∃ r : Nat, v = .int r ∧ SameX p H6 H' ∧ Src H' p (b + n + 1) ∧ r ≤ 8 ∧ (1 < n ∨ r = 0)) (draws _ H6 (b + n) rfl rfl S6 (by omega)) ?_
      rintro v H7 ⟨r1, rfl, s7, S7, hr8, hr1⟩
      refine ⟨r1, rfl, by omega, by omega, ?_⟩
      have hqo7 := s7 _ _ (fun e => dpo e.symm) hqo6
      have hql7 := s7 _ _ (fun e => dpl e.symm) hql6
      have hqc7 := s7 _ _ (fun e => dpc e.symm) hqc6
      have s37 := s36.trans s7
      refine for_it (walk_range (lo := 0) (n := r1)) (fun i σ H' => ∃ (x7 x8 x9 : Option V) (ls : List Bd) (ul : List V), σ = [some (.ref p), some (.int n), some (.int 7), some (.ref qo), some (.ref qr), some (.ref ql), some (.ref qc), x7, x8, x9, none, none, none, none] ∧ SameX p H H' ∧ Src H' p (b + n + 1 + 3 * i) ∧
          H' qo = some (.lst ((toI os).map V.int)) ∧ H' ql = some (.lst ul) ∧ Tps bdV H' ul ls ∧ H' qc = some (.lst []) ∧ ls.length ≤ i ∧ ∀ b ∈ ls, bd7 n os b)
        ⟨none, none, none, [], [], rfl, s37, S7, hqo7, hql7, Rep.nil, hqc7, Nat.le_refl _, fun b h => by cases h⟩ (fun i σ H' _ p => trivial) (fun i x σ H8 H9 hi q y => ?_) (fun σ H8 q => ?_)
      · obtain ⟨x7, x8, x9, ls, ul, rfl, s8, S8, hqo8, hql8, hR8, hqc8, hll, hok⟩ := q
        obtain ⟨rfl, hx⟩ := y
        have ex : x = V.int (i : Nat) := hx.trans (congrArg V.int (Int.zero_add _))
        rw [ex]
        have n2 : 1 < n := by
          rcases hr1 with h | h
          · exact h
          · omega
        refine ⟨_, rfl, _, rfl, p, n, _, rfl, S8, n2, by omega, by omega, fun qp i0 j0 H10 s10 S10 hqp hi0 hj0 hij => ?_⟩
        refine ⟨qp, _, rfl, SqT.of hqp, rfl, .int i0, _, rfl, .int j0, _, rfl, rfl, ?_⟩
        have hqo10 := s10 _ _ (fun e => dpo e.symm) hqo8
        have hql10 := s10 _ _ (fun e => dpl e.symm) hql8
        have hqc10 := s10 _ _ (fun e => dpc e.symm) hqc8
        have hR10 := Tps.mono (S8.tex s10) hR8
        have s810 := s8.trans s10
        dsimp only
        refine seq_cut (fun σ' H' => H' = H10 ∧ ∃ i1 j1 : Nat, i1 < n ∧ j1 < n ∧ posOf os i1 < posOf os j1 ∧ σ' = [some (.ref p), some (.int n), some (.int 7), some (.ref qo), some (.ref qr), some (.ref ql), some (.ref qc), some (.int (i : Nat)), some (.int i1), some (.int j1), none, none, none, none]) (fun Dn hn => ?_) ?_
        · refine ⟨_, rfl, Or.inl ⟨rfl, _, SqL.of hqo10⟩, _, rfl, qo, _, .int i0, posOf os i0, .int i0, rfl, rfl, SqL.of hqo10, rfl, flat_ints _, toI_at (posOf_at (omem i0 hi0)), (by show ((i0 : Int) == (i0 : Int)) = true; exact beq_self_eq_true _), index_first, ?_⟩
          refine ⟨_, rfl, Or.inl ⟨rfl, _, SqL.of hqo10⟩, _, rfl, qo, _, .int j0, posOf os j0, .int j0, rfl, rfl, SqL.of hqo10, rfl, flat_ints _, toI_at (posOf_at (omem j0 hj0)), (by show ((j0 : Int) == (j0 : Int)) = true; exact beq_self_eq_true _), index_first, _, _, rfl, rfl, _, rfl, ?_⟩
          by_cases hgt : ((posOf os j0 : Nat) : Int) < ((posOf os i0 : Nat) : Int)
          · refine iteD hgt ?_
            refine ⟨_, rfl, _, rfl, _, _, rfl, ?_⟩
            exact hn _ _ ⟨rfl, j0, i0, hj0, hi0, by omega, rfl⟩
          · refine iteN hgt ?_
            exact hn _ _ ⟨rfl, i0, j0, hi0, hj0, by rcases ord i0 j0 hi0 hj0 hij with h | h <;> omega, rfl⟩
        · rintro σ' H' ⟨rfl, i1, j1, hi1, hj1, hrk, rfl⟩
          refine ⟨_, rfl, Or.inl ⟨rfl, _, SqL.of hql10⟩, _, rfl, _, rfl, _, rfl, _, rfl, _, _, rfl, rfl, p, 8, _, rfl, S10, by omega, by omega, by omega, fun d H11 s11 S11 hd => ?_⟩
          refine ⟨(by show 3 ≤ sizeLine; decide), fun t nt => ?_⟩
          have hql11 := s11 _ _ (fun e => dpl e.symm) hql10
          have s12 : Same H11 (upd H11 t (.tup [.int i1, .int j1, .int (d : Nat)])) := same_new nt
          have hql12 := s12 _ _ hql11
          refine ⟨ql, _, _, rfl, rfl, hql12, small1000 (by rw [hR8.len]; omega), ?_⟩
          have tx : TEx (upd H11 t (.tup [.int i1, .int j1, .int (d : Nat)])) (upd (upd H11 t (.tup [.int i1, .int j1, .int (d : Nat)])) ql (.lst (ul ++ [.ref t]))) := TEx.lst hql12
          refine ⟨some (.int (i : Nat)), some (.int i1), some (.int j1), ls ++ [⟨i1, j1, d⟩], ul ++ [.ref t], rfl, SameX.mut ((s810.trans s11).trans (SameX.of s12)) nqlH, ?_, ?_, upd_same, ?_, ?_, by rw [List.length_append, List.length_singleton]; omega, fun c hc => ?_⟩
          · exact ((S11.same s12).upd (fun e => dpl e.symm)).up (by omega)
          · rw [upd_ne dol]
            exact s12 _ _ (s11 _ _ (fun e => dpo e.symm) hqo10)
          · exact Rep.snoc (Tps.mono (((S10.tex s11).trans (TEx.of s12)).trans tx) hR10) ⟨t, rfl, tx _ _ upd_same⟩
          · rw [upd_ne (fun e => dlc e.symm)]
            exact s12 _ _ (s11 _ _ (fun e => dpc e.symm) hqc10)
          · rcases List.mem_append.mp hc with hc | hc
            · exact hok c hc
            · rw [List.mem_singleton.mp hc]
              exact ⟨hi1, hj1, hrk, by show (0 : Int) ≤ (d : Int); omega, by show (d : Int) ≤ 7; omega⟩
      · obtain ⟨x7, x8, x9, ls, ul, rfl, s8, S8, hqo8, hql8, hR8, hqc8, hll, hok⟩ := q
        have hS8' : Src H8 p (b + n + 1 + 24) := S8.up (by omega)
        have hll8 : ls.length ≤ 8 := by omega
        refine te_cut (te := tIf _ _ _) (fun v H' => ∃ r : Nat, v = .int r ∧ SameX p H8 H' ∧ Src H' p (b + n + 1 + 24 + 1) ∧ r ≤ 8 ∧ (1 < n ∨ r = 0)) (draws _ H8 (b + n + 1 + 24) rfl rfl hS8' (by omega)) ?_
        rintro v H9 ⟨r2, rfl, s9, S9, hr28, hr2⟩
        refine ⟨r2, rfl, by omega, by omega, ?_⟩
        have hqo9 := s9 _ _ (fun e => dpo e.symm) hqo8
        have hql9 := s9 _ _ (fun e => dpl e.symm) hql8
        have hqc9 := s9 _ _ (fun e => dpc e.symm) hqc8
        have hR9 := Tps.mono (S8.tex s9) hR8
        have s89 := s8.trans s9
        refine for_it (walk_range (lo := 0) (n := r2)) (fun i σ H' => ∃ (x7 x8 x9 x10 : Option V) (ts : List Tm) (uc : List V), σ = [some (.ref p), some (.int n), some (.int 7), some (.ref qo), some (.ref qr), some (.ref ql), some (.ref qc), x7, x8, x9, x10, none, none, none] ∧ SameX p H H' ∧ Src H' p (b + n + 26 + 6 * i) ∧
            H' ql = some (.lst ul) ∧ Tps bdV H' ul ls ∧ H' qc = some (.lst uc) ∧ Tps tmV H' uc ts ∧ ts.length ≤ i ∧ ∀ t ∈ ts, tm7 n ls t)
          ⟨x7, x8, x9, none, [], [], rfl, s89, S9.up (by omega), hql9, hR9, hqc9, Rep.nil, Nat.le_refl _, fun b h => by cases h⟩ (fun i σ H' _ p => trivial) (fun i x σ H10 H11 hi q y => ?_) (fun σ H10 q => ?_)
        · clear hqo9 hql9 hqc9 hR9 hqo8 hql8 hqc8 hR8 hql7 hqc7 hqo7 x7 x8 x9
          obtain ⟨x7, x8, x9, x10, ts, uc, rfl, s10, S10, hql, hRl, hqc, hRc, htl, htok⟩ := q
          obtain ⟨rfl, hx⟩ := y
          have ex : x = V.int (i : Nat) := hx.trans (congrArg V.int (Int.zero_add _))
          rw [ex]
          have n2 : 1 < n := by
            rcases hr2 with h | h
            · exact h
            · omega
          refine ⟨_, rfl, _, rfl, p, n, _, rfl, S10, n2, by omega, by omega, fun qp i0 j0 H12 s12 S12 hqp hi0 hj0 hij => ?_⟩
          refine ⟨qp, _, rfl, SqT.of hqp, rfl, .int i0, _, rfl, .int j0, _, rfl, rfl, ?_⟩
          have hql12 := s12 _ _ (fun e => dpl e.symm) hql
          have hqc12 := s12 _ _ (fun e => dpc e.symm) hqc
          have hRl12 := Tps.mono (S10.tex s12) hRl
          have hRc12 := Tps.mono (S10.tex s12) hRc
          -- pairs
          refine ⟨_, rfl, ql, rfl, ⟨_, SqL.of hql12⟩, ?_⟩
          refine lc_rep (walk_list (K := K) (a := ql) (xs := ul)) (δ := Bd) (fun H v d => Tp H v [.int d.i, .int d.j]) (fun _ _ _ _ e h => h.mono e) (fun H' s => s.seq (SqL.of hql12))
            (fun i => ls[i]?) (by rw [hRl.len]; omega) (fun i x H2 H3 hi s2 y K1 K0 h1 h0 => ?_) (fun q2 ys H13 nq2 s13 hq2 hR2 => ?_)
          · obtain ⟨rfl, hx⟩ := y
            obtain ⟨bd, hbd, e, rfl, he⟩ := hRl12.at_ i x hx
            have he2 := s2 _ _ he
            refine ⟨rfl, tyes ?_⟩
            refine ⟨_, rfl, 2, rfl, e, _, rfl, SqT.of he2, fun z => absurd z.2 (show ¬ (HT.sIx 3 3 (some 2) = 3) by decide), fun c nc => ?_⟩
            exact h1 _ bd _ (same_new nc) hbd ⟨c, rfl, upd_same⟩
          rw [hRl.len, at_all] at hR2
          have hql13 := s13 _ _ hql12
          have hqc13 := s13 _ _ hqc12
          have hRl13 := Tps.mono (TEx.of s13) hRl12
          have hRc13 := Tps.mono (TEx.of s13) hRc12
          have S13 := S12.same s13
          have s1013 := s12.trans (SameX.of (a := p) s13)
          have dpq2 : q2 ≠ p := fun e => by
            obtain ⟨_, z⟩ := S12.some
            exact ne_new nq2 z e.symm
          -- what the heap keeps through further draws
          have keep : ∀ H', SameX p H13 H' → Src H' p (b + n + 26 + 6 * i + 6) → H' ql = some (.lst ul) ∧ H' qc = some (.lst uc) ∧ Tps bdV H' ul ls ∧ Tps tmV H' uc ts ∧ H' q2 = some (.lst ys) ∧ Rep (fun v (d : Bd) => Tp H' v [.int d.i, .int d.j]) ys ls ∧ SameX p H H' := fun H' s _ =>
            ⟨s _ _ (fun e => dpl e.symm) hql13, s _ _ (fun e => dpc e.symm) hqc13, Tps.mono (S13.tex s) hRl13, Tps.mono (S13.tex s) hRc13, s _ _ dpq2 hq2, Rep.mono hR2 fun v d h => h.mono (S13.tex s), (s10.trans s1013).trans s⟩
          -- the new term
          have push : ∀ (H' : Hp) (t : Addr) (tm : Tm), SameX p H13 H' → Src H' p (b + n + 26 + 6 * i + 6) → H' t = some (.tup (tmV tm)) → tm7 n ls tm → 
              (fun σ H' => ∃ (x7 x8 x9 x10 : Option V) (ts : List Tm) (uc : List V), σ = [some (.ref p), some (.int n), some (.int 7), some (.ref qo), some (.ref qr), some (.ref ql), some (.ref qc), x7, x8, x9, x10, none, none, none] ∧ SameX p H H' ∧ Src H' p (b + n + 26 + 6 * (i + 1)) ∧
                H' ql = some (.lst ul) ∧ Tps bdV H' ul ls ∧ H' qc = some (.lst uc) ∧ Tps tmV H' uc ts ∧ ts.length ≤ i + 1 ∧ ∀ t ∈ ts, tm7 n ls t)
              [some (.ref p), some (.int n), some (.int 7), some (.ref qo), some (.ref qr), some (.ref ql), some (.ref qc), some (.int (i : Nat)), some (.int i0), some (.int j0), some (.ref q2), none, none, none] (upd H' qc (.lst (uc ++ [.ref t]))) := fun H' t tm s S ht hok => by
            obtain ⟨k1, k2, k3, k4, k5, k6, k7⟩ := keep H' s S
            have tx : TEx H' (upd H' qc (.lst (uc ++ [.ref t]))) := TEx.lst k2
            refine ⟨_, _, _, _, ts ++ [tm], uc ++ [.ref t], rfl, SameX.mut k7 nqcH, (S.upd (fun e => dpc e.symm)).up (by omega), by rw [upd_ne dlc]; exact k1, Tps.mono tx k3, upd_same, Rep.snoc (Tps.mono tx k4) ⟨t, rfl, tx _ _ ht⟩, by rw [List.length_append, List.length_singleton]; omega, fun c hc => ?_⟩
            rcases List.mem_append.mp hc with hc | hc
            · exact htok c hc
            · rw [List.mem_singleton.mp hc]
              exact hok
          have ucl : uc.length ≤ 8 := by rw [hRc.len]; omega
          dsimp only
          refine ifs_cut (fun bb H' => SameX p H13 H' ∧ Src H' p (b + n + 26 + 6 * i + 3) ∧ (bb = true → ∃ c ∈ ls, c.i = i0 ∧ c.j = j0)) (fun Q' hQ => ?_) (fun H14 r => ?_) (fun H14 r => ?_)
          · refine ⟨_, rfl, _, rfl, (by show 2 ≤ sizeLine; decide), fun t nt => ?_⟩
            have s14 : Same H13 (upd H13 t (.tup [.int i0, .int j0])) := same_new nt
            have hR3 : Rep (fun v (d : Bd) => Dp K (upd H13 t (.tup [.int i0, .int j0])) v (intD [(d.i : Int), (d.j : Int)])) ys ls := Rep.mono hR2 fun v d hv => by
              obtain ⟨a, rfl, ha⟩ := hv
              exact .tup (SqT.of (s14 _ _ ha)) (intD_dp [(d.i : Int), (d.j : Int)])
            refine ⟨_, rfl, intD [(i0 : Int), (j0 : Int)], ls.map (fun d => intD [(d.i : Int), (d.j : Int)]), .tup (SqT.of upd_same) (intD_dp [(i0 : Int), (j0 : Int)]), .lst (SqL.of (s14 _ _ hq2)) (dpAll_of (fun d : Bd => intD [(d.i : Int), (d.j : Int)]) hR3), intD_shaped _, intDs_shaped _ _, _, rfl, ?_⟩
            have S14 := S13.same s14
            cases hany : ((ls.map (fun d => intD [(d.i : Int), (d.j : Int)])).any fun z => PyData.eqv z (intD [(i0 : Int), (j0 : Int)])) with
            | false =>
              refine iteF ?_
              exact hQ _ _ ⟨SameX.of s14, S14.up (by omega), fun z => by cases z⟩
            | true =>
              refine iteT ?_
              refine ⟨_, rfl, p, 3, _, rfl, S14, by omega, by omega, by omega, fun r H15 s15 S15 hr => ?_⟩
              refine ⟨_, _, rfl, rfl, _, rfl, ?_⟩
              refine hQ _ _ ⟨(SameX.of s14).trans s15, S15.up (by omega), fun _ => ?_⟩
              obtain ⟨z, hz, e⟩ := List.any_eq_true.mp hany
              obtain ⟨c, hc, rfl⟩ := List.mem_map.mp hz
              rw [eqv_pair] at e
              have e' := of_decide_eq_true e
              exact ⟨c, hc, by omega, by omega⟩
          · obtain ⟨s14, S14, hin⟩ := r
            obtain ⟨k1, k2, k3, k4, k5, k6, k7⟩ := keep H14 s14 (S14.up (by omega))
            refine ⟨_, rfl, Or.inl ⟨rfl, _, SqL.of k2⟩, _, rfl, _, rfl, _, rfl, p, 5, _, rfl, S14, by omega, by omega, by omega, fun w0 H15 s15 S15 hw => ?_⟩
            refine ⟨_, _, rfl, rfl, (by show 4 ≤ sizeLine; decide), fun t nt => ?_⟩
            have s16 : Same H15 (upd H15 t (.tup [.str "line", .int i0, .int j0, .int (1 + (w0 : Nat))])) := same_new nt
            refine ⟨qc, _, _, rfl, rfl, s16 _ _ (s15 _ _ (fun e => dpc e.symm) k2), small1000 (by omega), ?_⟩
            exact push _ t (.ln ⟨i0, j0, 1 + (w0 : Nat)⟩) ((s14.trans s15).trans (SameX.of s16)) ((S15.same s16).up (by omega)) upd_same ⟨hi0, hj0, hij, by show (1 : Int) ≤ 1 + (w0 : Nat); omega, by show (1 : Int) + (w0 : Nat) ≤ 5; omega, hin rfl⟩
          · obtain ⟨s14, S14, _⟩ := r
            obtain ⟨k1, k2, k3, k4, k5, k6, k7⟩ := keep H14 s14 (S14.up (by omega))
            refine ifs_cut (fun bb H' => SameX p H13 H' ∧ Src H' p (b + n + 26 + 6 * i + 4) ∧ (bb = true → 0 < ls.length)) (fun Q' hQ => ?_) (fun H15 r => ?_) (fun H15 r => ?_)
            · refine ⟨_, rfl, (by show 0 ≤ sizeLine; exact Nat.zero_le _), fun q nq => ?_⟩
              have s15 : Same H14 (upd H14 q (.lst [])) := same_new nq
              have hR3 : Rep (fun v (d : Bd) => Dp K (upd H14 q (.lst [])) v (intD [(d.i : Int), (d.j : Int)])) ys ls := Rep.mono k6 fun v d hv => by
                obtain ⟨a, rfl, ha⟩ := hv
                exact .tup (SqT.of (s15 _ _ ha)) (intD_dp [(d.i : Int), (d.j : Int)])
              refine ⟨.list (ls.map prD), .list [], .lst (SqL.of (s15 _ _ k5)) (dpAll_of prD hR3), .lst (SqL.of upd_same) .nil, intDs_shaped (fun d : Bd => [(d.i : Int), (d.j : Int)]) ls, rfl, ?_⟩
              rw [eqv_nil]
              refine ⟨_, rfl, ?_⟩
              have S15 := S14.same s15
              cases hem : ls.isEmpty with
              | true =>
                refine iteF ?_
                exact hQ _ _ ⟨s14.trans (SameX.of s15), S15.up (by omega), fun z => by cases z⟩
              | false =>
                refine iteT ?_
                refine ⟨_, rfl, p, 4, _, rfl, S15, by omega, by omega, by omega, fun r H16 s16 S16 hr => ?_⟩
                refine ⟨rfl, _, rfl, ?_⟩
                refine hQ _ _ ⟨(s14.trans (SameX.of s15)).trans s16, S16.up (by omega), fun _ => ?_⟩
                cases ls with
                | nil => cases hem
                | cons a r => simp
            · obtain ⟨s15, S15, hne⟩ := r
              have hpos := hne rfl
              obtain ⟨k1, k2, k3, k4, k5, k6, k7⟩ := keep H15 s15 (S15.up (by omega))
              refine ⟨_, rfl, Or.inl ⟨rfl, _, SqL.of k2⟩, (by show 1 ≤ sizeLine; decide), fun t1 nt1 => ?_⟩
              have s16 : Same H15 (upd H15 t1 (.tup [.str "line"])) := same_new nt1
              have S16 := S15.same s16
              have ht1 : upd H15 t1 (.tup [.str "line"]) t1 = some (.tup [.str "line"]) := upd_same
              have dt1p : t1 ≠ p := fun e => by
                obtain ⟨_, z⟩ := S15.some
                exact ne_new nt1 z e.symm
              have s1316 := s15.trans (SameX.of s16)
              generalize upd H15 t1 (.tup [.str "line"]) = H16 at *
              obtain ⟨k1, k2, k3, k4, k5, k6, k7⟩ := keep H16 s1316 (S16.up (by omega))
              refine ⟨_, rfl, _, rfl, _, rfl, q2, _, rfl, .inl (SqL.of k5), p, ls.length, _, by rw [k6.len]; rfl, S16, hpos, by omega, by omega, fun r H17 s17 S17 hr => ?_⟩
              have s1317 := s1316.trans s17
              obtain ⟨k1, k2, k3, k4, k5, k6, k7⟩ := keep H17 s1317 (S17.up (by omega))
              obtain ⟨vr, hvr, er, rfl, her⟩ := k6.get (List.getElem?_eq_getElem hr)
              generalize hlc : ls[r] = cb at her
              have cm : cb ∈ ls := by rw [← hlc]; exact List.getElem_mem hr
              refine ⟨q2, _, _, _, rfl, rfl, SqL.of k5, atI_nat hvr, ?_⟩
              refine ⟨t1, er, _, _, rfl, rfl, SqT.of (s17 _ _ dt1p ht1), SqT.of her, (fun z => by cases z), (by show 1 + 2 ≤ sizeLine; decide), (fun z => by cases z), fun _ t2 nt2 => ?_⟩
              have s18 : Same H17 (upd H17 t2 (.tup [.str "line", .int cb.i, .int cb.j])) := same_new nt2
              have S18 := S17.same s18
              have ht2 : upd H17 t2 (.tup ([V.str "line"] ++ [.int cb.i, .int cb.j])) t2 = some (.tup [.str "line", .int cb.i, .int cb.j]) := upd_same
              have dt2p : t2 ≠ p := fun e => by
                obtain ⟨_, z⟩ := S17.some
                exact ne_new nt2 z e.symm
              have s1318 := s1317.trans (SameX.of s18)
              refine ⟨_, rfl, p, 5, _, rfl, S18, by omega, by omega, by omega, fun w0 H19 s19 S19 hw => ?_⟩
              refine ⟨_, _, rfl, rfl, (by show 1 ≤ sizeLine; decide), fun t3 nt3 => ?_⟩
              have s20 : Same H19 (upd H19 t3 (.tup [.int (1 + (w0 : Nat))])) := same_new nt3
              have S20 := S19.same s20
              refine ⟨t2, t3, _, _, rfl, rfl, SqT.of (s20 _ _ (s19 _ _ dt2p ht2)), SqT.of upd_same, (fun z => by cases z), (by show 3 + 1 ≤ sizeLine; decide), (fun z => by cases z), fun _ t4 nt4 => ?_⟩
              have s21 := same_new (o := .tup ([V.str "line", .int cb.i, .int cb.j] ++ [.int (1 + (w0 : Nat))])) nt4
              have s1321 := ((s1318.trans s19).trans (SameX.of s20)).trans (SameX.of s21)
              have S21 := (S20.same s21).up (show b + n + 26 + 6 * i + 4 + 1 + 1 ≤ b + n + 26 + 6 * i + 6 by omega)
              obtain ⟨k1, k2, k3, k4, k5, k6, k7⟩ := keep _ s1321 S21
              refine ⟨qc, _, _, rfl, rfl, k2, small1000 (by omega), ?_⟩
              have hcb : cb.i < n ∧ cb.j < n ∧ cb.i ≠ cb.j := by
                obtain ⟨h1, h2, h3, _⟩ := hok cb cm
                exact ⟨h1, h2, fun e => by rw [e] at h3; omega⟩
              exact push _ t4 (.ln ⟨cb.i, cb.j, 1 + (w0 : Nat)⟩) s1321 S21 upd_same ⟨hcb.1, hcb.2.1, hcb.2.2, by show (1 : Int) ≤ 1 + (w0 : Nat); omega, by show (1 : Int) + (w0 : Nat) ≤ 5; omega, cb, cm, rfl, rfl⟩
            · obtain ⟨s15, S15, _⟩ := r
              obtain ⟨k1, k2, k3, k4, k5, k6, k7⟩ := keep H15 s15 (S15.up (by omega))
              refine ⟨_, rfl, Or.inl ⟨rfl, _, SqL.of k2⟩, _, rfl, _, rfl, _, rfl, _, rfl, _, _, rfl, rfl, mul_ok (by omega) (by omega), _, _, rfl, rfl, p, 15, _, rfl, S15, by omega, by omega, by omega, fun kk H16 s16 S16 hk => ?_⟩
              refine ⟨_, rfl, _, _, rfl, rfl, _, rfl, p, 5, _, rfl, S16, by omega, by omega, by omega, fun w0 H17 s17 S17 hw => ?_⟩
              refine ⟨_, _, rfl, rfl, (by show 5 ≤ sizeLine; decide), fun t nt => ?_⟩
              have s18 : Same H17 (upd H17 t (.tup [.str "bend", .int i0, .int j0, .int ((kk : Nat) - 7), .int (1 + (w0 : Nat))])) := same_new nt
              refine ⟨qc, _, _, rfl, rfl, s18 _ _ (s17 _ _ (fun e => dpc e.symm) (s16 _ _ (fun e => dpc e.symm) k2)), small1000 (by omega), ?_⟩
              exact push _ t (.bn ⟨i0, j0, (kk : Nat) - 7, 1 + (w0 : Nat)⟩) (((s15.trans s16).trans s17).trans (SameX.of s18)) ((S17.same s18).up (by omega)) upd_same ⟨hi0, hj0, hij, by show (1 : Int) ≤ 1 + (w0 : Nat); omega, by show (1 : Int) + (w0 : Nat) ≤ 5; omega, by show (-7 : Int) ≤ (kk : Nat) - 7; omega, by show ((kk : Nat) : Int) - 7 ≤ 7; omega⟩
        · obtain ⟨x7', x8', x9', x10, ts, uc, rfl, s10, S10, hql, hRl, hqc, hRc, htl, htok⟩ := q
          have S10' : Src H10 p (b + n + 80) := S10.up (by omega)
          -- the floor
          refine ⟨_, rfl, n, rfl, by omega, by omega, ?_⟩
          refine lc_src (walk_range (lo := 0) (n := n)) (p := p) (b := b + n + 80) (c := 2) S10' (fun d => 0 ≤ d ∧ d ≤ 7) (fun H' s => trivial) (by omega) (fun i x H2 H3 hi s2 S2 y K1 h1 => ?_) (fun qf fl H11 nqf s11 S11 hqf hfl hgood => ?_)
          · obtain ⟨rfl, rfl⟩ := y
            refine ⟨rfl, ?_⟩
            refine ⟨_, rfl, p, 2, _, rfl, S2, by omega, by omega, by omega, fun r H4 s4 S4 hr => ?_⟩
            refine ⟨rfl, _, rfl, ?_⟩
            by_cases hz : V.int (r : Nat) = V.int 0
            · refine iteD hz ?_
              refine ⟨_, rfl, _, rfl, _, _, rfl, rfl, p, 8, _, rfl, S4, by omega, by omega, by omega, fun d H5 s5 S5 hd => ?_⟩
              exact h1 d H5 (s4.trans s5) (S5.up (by omega)) ⟨by omega, by omega⟩
            · refine iteN hz ?_
              exact h1 0 H4 s4 (S4.up (by omega)) ⟨by omega, by omega⟩
          have hql11 := s11 _ _ (fun e => dpl e.symm) hql
          have hqc11 := s11 _ _ (fun e => dpc e.symm) hqc
          have t11 := S10.tex s11
          have hRl11 := Tps.mono t11 hRl
          have hRc11 := Tps.mono t11 hRc
          refine fun d nd => ?_
          have s12 : Same H11 (upd H11 d (.dK [])) := same_new nd
          have hd12 : upd H11 d (.dK []) d = some (.dK []) := upd_same
          have S12 := S11.same s12
          have ddp : d ≠ p := fun e => by
            obtain ⟨_, z⟩ := S11.some
            exact ne_new nd z e.symm
          have ndH : H d = none := by
            cases e : H d with
            | none => rfl
            | some o => rw [(s10.trans s11) _ _ ddp e] at nd; cases nd
          have e11 := s10.trans s11
          have s1112 := e11.trans (SameX.of (a := p) s12)
          have hql12 := s12 _ _ hql11
          have hqf12 := s12 _ _ hqf
          have hqc12 := s12 _ _ hqc11
          generalize upd H11 d (.dK []) = H12 at *
          refine ⟨_, rfl, _, rfl, ql, ul, rfl, .inl ⟨SqL.of hql12, fun l1 nl1 => ?_⟩⟩
          have s13 := same_new (o := .tup ul) nl1
          refine ⟨_, rfl, qf, _, rfl, .inl ⟨SqL.of (s13 _ _ hqf12), fun l2 nl2 => ?_⟩⟩
          have s14 := same_new (o := .tup (fl.map V.int)) nl2
          refine ⟨_, rfl, qc, uc, rfl, .inl ⟨SqL.of (s14 _ _ (s13 _ _ hqc12)), fun l3 nl3 => ?_⟩⟩
          have s15 := same_new (o := .tup uc) nl3
          have s1315 := (s13.trans s14).trans s15
          refine ⟨s1315 _ _ hd12, pl4 (.int n) (.ref l1) (.ref l2) (.ref l3), rfl, (by show 4 ≤ 15; decide), ?_⟩
          rw [merge4]
          have hl1 := s15 _ _ (s14 _ _ (show upd H12 l1 (.tup ul) l1 = some (.tup ul) from upd_same))
          have hl2 := s15 _ _ (show upd (upd H12 l1 (.tup ul)) l2 (.tup (fl.map V.int)) l2 = some (.tup (fl.map V.int)) from upd_same)
          have hl3 : upd (upd (upd H12 l1 (.tup ul)) l2 (.tup (fl.map V.int))) l3 (.tup uc) l3 = some (.tup uc) := upd_same
          have hd15 := s1315 _ _ hd12
          have S15 := S12.same s1315
          have t1115 := (TEx.of s12).trans (TEx.of s1315)
          have hRl15 := Tps.mono t1115 hRl11
          have hRc15 := Tps.mono t1115 hRc11
          have sAll := s1112.trans (SameX.of (a := p) s1315)
          generalize upd (upd (upd H12 l1 (.tup ul)) l2 (.tup (fl.map V.int))) l3 (.tup uc) = H15 at *
          have tx : TEx H15 (upd H15 d (.dK (pl4 (.int n) (.ref l1) (.ref l2) (.ref l3)))) := TEx.mut hd15 fun _ z => nomatch z
          refine k _ _ ls fl ts (SameX.mut sAll ndH) ((S15.upd ddp).up (by omega)) ⟨d, .ref l1, .ref l2, .ref l3, rfl, upd_same, ⟨l1, ul, rfl, tx _ _ hl1, Tps.mono tx hRl15⟩, ⟨l2, rfl, tx _ _ hl2⟩, ⟨l3, uc, rfl, tx _ _ hl3, Tps.mono tx hRc15⟩⟩ ?_ hll8 (by omega) (fun c hc => (hok c hc).2.2.2.2)
          refine ⟨n1, by omega, by omega, by omega, fun c hc => ?_, hfl, fun z hz => ?_, fun t ht => ?_, fun l hl => ?_, ⟨posOf os, fun c hc => (hok c hc).2.2.1⟩⟩
          · obtain ⟨h1, h2, h3, h4, h5⟩ := hok c hc
            exact ⟨h1, h2, fun e => by rw [e] at h3; omega, h4, by omega⟩
          · obtain ⟨h1, h2⟩ := hgood z hz
            exact ⟨h1, by omega⟩
          · have q := htok t ht
            cases t with
            | ln l =>
              obtain ⟨h1, h2, h3, h4, h5, _⟩ := q
              exact ⟨h1, h2, h3, h4, by omega⟩
            | bn c =>
              obtain ⟨h1, h2, h3, h4, h5, h6, h7⟩ := q
              exact ⟨h1, h2, h3, h4, by omega, by omega, by omega⟩
          · obtain ⟨_, _, _, _, _, h6⟩ := htok _ hl
            exact h6
end
end Dt
end

section
set_option Elab.async false
set_option linter.all false
set_option maxRecDepth 100000
set_option maxHeartbeats 4000000
/-! given, cost, bends, balance, worth, integers -/
namespace Dt
open PySem PySem.Spec PyProof.Rows L2
theorem dg_s {H : Hp} {d : Addr} {n l f c : V} (h : H d = some (.dK (pl4 n l f c))) : DGet H d (.str ks) (some n) := by
  have := DGet.k (k := .inr ks) h
  rw [pl_s] at this
  exact this
theorem dg_l {H : Hp} {d : Addr} {n l f c : V} (h : H d = some (.dK (pl4 n l f c))) : DGet H d (.str kl) (some l) := by
  have := DGet.k (k := .inr kl) h
  rw [pl_l] at this
  exact this
theorem dg_f {H : Hp} {d : Addr} {n l f c : V} (h : H d = some (.dK (pl4 n l f c))) : DGet H d (.str kf) (some f) := by
  have := DGet.k (k := .inr kf) h
  rw [pl_f] at this
  exact this
theorem dg_c {H : Hp} {d : Addr} {n l f c : V} (h : H d = some (.dK (pl4 n l f c))) : DGet H d (.str kc) (some c) := by
  have := DGet.k (k := .inr kc) h
  rw [pl_c] at this
  exact this
def ind (u k : Nat) : Int := if k = u then 1 else 0
theorem ind_mul (u i j : Nat) (p : Int) : (if ((j : Nat) : Int) = (u : Nat) then p else 0) - (if ((i : Nat) : Int) = (u : Nat) then p else 0) = p * (ind u j - ind u i) := by
  unfold ind
  by_cases h1 : j = u
  · by_cases h2 : i = u
    · simp [h1, h2]
    · have : ¬ ((i : Nat) : Int) = (u : Nat) := by omega
      rw [if_neg this, if_neg h2, if_pos (show ((j : Nat) : Int) = (u : Nat) by omega), if_pos h1]
      omega
  · have : ¬ ((j : Nat) : Int) = (u : Nat) := by omega
    by_cases h2 : i = u
    · rw [if_neg this, if_neg h1, if_pos (by omega), if_pos h2]
      omega
    · have h3 : ¬ ((i : Nat) : Int) = (u : Nat) := by omega
      rw [if_neg this, if_neg h1, if_neg h3, if_neg h2]
      simp
theorem zip_at {α β : Type} {l : List α} {m : List β} {k : Nat} {a : α} {b : β} (h1 : l[k]? = some a) (h2 : m[k]? = some b) : (l.zip m)[k]? = some (a, b) := by
  rw [List.getElem?_zip_eq_some]
  exact ⟨h1, h2⟩
theorem sum_take_succ {α : Type} (F : α → Int) {l : List α} {i : Nat} {x : α} (h : l[i]? = some x) : ((l.take (i + 1)).map F).sum = ((l.take i).map F).sum + F x := by
  rw [take_succ_at h, List.map_append, List.sum_append]
  simp
theorem pick_if {K : PySem.W.Frag} {a : Nat} {σ : L2.St} {H : Hp} {q : Addr} {xs : List V} {k i z : Int} {u : Nat} {tz : TE} {Q : VK} (ha : σ[a]? = some (some (.ref q))) (hq : SqT K H q xs) (hx : atI xs k = some (.int i)) (hu : σ[3]? = some (some (.int u))) (hz : ∀ Q : VK, Q (.int z) H → tz σ H Q) (h : Q (.int (if i = (u : Nat) then z else 0)) H) :
    tIf (tTest (tOp rEq (tOp (rIxT K) (tVar a) (tC (.int k))) (tVar 3))) tz (tC (.int 0)) σ H Q := by
  refine ⟨_, ha, q, xs, k, .int i, rfl, rfl, hq, hx, _, hu, rfl, _, rfl, ?_⟩
  by_cases e : i = (u : Nat)
  · rw [if_pos e] at h
    exact iteD (congrArg V.int e) (hz Q h)
  · rw [if_neg e] at h
    exact iteN (fun z => e (V.int.inj z)) h
theorem fm_none {δ : Type} (n : Nat) : (List.range n).filterMap (fun _ => (none : Option δ)) = [] := by
  rw [List.filterMap_eq_nil_iff]
  intro _ _
  rfl
section
variable {P : Program} {w : World} {K : PySem.W.Frag} {mg : Str → Option Value} {base : Heap}
abbrev n_L_given : List Str := ["_law_plain"]
abbrev p_L_given : List Str := ["_law_plain"]
theorem sc_L_given : FnScope n_L_given p_L_given (defScope s_L_given) := ⟨rfl, rfl, rfl, by decide +kernel, rfl, by decide +kernel, by decide +kernel⟩
def sp_L_given (C : Addr) : Sp := fun vs H Q _ => ∃ (v : V) (n : Nat) (bs : List Bd) (lo : List Int) (ts : List Tm), vs = [v] ∧ Plain H v n bs lo ts ∧ POk n bs lo ts ∧ ∀ a H', H a = none → Same H H' → PB C H' a n bs lo ts → Q (.ref a) H'
theorem ok_L_given {C fi : Addr} {fdi : FuncData} {g : List Value → List Value → List Value} {f : Addr} {fd : FuncData} (F : FunD K "_law_given" "_law_given" (defArgs s_L_given) (defBody s_L_given) (defScope s_L_given) [] [] f fd) (T : Txt K mg) (Zmk : Mk K C fi) (Zmg : mg "Problem" = some (.ref C)) (Fi : FnOk P w K mg base CX0 8 fi fdi p_P_init (sp_P_init C)) (bK : KBn K fdi p_P_init 2 ["bounds", "lows", "terms"] g (fun vs zs => vs ++ zs)) : FnOk P w K mg base CX0 10 f fd p_L_given (sp_L_given C) := by
  refine ok_by F sc_L_given (fun vs H Q E h => ?_) (fun cdv A outer s H vs Q E hr h => ?_)
  · obtain ⟨v, n, bs, lo, ts, rfl, _⟩ := h
    rfl
  · obtain ⟨v, n, bs, lo, ts, rfl, ⟨d, vb, vl, vt, rfl, hd, hB, hL, hT⟩, O, k⟩ := h
    refine ⟨_, (pss_one (ps_ret (pe_makeK (E := E0) Zmk Fi hr (by rfl) Zmg bK pass0 (pa_cons (pe_dget (hu_of hr) (pv 0) pe_str (fun _ _ => rfl)) pa_nil) (pk_cons (pe_dget (hu_of hr) (pv 0) pe_str (fun _ _ => rfl)) (pk_cons (pe_dget (hu_of hr) (pv 0) pe_str (fun _ _ => rfl)) (pk_cons (pe_dget (hu_of hr) (pv 0) pe_str (fun _ _ => rfl)) pk_nil)))))), ?_⟩
    refine ⟨_, rfl, d, _, rfl, dg_s hd, _, rfl, d, _, rfl, dg_l hd, _, rfl, d, _, rfl, dg_f hd, _, rfl, d, _, rfl, dg_c hd, rfl, rfl, fun x dx nx ndx hne => ?_⟩
    have s1 : Same H (upd (upd H dx (.own x)) x (.ins C dx [])) := Same.mut (same_new ndx) nx
    refine ⟨x, dx, n, vb, vl, vt, bs, lo, ts, rfl, upd_same, hB.mono (TEx.of s1), hL.mono (TEx.of s1), hT.mono (TEx.of s1), O, fun H' sx PO => ⟨rfl, ?_⟩⟩
    have s2 : Same H H' := fun b u hb => sx b u (ne_new nx hb) (s1 b u hb)
    exact k x H' nx s2 ⟨.non, PO, .inl rfl, O⟩
abbrev n_L_cost : List Str := ["_law_plain", "_law_row", "_law_found", "_law_cost_here", "_law_far"]
abbrev p_L_cost : List Str := ["_law_plain", "_law_row"]
theorem sc_L_cost : FnScope n_L_cost p_L_cost (defScope s_L_cost) := ⟨rfl, rfl, rfl, by decide +kernel, rfl, by decide +kernel, by decide +kernel⟩
def sp_L_cost : Sp := fun vs H Q _ => ∃ (v vr : V) (bs : List Bd) (lo : List Int) (ts : List Tm) (row : List Int), vs = [v, vr] ∧ Plain H v row.length bs lo ts ∧ POk row.length bs lo ts ∧ Tp H vr (row.map V.int) ∧ Q (.int (cost ts (rowAt row))) H
theorem ok_L_cost {f : Addr} {fd : FuncData} (F : FunD K "_law_cost" "_law_cost" (defArgs s_L_cost) (defBody s_L_cost) (defScope s_L_cost) [] [] f fd) (T : Txt K mg) : FnOk P w K mg base CX0 1 f fd p_L_cost sp_L_cost := by
  refine ok_by F sc_L_cost (fun vs H Q E h => ?_) (fun cdv A outer s H vs Q E hr h => ?_)
  · obtain ⟨v, vr, bs, lo, ts, row, rfl, _⟩ := h
    rfl
  · obtain ⟨v, vr, bs, lo, ts, row, rfl, ⟨d, vb, vl, vt, rfl, hd, hB, hL, ⟨pt, ut, rfl, hpt, hut⟩⟩, O, ⟨r, rfl, hrow⟩, k⟩ := h
    refine ⟨_, (pss_cons (ps_set (i := 2) sc_L_cost.nd rfl (Or.inl rfl) pe_int)
      (pss_cons (ps_for PassesOwn.never rfl (pi_tup (pe_dget (hu_of hr) (pv 0) pe_str (fun _ _ => rfl))) (pg_name (i := 3) sc_L_cost.nd rfl (Or.inl rfl))
        (pss_cons (ps_set (i := 4) sc_L_cost.nd rfl (Or.inl rfl) (pe_op op_sub (pe_ix (ix_tupK K) (pv 1) (pe_ix (ix_tupK K) (pv 3) pe_int (fun _ _ => rfl)) (fun _ _ => rfl)) (pe_ix (ix_tupK K) (pv 1) (pe_ix (ix_tupK K) (pv 3) pe_int (fun _ _ => rfl)) (fun _ _ => rfl))))
        (pss_one (ps_if (pt_cmpR op_eq (pe_ix (ix_tupK K) (pv 3) pe_int (fun _ _ => rfl)) pe_str (nomark _)) (pss_one (ps_set (i := 2) sc_L_cost.nd rfl (Or.inl rfl) (pe_op op_add (pv 2) (pe_op op_mul (pe_ix (ix_tupK K) (pv 3) pe_int (fun _ _ => rfl)) (pv 4))))) (pss_one (ps_set (i := 2) sc_L_cost.nd rfl (Or.inl rfl) (pe_op op_add (pv 2) (pe_op op_mul (pe_ix (ix_tupK K) (pv 3) pe_int (fun _ _ => rfl)) (pe_callB call_abs (by rfl) T.abs (by decide +kernel) (pa_cons (pe_op op_sub (pv 4) (pe_ix (ix_tupK K) (pv 3) pe_int (fun _ _ => rfl))) pa_nil))))))))))
      (pss_one (ps_ret (pv 2))))), ?_⟩
    refine ⟨_, rfl, d, _, rfl, dg_c hd, pt, rfl, ⟨_, SqT.of hpt⟩, ?_⟩
    refine for_it (walk_tup (K := K) (a := pt) (xs := ut)) (fun i σ H' => ∃ (x3 x4 : Option V) (c : Int), σ = [some (.ref d), some (.ref r), some (.int c), x3, x4] ∧ H' = H ∧ c = ((ts.take i).map (tcost (rowAt row))).sum)
      ⟨none, none, 0, rfl, rfl, by simp⟩ (fun i σ H' _ p => ?_) (fun i x σ H2 H3 hi p y => ?_) (fun σ H' p => ?_)
    · obtain ⟨_, _, _, _, rfl, _⟩ := p
      exact SqT.of hpt
    · obtain ⟨x3, x4, c, rfl, rfl, ec⟩ := p
      obtain ⟨rfl, hx⟩ := y
      obtain ⟨t, ht, e, rfl, hp⟩ := hut.at_ i x hx
      have ok := O.t t (List.mem_of_getElem? ht)
      have es := sum_take_succ (tcost (rowAt row)) ht
      rw [← ec] at es
      cases t with
      | ln l =>
        obtain ⟨h1, h2, h3, h4, h5⟩ := ok
        refine ⟨_, rfl, _, rfl, e, _, 2, .int l.j, rfl, rfl, SqT.of hp, rfl, r, _, _, _, rfl, rfl, SqT.of hrow, atI_nat (rowAt_at h2), ?_⟩
        refine ⟨_, rfl, _, rfl, e, _, 1, .int l.i, rfl, rfl, SqT.of hp, rfl, r, _, _, _, rfl, rfl, SqT.of hrow, atI_nat (rowAt_at h1), ?_⟩
        refine ⟨_, _, rfl, rfl, ?_⟩
        refine ⟨_, rfl, e, _, 0, .str "line", rfl, rfl, SqT.of hp, rfl, rfl, _, rfl, iteD rfl ?_⟩
        refine ⟨_, rfl, _, rfl, e, _, 3, .int l.w, rfl, rfl, SqT.of hp, rfl, _, rfl, _, _, rfl, rfl, mul_ok (by omega) (by omega), _, _, rfl, rfl, ?_⟩
        exact ⟨_, _, _, rfl, rfl, es.symm⟩
      | bn b =>
        obtain ⟨h1, h2, h3, h4, h5, h6, h7⟩ := ok
        refine ⟨_, rfl, _, rfl, e, _, 2, .int b.j, rfl, rfl, SqT.of hp, rfl, r, _, _, _, rfl, rfl, SqT.of hrow, atI_nat (rowAt_at h2), ?_⟩
        refine ⟨_, rfl, _, rfl, e, _, 1, .int b.i, rfl, rfl, SqT.of hp, rfl, r, _, _, _, rfl, rfl, SqT.of hrow, atI_nat (rowAt_at h1), ?_⟩
        refine ⟨_, _, rfl, rfl, ?_⟩
        refine ⟨_, rfl, e, _, 0, .str "bend", rfl, rfl, SqT.of hp, rfl, rfl, _, rfl, iteN (by decide) ?_⟩
        refine ⟨_, rfl, _, rfl, e, _, 4, .int b.w, rfl, rfl, SqT.of hp, rfl, _, rfl, _, rfl, e, _, 3, .int b.k, rfl, rfl, SqT.of hp, rfl, _, _, rfl, rfl, _, rfl, _, _, rfl, rfl, mul_ok (by omega) (by omega), _, _, rfl, rfl, ?_⟩
        exact ⟨_, _, _, rfl, rfl, es.symm⟩
    · obtain ⟨x3, x4, c, rfl, rfl, ec⟩ := p
      rw [hut.len, List.take_length] at ec
      refine ⟨_, rfl, ?_⟩
      rw [ec]
      exact k
abbrev n_L_bends : List Str := ["_law_plain", "_law_cost_here"]
abbrev p_L_bends : List Str := ["_law_plain"]
theorem sc_L_bends : FnScope n_L_bends p_L_bends (defScope s_L_bends) := ⟨rfl, rfl, rfl, by decide +kernel, rfl, by decide +kernel, by decide +kernel⟩
def sp_L_bends : Sp := fun vs H Q _ => ∃ (v : V) (n : Nat) (bs : List Bd) (lo : List Int) (ts : List Tm), vs = [v] ∧ Plain H v n bs lo ts ∧ POk n bs lo ts ∧ ∀ v H', Same H H' → LsT bnV H' v (bends ts) → Q v H'
theorem ok_L_bends {f : Addr} {fd : FuncData} (F : FunD K "_law_bends" "_law_bends" (defArgs s_L_bends) (defBody s_L_bends) (defScope s_L_bends) [] [] f fd) (T : Txt K mg) : FnOk P w K mg base CX0 1 f fd p_L_bends sp_L_bends := by
  refine ok_by F sc_L_bends (fun vs H Q E h => ?_) (fun cdv A outer s H vs Q E hr h => ?_)
  · obtain ⟨v, n, bs, lo, ts, rfl, _⟩ := h
    rfl
  · obtain ⟨v, n, bs, lo, ts, rfl, ⟨d, vb, vl, vt, rfl, hd, hB, hL, ⟨p, us, rfl, hp, hus⟩⟩, O, k⟩ := h
    refine ⟨_, (pss_one (ps_ret (pe_lc (own := [("_law_cost_here", 1)]) (by rfl) sc_L_bends.nd (pi_tup (pe_dget (hu_of hr) (pv 0) pe_str (fun _ _ => rfl))) (blkOk_by (own := [("_law_cost_here", 1)]) (N := n_L_bends) (sc := defScope s_L_bends) (by decide +kernel)) (fun _ _ _ _ _ => (pg_name (i := 1) sc_L_bends.nd rfl (Or.inl rfl))) (fun _ _ _ _ _ => (pts_one (pt_cmpR op_eq (pe_ix (ix_tupK K) (pv 1) pe_int (fun _ _ => rfl)) pe_str (nomark _)))) (fun _ _ _ _ _ => (pe_slice (sl_tupK K) (pv 1) (po_some pe_int) po_none))))), ?_⟩
    refine ⟨_, rfl, d, _, rfl, dg_c hd, p, rfl, ⟨_, SqT.of hp⟩, ?_⟩
    refine lc_rep (walk_tup (K := K) (a := p) (xs := us)) (δ := Bn) (fun H v d => Tp H v (bnV d)) (fun _ _ _ _ e h => h.mono e) (fun H' s => s.sqt (SqT.of hp))
      (fun i => ts[i]?.bind bnOf) (by rw [hus.len]; have := O.lt; omega) (fun i x H2 H3 hi s2 y K1 K0 h1 h0 => ?_) (fun q ys H5 nq s5 hq hR => ?_)
    · obtain ⟨rfl, hx⟩ := y
      obtain ⟨t, ht, e, rfl, he⟩ := hus.at_ i x hx
      have he2 := s2 _ _ he
      cases t with
      | ln l =>
        refine ⟨rfl, _, rfl, e, _, 0, .str "line", rfl, rfl, SqT.of he2, rfl, rfl, _, rfl, iteN (by decide) ?_⟩
        exact h0 _ (Same.refl _) (by rw [ht]; rfl)
      | bn b =>
        refine ⟨rfl, _, rfl, e, _, 0, .str "bend", rfl, rfl, SqT.of he2, rfl, rfl, _, rfl, iteD rfl ?_⟩
        refine ⟨_, rfl, 1, rfl, e, _, rfl, SqT.of he2, sIx1 5 (by omega), fun c nc => ?_⟩
        exact h1 _ b _ (same_new nc) (by rw [ht]; rfl) ⟨c, rfl, upd_same⟩
    · rw [hus.len, fm_at] at hR
      exact k _ _ s5 ⟨q, ys, rfl, hq, hR⟩
abbrev n_L_balance : List Str := ["_law_plain", "_law_pulls", "_law_turns", "_law_v", "_law_found", "_law_link", "_law_pull", "_law_bend", "_law_turn", "_law_cost_here"]
abbrev p_L_balance : List Str := ["_law_plain", "_law_pulls", "_law_turns", "_law_v"]
theorem sc_L_balance : FnScope n_L_balance p_L_balance (defScope s_L_balance) := ⟨rfl, rfl, rfl, by decide +kernel, rfl, by decide +kernel, by decide +kernel⟩
def sp_L_balance : Sp := fun vs H Q _ => ∃ (v : V) (pp gp : Addr) (n u : Nat) (bs : List Bd) (lo : List Int) (ts : List Tm) (ps gs : List Int), vs = [v, .ref pp, .ref gp, .int u] ∧ Plain H v n bs lo ts ∧ POk n bs lo ts ∧ H pp = some (.tup (ps.map V.int)) ∧ H gp = some (.tup (gs.map V.int)) ∧
  ps.length = bs.length ∧ gs.length = (bends ts).length ∧ ∀ H', Same H H' → Q (.int (sumB bs ps (ind u) + sumT (bends ts) gs (ind u) - sumL (lines ts) (ind u))) H'
theorem ok_L_balance {f : Addr} {fd : FuncData} (F : FunD K "_law_balance" "_law_balance" (defArgs s_L_balance) (defBody s_L_balance) (defScope s_L_balance) [] [] f fd) (T : Txt K mg) (C_L_bends : Cal P w K mg base "_law_bends" 1 p_L_bends sp_L_bends) : FnOk P w K mg base CX0 2 f fd p_L_balance sp_L_balance := by
  refine ok_by F sc_L_balance (fun vs H Q E h => ?_) (fun cdv A outer s H vs Q E hr h => ?_)
  · obtain ⟨v, pp, gp, n, u, bs, lo, ts, ps, gs, rfl, _⟩ := h
    rfl
  · obtain ⟨v, pp, gp, n, u, bs, lo, ts, ps, gs, rfl, PL, O, hpp, hgp, lps, lgs, k⟩ := h
    have PL' := PL
    obtain ⟨d, vb, vl, vt, rfl, hd, ⟨pb, ub, rfl, hpb, hub⟩, hL, ⟨pt, ut, rfl, hpt, hut⟩⟩ := PL'
    refine ⟨_, (pss_cons (ps_set (i := 4) sc_L_balance.nd rfl (Or.inl rfl) pe_int)
      (pss_cons (ps_for PassesOwn.never rfl (pi_zipK true true (by rfl) T.zip (pa_cons (pe_dget (hu_of hr) (pv 0) pe_str (fun _ _ => rfl)) (pa_cons (pv 1) pa_nil))) (pg_tupK K 2 rfl (pgs_cons (pg_name (i := 5) sc_L_balance.nd rfl (Or.inl rfl)) (pgs_cons (pg_name (i := 6) sc_L_balance.nd rfl (Or.inl rfl)) pgs_nil)))
        (pss_one (ps_set (i := 4) sc_L_balance.nd rfl (Or.inl rfl) (pe_op op_sub (pe_op op_add (pv 4) (pe_ifExp (pt_cmpR op_eq (pe_ix (ix_tupK K) (pv 5) pe_int (fun _ _ => rfl)) (pv 3) (nomark _)) (pv 6) pe_int)) (pe_ifExp (pt_cmpR op_eq (pe_ix (ix_tupK K) (pv 5) pe_int (fun _ _ => rfl)) (pv 3) (nomark _)) (pv 6) pe_int)))))
      (pss_cons (ps_for PassesOwn.never rfl (pi_zipK false true (by rfl) T.zip (pa_cons (pe_cal C_L_bends hr (by decide) (pa_cons (pv 0) pa_nil)) (pa_cons (pv 2) pa_nil))) (pg_tupK K 2 rfl (pgs_cons (pg_name (i := 7) sc_L_balance.nd rfl (Or.inl rfl)) (pgs_cons (pg_name (i := 8) sc_L_balance.nd rfl (Or.inl rfl)) pgs_nil)))
        (pss_one (ps_set (i := 4) sc_L_balance.nd rfl (Or.inl rfl) (pe_op op_sub (pe_op op_add (pv 4) (pe_ifExp (pt_cmpR op_eq (pe_ix (ix_tupK K) (pv 7) pe_int (fun _ _ => rfl)) (pv 3) (nomark _)) (pv 8) pe_int)) (pe_ifExp (pt_cmpR op_eq (pe_ix (ix_tupK K) (pv 7) pe_int (fun _ _ => rfl)) (pv 3) (nomark _)) (pv 8) pe_int)))))
      (pss_cons (ps_for PassesOwn.never rfl (pi_tup (pe_dget (hu_of hr) (pv 0) pe_str (fun _ _ => rfl))) (pg_name (i := 9) sc_L_balance.nd rfl (Or.inl rfl))
        (pss_one (ps_if (pt_cmpR op_eq (pe_ix (ix_tupK K) (pv 9) pe_int (fun _ _ => rfl)) pe_str (nomark _)) (pss_one (ps_set (i := 4) sc_L_balance.nd rfl (Or.inl rfl) (pe_op op_add (pe_op op_sub (pv 4) (pe_ifExp (pt_cmpR op_eq (pe_ix (ix_tupK K) (pv 9) pe_int (fun _ _ => rfl)) (pv 3) (nomark _)) (pe_ix (ix_tupK K) (pv 9) pe_int (fun _ _ => rfl)) pe_int)) (pe_ifExp (pt_cmpR op_eq (pe_ix (ix_tupK K) (pv 9) pe_int (fun _ _ => rfl)) (pv 3) (nomark _)) (pe_ix (ix_tupK K) (pv 9) pe_int (fun _ _ => rfl)) pe_int)))) pss_nil)))
      (pss_one (ps_ret (pv 4))))))), ?_⟩
    refine ⟨_, rfl, d, _, rfl, dg_l hd, _, rfl, pb, pp, _, _, rfl, SqT.of hpb, SqT.of hpp, ?_⟩
    have lz : (bs.zip ps).length = min ub.length (ps.map V.int).length := by rw [List.length_zip, List.length_map, hub.len]
    refine for_it (walk_zipK (t1 := true) (t2 := true) (K := K) (a := pb) (b := pp) (xs := ub) (ys := ps.map V.int) lz) (fun i σ H' => ∃ (x5 x6 : Option V) (c : Int), σ = [some (.ref d), some (.ref pp), some (.ref gp), some (.int u), some (.int c), x5, x6, none, none, none] ∧ Same H H' ∧ c = (((bs.zip ps).take i).map fun t => t.2 * (ind u t.1.j - ind u t.1.i)).sum)
      ⟨none, none, 0, rfl, Same.refl _, by simp⟩ (fun i σ H' _ p => ?_) (fun i x σ H2 H3 hi p y => ?_) (fun σ H2 p => ?_)
    · obtain ⟨_, _, _, _, s2, _⟩ := p
      exact ⟨SqT.of (s2 _ _ hpb), SqT.of (s2 _ _ hpp)⟩
    · obtain ⟨x5, x6, c, rfl, s2, ec⟩ := p
      obtain ⟨q, x, z, rfl, nq, rfl, hx, hz⟩ := y
      obtain ⟨b, hb, e, rfl, he⟩ := hub.at_ i x hx
      obtain ⟨z, ez, rfl⟩ := (rep_map V.int ps).at_ i z hz
      have s3 : Same H2 (upd H2 q (.tup [.ref e, .int z])) := same_new nq
      have s23 := s2.trans s3
      have he3 := s23 _ _ he
      have es := sum_take_succ (fun t : Bd × Int => t.2 * (ind u t.1.j - ind u t.1.i)) (zip_at hb ez)
      rw [← ec] at es
      refine ⟨q, _, rfl, SqT.of upd_same, rfl, .ref e, _, rfl, .int z, _, rfl, rfl, ?_⟩
      refine ⟨_, rfl, ?_⟩
      refine pick_if (a := 5) (k := 1) (i := b.j) (z := z) rfl (SqT.of he3) rfl rfl (fun Q h => ⟨_, rfl, h⟩) ?_
      refine ⟨_, _, rfl, rfl, ?_⟩
      refine pick_if (a := 5) (k := 0) (i := b.i) (z := z) rfl (SqT.of he3) rfl rfl (fun Q h => ⟨_, rfl, h⟩) ?_
      refine ⟨_, _, rfl, rfl, ?_⟩
      refine ⟨_, _, _, rfl, s23, ?_⟩
      have := ind_mul u b.i b.j z
      rw [es, ← this]
      omega
    · obtain ⟨x5, x6, c, rfl, s2, ec⟩ := p
      have ec' : c = sumB bs ps (ind u) := by rw [ec, List.take_length]; rfl
      refine ⟨_, rfl, _, n, bs, lo, ts, rfl, PL.same s2, O, fun vn H3 s3 hN => ?_⟩
      obtain ⟨pn, un, rfl, hpn, hun⟩ := hN
      have s23 := s2.trans s3
      have hgp3 := s23 _ _ hgp
      refine ⟨_, rfl, pn, gp, _, _, rfl, SqL.of hpn, SqT.of hgp3, ?_⟩
      have lz2 : ((bends ts).zip gs).length = min un.length (gs.map V.int).length := by rw [List.length_zip, List.length_map, hun.len]
      refine for_it (walk_zipK (t1 := false) (t2 := true) (K := K) (a := pn) (b := gp) (xs := un) (ys := gs.map V.int) lz2) (fun i σ H' => ∃ (x5 x6 x7 x8 : Option V) (c' : Int), σ = [some (.ref d), some (.ref pp), some (.ref gp), some (.int u), some (.int c'), x5, x6, x7, x8, none] ∧ Same H3 H' ∧ c' = c + ((((bends ts).zip gs).take i).map fun t => t.2 * (ind u t.1.j - ind u t.1.i)).sum)
        ⟨x5, x6, none, none, c, rfl, Same.refl _, by simp⟩ (fun i σ H' _ p => ?_) (fun i x σ H4 H5 hi p y => ?_) (fun σ H4 p => ?_)
      · obtain ⟨_, _, _, _, _, _, s4, _⟩ := p
        exact ⟨SqL.of (s4 _ _ hpn), SqT.of (s4 _ _ hgp3)⟩
      · obtain ⟨x5, x6, x7, x8, c', rfl, s4, ec2⟩ := p
        obtain ⟨q, x, z, rfl, nq, rfl, hx, hz⟩ := y
        obtain ⟨b, hb, e, rfl, he⟩ := hun.at_ i x hx
        obtain ⟨z, ez, rfl⟩ := (rep_map V.int gs).at_ i z hz
        have s5 : Same H4 (upd H4 q (.tup [.ref e, .int z])) := same_new nq
        have s45 := s4.trans s5
        have he5 := s45 _ _ he
        have es := sum_take_succ (fun t : Bn × Int => t.2 * (ind u t.1.j - ind u t.1.i)) (zip_at hb ez)
        refine ⟨q, _, rfl, SqT.of upd_same, rfl, .ref e, _, rfl, .int z, _, rfl, rfl, ?_⟩
        refine ⟨_, rfl, ?_⟩
        refine pick_if (a := 7) (k := 1) (i := b.j) (z := z) rfl (SqT.of he5) rfl rfl (fun Q h => ⟨_, rfl, h⟩) ?_
        refine ⟨_, _, rfl, rfl, ?_⟩
        refine pick_if (a := 7) (k := 0) (i := b.i) (z := z) rfl (SqT.of he5) rfl rfl (fun Q h => ⟨_, rfl, h⟩) ?_
        refine ⟨_, _, rfl, rfl, ?_⟩
        refine ⟨_, _, _, _, _, rfl, s45, ?_⟩
        have := ind_mul u b.i b.j z
        rw [es, ← this]
        omega
      · obtain ⟨x5, x6, x7, x8, c', rfl, s4, ec2⟩ := p
        have ec2' : c' = sumB bs ps (ind u) + sumT (bends ts) gs (ind u) := by rw [ec2, List.take_length, ec']; rfl
        have s24 := s23.trans s4
        have hd4 := s24 _ _ hd
        have hpt4 := s24 _ _ hpt
        have hut4 := Tps.mono (TEx.of s24) hut
        refine ⟨_, rfl, d, _, rfl, dg_c hd4, pt, rfl, ⟨_, SqT.of hpt4⟩, ?_⟩
        refine for_it (walk_tup (K := K) (a := pt) (xs := ut)) (fun i σ H' => ∃ (x5 x6 x7 x8 x9 : Option V) (c2 : Int), σ = [some (.ref d), some (.ref pp), some (.ref gp), some (.int u), some (.int c2), x5, x6, x7, x8, x9] ∧ H' = H4 ∧ c2 = c' - (((lines (ts.take i)).map fun l => l.w * (ind u l.j - ind u l.i))).sum)
          ⟨x5, x6, x7, x8, none, c', rfl, rfl, by simp [lines]⟩ (fun i σ H' _ p => ?_) (fun i x σ H5 H6 hi p y => ?_) (fun σ H5 p => ?_)
        · obtain ⟨_, _, _, _, _, _, _, rfl, _⟩ := p
          exact SqT.of hpt4
        · obtain ⟨x5, x6, x7, x8, x9, c2, rfl, rfl, ec3⟩ := p
          obtain ⟨rfl, hx⟩ := y
          obtain ⟨t, ht, e, rfl, he⟩ := hut4.at_ i x hx
          cases t with
          | bn b =>
            refine ⟨_, rfl, e, _, 0, .str "bend", rfl, rfl, SqT.of he, rfl, rfl, _, rfl, iteN (by decide) ?_⟩
            refine ⟨_, _, _, _, _, _, rfl, rfl, ?_⟩
            rw [take_succ_at ht]
            unfold lines
            rw [List.filterMap_append]
            show c2 = c' - ((List.map _ (_ ++ [])).sum)
            rw [List.append_nil]
            exact ec3
          | ln l =>
            refine ⟨_, rfl, e, _, 0, .str "line", rfl, rfl, SqT.of he, rfl, rfl, _, rfl, iteD rfl ?_⟩
            refine ⟨_, rfl, ?_⟩
            refine pick_if (a := 9) (k := 2) (i := l.j) (z := l.w) rfl (SqT.of he) rfl rfl (fun Q h => ⟨_, rfl, e, _, 3, .int l.w, rfl, rfl, SqT.of he, rfl, h⟩) ?_
            refine ⟨_, _, rfl, rfl, ?_⟩
            refine pick_if (a := 9) (k := 1) (i := l.i) (z := l.w) rfl (SqT.of he) rfl rfl (fun Q h => ⟨_, rfl, e, _, 3, .int l.w, rfl, rfl, SqT.of he, rfl, h⟩) ?_
            refine ⟨_, _, rfl, rfl, ?_⟩
            refine ⟨_, _, _, _, _, _, rfl, rfl, ?_⟩
            rw [take_succ_at ht]
            unfold lines at ec3 ⊢
            rw [List.filterMap_append, List.map_append, List.sum_append]
            have h1 : ((List.filterMap lnOf [Tm.ln l]).map fun l => l.w * (ind u l.j - ind u l.i)).sum = l.w * (ind u l.j - ind u l.i) := by simp [lnOf]
            rw [h1, ← ind_mul u l.i l.j l.w]
            omega
        · obtain ⟨x5, x6, x7, x8, x9, c2, rfl, rfl, ec3⟩ := p
          rw [hut.len, List.take_length] at ec3
          refine ⟨_, rfl, ?_⟩
          rw [ec3, ec2']
          exact k _ s24
abbrev n_L_worth : List Str := ["_law_plain", "_law_pulls", "_law_turns", "_law_found", "_law_pull", "_law_link", "_law_turn", "_law_bend"]
abbrev p_L_worth : List Str := ["_law_plain", "_law_pulls", "_law_turns"]
theorem sc_L_worth : FnScope n_L_worth p_L_worth (defScope s_L_worth) := ⟨rfl, rfl, rfl, by decide +kernel, rfl, by decide +kernel, by decide +kernel⟩
def sp_L_worth : Sp := fun vs H Q _ => ∃ (v : V) (pp gp : Addr) (n : Nat) (bs : List Bd) (lo : List Int) (ts : List Tm) (ps gs : List Int), vs = [v, .ref pp, .ref gp] ∧ Plain H v n bs lo ts ∧ POk n bs lo ts ∧ H pp = some (.tup (ps.map V.int)) ∧ H gp = some (.tup (gs.map V.int)) ∧
  ps.length = bs.length ∧ gs.length = (bends ts).length ∧ ∀ H', Same H H' → Q (.int (worth bs (bends ts) ps gs)) H'
theorem ok_L_worth {f : Addr} {fd : FuncData} (F : FunD K "_law_worth" "_law_worth" (defArgs s_L_worth) (defBody s_L_worth) (defScope s_L_worth) [] [] f fd) (T : Txt K mg) (C_L_bends : Cal P w K mg base "_law_bends" 1 p_L_bends sp_L_bends) : FnOk P w K mg base CX0 2 f fd p_L_worth sp_L_worth := by
  refine ok_by F sc_L_worth (fun vs H Q E h => ?_) (fun cdv A outer s H vs Q E hr h => ?_)
  · obtain ⟨v, pp, gp, n, bs, lo, ts, ps, gs, rfl, _⟩ := h
    rfl
  · obtain ⟨v, pp, gp, n, bs, lo, ts, ps, gs, rfl, PL, O, hpp, hgp, lps, lgs, k⟩ := h
    have PL' := PL
    obtain ⟨d, vb, vl, vt, rfl, hd, ⟨pb, ub, rfl, hpb, hub⟩, hL, ⟨pt, ut, rfl, hpt, hut⟩⟩ := PL'
    refine ⟨_, (pss_cons (ps_set (i := 3) sc_L_worth.nd rfl (Or.inl rfl) (pe_callB (cr_sum rfl) (by rfl) T.sum (by decide +kernel) (pa_cons (pe_lc (own := [("_law_pull", 4), ("_law_link", 5)]) (by rfl) sc_L_worth.nd (pi_zipK true true (by rfl) T.zip (pa_cons (pv 1) (pa_cons (pe_dget (hu_of hr) (pv 0) pe_str (fun _ _ => rfl)) pa_nil))) (blkOk_by (own := [("_law_pull", 4), ("_law_link", 5)]) (N := n_L_worth) (sc := defScope s_L_worth) (by decide +kernel)) (fun _ _ _ _ _ => (pg_tupK K 2 rfl (pgs_cons (pg_name (i := 4) sc_L_worth.nd rfl (Or.inl rfl)) (pgs_cons (pg_name (i := 5) sc_L_worth.nd rfl (Or.inl rfl)) pgs_nil)))) (fun _ _ _ _ _ => pts_nil) (fun _ _ _ _ _ => (pe_op op_mul (pv 4) (pe_ix (ix_tupK K) (pv 5) pe_int (fun _ _ => rfl))))) pa_nil)))
      (pss_one (ps_ret (pe_op op_add (pv 3) (pe_callB (cr_sum rfl) (by rfl) T.sum (by decide +kernel) (pa_cons (pe_lc (own := [("_law_turn", 6), ("_law_bend", 7)]) (by rfl) sc_L_worth.nd (pi_zipK true false (by rfl) T.zip (pa_cons (pv 2) (pa_cons (pe_cal C_L_bends hr (by decide) (pa_cons (pv 0) pa_nil)) pa_nil))) (blkOk_by (own := [("_law_turn", 6), ("_law_bend", 7)]) (N := n_L_worth) (sc := defScope s_L_worth) (by decide +kernel)) (fun _ _ _ _ _ => (pg_tupK K 2 rfl (pgs_cons (pg_name (i := 6) sc_L_worth.nd rfl (Or.inl rfl)) (pgs_cons (pg_name (i := 7) sc_L_worth.nd rfl (Or.inl rfl)) pgs_nil)))) (fun _ _ _ _ _ => pts_nil) (fun _ _ _ _ _ => (pe_op op_mul (pv 6) (pe_ix (ix_tupK K) (pv 7) pe_int (fun _ _ => rfl))))) pa_nil)))))), ?_⟩
    have lb := O.lb
    have lt := O.lt
    have lbn := bends_len ts
    refine ⟨_, rfl, _, rfl, d, _, rfl, dg_l hd, pp, pb, _, _, rfl, SqT.of hpp, SqT.of hpb, ?_⟩
    have lz : (bs.zip ps).length = min (ps.map V.int).length ub.length := by rw [List.length_zip, List.length_map, hub.len, Nat.min_comm]
    refine lc_rep (walk_zipK (t1 := true) (t2 := true) (K := K) (a := pp) (b := pb) (xs := ps.map V.int) (ys := ub) lz) (δ := Int) (fun H v d => v = .int d) (fun _ _ _ _ e h => h) (fun H' s => ⟨s.sqt (SqT.of hpp), s.sqt (SqT.of hpb)⟩)
      (fun i => (bs.zip ps)[i]?.map fun t => t.2 * t.1.d) (by rw [List.length_zip]; omega) (fun i x H3 H4 hi s3 y K1 K0 h1 h0 => ?_) (fun r ys H3 nr s3 hr hR => ?_)
    · obtain ⟨q, x, z, rfl, nq, rfl, hx, hz⟩ := y
      obtain ⟨x, ex, rfl⟩ := (rep_map V.int ps).at_ i x hx
      obtain ⟨b, hb, e, rfl, he⟩ := hub.at_ i z hz
      have s4 : Same H3 (upd H3 q (.tup [.int x, .ref e])) := same_new nq
      have he4 := s4 _ _ (s3 _ _ he)
      obtain ⟨_, _, _, b4, b5⟩ := O.b b (List.mem_of_getElem? hb)
      refine ⟨q, _, rfl, SqT.of upd_same, rfl, .int x, _, rfl, .ref e, _, rfl, rfl, rfl, tyes ?_⟩
      refine ⟨_, rfl, _, rfl, e, _, 2, .int b.d, rfl, rfl, SqT.of he4, rfl, _, _, rfl, rfl, mul_okR (by omega) (by omega), ?_⟩
      exact h1 _ _ _ s4 (by rw [zip_at hb ex]; rfl) rfl
    rw [map_at] at hR
    have ey := hR.eq_map
    refine ⟨r, _, rfl, SqL.of (by rw [hr, ey]), ?_⟩
    refine ⟨_, rfl, _, rfl, _, rfl, .ref d, n, bs, lo, ts, rfl, PL.same s3, O, fun vn H4 s4 hN => ?_⟩
    obtain ⟨pn, un, rfl, hpn, hun⟩ := hN
    have s34 := s3.trans s4
    have hgp4 := s34 _ _ hgp
    refine ⟨gp, pn, _, _, rfl, SqT.of hgp4, SqL.of hpn, ?_⟩
    have lz2 : ((bends ts).zip gs).length = min (gs.map V.int).length un.length := by rw [List.length_zip, List.length_map, hun.len, Nat.min_comm]
    refine lc_rep (walk_zipK (t1 := true) (t2 := false) (K := K) (a := gp) (b := pn) (xs := gs.map V.int) (ys := un) lz2) (δ := Int) (fun H v d => v = .int d) (fun _ _ _ _ e h => h) (fun H' s => ⟨s.sqt (SqT.of hgp4), s.seq (SqL.of hpn)⟩)
      (fun i => ((bends ts).zip gs)[i]?.map fun t => t.2 * t.1.k) (by rw [List.length_zip]; omega) (fun i x H5 H6 hi s5 y K1 K0 h1 h0 => ?_) (fun r2 ys2 H5 nr2 s5 hr2 hR2 => ?_)
    · obtain ⟨q, x, z, rfl, nq, rfl, hx, hz⟩ := y
      obtain ⟨x, ex, rfl⟩ := (rep_map V.int gs).at_ i x hx
      obtain ⟨b, hb, e, rfl, he⟩ := hun.at_ i z hz
      have s6 : Same H5 (upd H5 q (.tup [.int x, .ref e])) := same_new nq
      have he6 := s6 _ _ (s5 _ _ he)
      obtain ⟨_, _, _, _, _, b6, b7⟩ := O.t _ (bn_mem (List.mem_of_getElem? hb))
      refine ⟨q, _, rfl, SqT.of upd_same, rfl, .int x, _, rfl, .ref e, _, rfl, rfl, rfl, tyes ?_⟩
      refine ⟨_, rfl, _, rfl, e, _, 2, .int b.k, rfl, rfl, SqT.of he6, rfl, _, _, rfl, rfl, mul_okR (by omega) (by omega), ?_⟩
      exact h1 _ _ _ s6 (by rw [zip_at hb ex]; rfl) rfl
    rw [map_at] at hR2
    have ey2 := hR2.eq_map
    refine ⟨r2, _, rfl, SqL.of (by rw [hr2, ey2]), _, _, rfl, rfl, ?_⟩
    exact k _ (s34.trans s5)
abbrev n_L_integers : List Str := ["_law_value", "_law_many", "_law_item"]
abbrev p_L_integers : List Str := ["_law_value", "_law_many"]
theorem sc_L_integers : FnScope n_L_integers p_L_integers (defScope s_L_integers) := ⟨rfl, rfl, rfl, by decide +kernel, rfl, by decide +kernel, by decide +kernel⟩
def sp_L_integers : Sp := fun vs H Q _ => ∃ (p : Addr) (l : List Int), vs = [.ref p, .int l.length] ∧ H p = some (.tup (l.map V.int)) ∧ l.length ≤ 1000 ∧ ∀ H', Same H H' → Q (.bl true) H'
theorem ok_L_integers {f : Addr} {fd : FuncData} (F : FunD K "_law_integers" "_law_integers" (defArgs s_L_integers) (defBody s_L_integers) (defScope s_L_integers) [] [] f fd) (T : Txt K mg) : FnOk P w K mg base CX0 1 f fd p_L_integers sp_L_integers := by
  refine ok_by F sc_L_integers (fun vs H Q E h => ?_) (fun cdv A outer s H vs Q E hr h => ?_)
  · obtain ⟨p, l, rfl, _⟩ := h
    rfl
  · obtain ⟨p, l, rfl, hp, hl, k⟩ := h
    refine ⟨_, (pss_cons (ps_if (PW.pt (pw_or (pt_not (pt_val (pe_callB (call_isiK' K) (by rfl) T.isinstance (by decide +kernel) (pa_cons (pv 0) (pa_cons (pe_bltn (v := .ty "tuple") (by rfl) T.tuple (by decide +kernel) rfl) pa_nil))))) (pw_or1 (pt_cmpR op_ne (pe_callB call_len_seq (by rfl) T.len (by decide +kernel) (pa_cons (pv 0) pa_nil)) (pv 1) (nomark _))))) (pss_one (ps_ret pe_bl)) pss_nil)
      (pss_one (ps_ret (pe_cmpR (op_eqD hr.units) (pe_lc (own := [("_law_item", 2)]) (by rfl) sc_L_integers.nd (pi_tup (pv 0)) (blkOk_by (own := [("_law_item", 2)]) (N := n_L_integers) (sc := defScope s_L_integers) (by decide +kernel)) (fun _ _ _ _ _ => (pg_name (i := 2) sc_L_integers.nd rfl (Or.inl rfl))) (fun _ _ _ _ _ => (pts_one (PW.pt (pw_or (pt_not (pt_val (pe_callB (call_isiK' K) (by rfl) T.isinstance (by decide +kernel) (pa_cons (pv 2) (pa_cons (pe_bltn (v := .ty "int") (by rfl) T.int (by decide +kernel) rfl) pa_nil))))) (pw_or1 (pt_val (pe_callB (call_isiK' K) (by rfl) T.isinstance (by decide +kernel) (pa_cons (pv 2) (pa_cons (pe_bltn (v := .ty "bool") (by rfl) T.bool (by decide +kernel) rfl) pa_nil))))))))) (fun _ _ _ _ _ => pe_int)) (pe_lst pa_nil) (nomark _))))), ?_⟩
    refine ⟨_, rfl, .ref p, .ty "tuple", .type "tuple", .type "tuple", true, rfl, .ty _, .base (.tup hp), kit_ty (by decide +kernel), true, rfl, iteF ?_⟩
    refine ⟨_, rfl, p, _, rfl, .inr (SqT.of hp), _, rfl, rfl, _, rfl, iteNS (by rw [List.length_map]) ?_⟩
    refine ⟨_, rfl, p, rfl, ⟨_, SqT.of hp⟩, ?_⟩
    refine lc_rep (walk_tup (K := K) (a := p) (xs := l.map V.int)) (δ := Int) (fun H v d => v = .int d) (fun _ _ _ _ e h => h) (fun H' s => s.sqt (SqT.of hp))
      (fun i => none) (by rw [List.length_map]; omega) (fun i x H2 H3 hi s2 y K1 K0 h1 h0 => ?_) (fun q ys H1 nq s1 hq hR => ?_)
    · obtain ⟨rfl, hx⟩ := y
      obtain ⟨x, ex, rfl⟩ := (rep_map V.int l).at_ i x hx
      refine ⟨rfl, ?_⟩
      refine ⟨_, rfl, .int x, .ty "int", .type "int", .type "int", true, rfl, .ty _, .base (.int x), kit_ty (by decide +kernel), true, rfl, iteF ?_⟩
      refine ⟨_, rfl, .int x, .ty "bool", .type "int", .type "bool", false, rfl, .ty _, .base (.int x), kit_ty (by decide +kernel), false, rfl, ?_⟩
      exact h0 _ (Same.refl _) rfl
    rw [fm_none] at hR
    have ey : ys = [] := hR.eq_map
    rw [ey] at hq
    refine ⟨(by show 0 ≤ sizeLine; exact Nat.zero_le _), fun r nr => ?_⟩
    have s2 : Same H1 (upd H1 r (.lst [])) := same_new nr
    refine ⟨.list [], .list [], .lst (SqL.of (s2 _ _ hq)) .nil, .lst (SqL.of upd_same) .nil, rfl, rfl, ?_⟩
    exact k _ (s1.trans s2)
end
end Dt
end

section
set_option Elab.async false
set_option linter.all false
set_option maxRecDepth 100000
set_option maxHeartbeats 4000000
/-! certifies -/
namespace Dt
open PySem PySem.Spec PyProof.Rows L2
section
variable {P : Program} {w : World} {K : PySem.W.Frag} {mg : Str → Option Value} {base : Heap}
abbrev n_L_certifies : List Str := ["_law_plain", "_law_row", "_law_told", "_law_bends_here", "_law_pull", "_law_turn", "_law_bend", "_law_v"]
abbrev p_L_certifies : List Str := ["_law_plain", "_law_row", "_law_told"]
theorem sc_L_certifies : FnScope n_L_certifies p_L_certifies (defScope s_L_certifies) := ⟨rfl, rfl, rfl, by decide +kernel, rfl, by decide +kernel, by decide +kernel⟩
def sp_L_certifies : Sp := fun vs H Q _ => ∃ (v vr : V) (t p1 p2 : Addr) (bs : List Bd) (lo : List Int) (ts : List Tm) (row ps gs : List Int), vs = [v, vr, .ref t] ∧ Plain H v row.length bs lo ts ∧ POk row.length bs lo ts ∧ Tp H vr (row.map V.int) ∧ H t = some (.tup [.ref p1, .ref p2]) ∧ H p1 = some (.tup (ps.map V.int)) ∧ H p2 = some (.tup (gs.map V.int)) ∧
  FlOk bs (lines ts) (bends ts) ps gs ∧ worth bs (bends ts) ps gs = cost ts (rowAt row) ∧ ∀ H', Same H H' → Q (.bl true) H'
theorem ok_L_certifies {f : Addr} {fd : FuncData} (F : FunD K "_law_certifies" "_law_certifies" (defArgs s_L_certifies) (defBody s_L_certifies) (defScope s_L_certifies) [] [] f fd) (T : Txt K mg) (C_L_bends : Cal P w K mg base "_law_bends" 1 p_L_bends sp_L_bends) (C_L_integers : Cal P w K mg base "_law_integers" 1 p_L_integers sp_L_integers) (C_L_balance : Cal P w K mg base "_law_balance" 2 p_L_balance sp_L_balance) (C_L_worth : Cal P w K mg base "_law_worth" 2 p_L_worth sp_L_worth) (C_L_cost : Cal P w K mg base "_law_cost" 1 p_L_cost sp_L_cost) :
    FnOk P w K mg base CX0 3 f fd p_L_certifies sp_L_certifies := by
  refine ok_by F sc_L_certifies (fun vs H Q E h => ?_) (fun cdv A outer s H vs Q E hr h => ?_)
  · obtain ⟨v, vr, t, p1, p2, bs, lo, ts, row, ps, gs, rfl, _⟩ := h
    rfl
  · obtain ⟨v, vr, t, p1, p2, bs, lo, ts, row, ps, gs, rfl, PL, O, hrow, ht, hp1, hp2, Fl, hw, k⟩ := h
    refine ⟨_, (pss_cons (ps_set (i := 3) sc_L_certifies.nd rfl (Or.inl rfl) (pe_cal C_L_bends hr (by decide) (pa_cons (pv 0) pa_nil)))
      (pss_cons (ps_if (PW.pt (pw_or (pt_not (pt_val (pe_callB (call_isiK' K) (by rfl) T.isinstance (by decide +kernel) (pa_cons (pv 2) (pa_cons (pe_bltn (v := .ty "tuple") (by rfl) T.tuple (by decide +kernel) rfl) pa_nil))))) (pw_or1 (pt_cmpR op_ne (pe_callB call_len_seq (by rfl) T.len (by decide +kernel) (pa_cons (pv 2) pa_nil)) pe_int (nomark _))))) (pss_one (ps_ret pe_bl)) pss_nil)
      (pss_cons (ps_if (PW.pt (pw_or (pt_not (pt_val (pe_cal C_L_integers hr (by decide) (pa_cons (pe_ix (ix_tupK K) (pv 2) pe_int (fun _ _ => rfl)) (pa_cons (pe_callB call_len_seq (by rfl) T.len (by decide +kernel) (pa_cons (pe_dget (hu_of hr) (pv 0) pe_str (fun _ _ => rfl)) pa_nil)) pa_nil))))) (pw_or1 (pt_not (pt_val (pe_cal C_L_integers hr (by decide) (pa_cons (pe_ix (ix_tupK K) (pv 2) pe_int (fun _ _ => rfl)) (pa_cons (pe_callB call_len_seq (by rfl) T.len (by decide +kernel) (pa_cons (pv 3) pa_nil)) pa_nil)))))))) (pss_one (ps_ret pe_bl)) pss_nil)
      (pss_cons (ps_if (pt_cmpR (op_neD hr.units) (pe_lc (own := [("_law_pull", 4)]) (by rfl) sc_L_certifies.nd (pi_tup (pe_ix (ix_tupK K) (pv 2) pe_int (fun _ _ => rfl))) (blkOk_by (own := [("_law_pull", 4)]) (N := n_L_certifies) (sc := defScope s_L_certifies) (by decide +kernel)) (fun _ _ _ _ _ => (pg_name (i := 4) sc_L_certifies.nd rfl (Or.inl rfl))) (fun _ _ _ _ _ => (pts_one (pt_cmpR op_lt (pv 4) pe_int (nomark _)))) (fun _ _ _ _ _ => (pv 4))) (pe_lst pa_nil) (nomark _)) (pss_one (ps_ret pe_bl)) pss_nil)
      (pss_cons (ps_if (pt_cmpR (op_neD hr.units) (pe_lc (own := [("_law_turn", 5), ("_law_bend", 6)]) (by rfl) sc_L_certifies.nd (pi_zipK true false (by rfl) T.zip (pa_cons (pe_ix (ix_tupK K) (pv 2) pe_int (fun _ _ => rfl)) (pa_cons (pv 3) pa_nil))) (blkOk_by (own := [("_law_turn", 5), ("_law_bend", 6)]) (N := n_L_certifies) (sc := defScope s_L_certifies) (by decide +kernel)) (fun _ _ _ _ _ => (pg_tupK K 2 rfl (pgs_cons (pg_name (i := 5) sc_L_certifies.nd rfl (Or.inl rfl)) (pgs_cons (pg_name (i := 6) sc_L_certifies.nd rfl (Or.inl rfl)) pgs_nil)))) (fun _ _ _ _ _ => (pts_one (pt_not (pt_chain op_le op_le (pe_op op_sub pe_int (pe_ix (ix_tupK K) (pv 6) pe_int (fun _ _ => rfl))) (pv 5) (pe_ix (ix_tupK K) (pv 6) pe_int (fun _ _ => rfl)))))) (fun _ _ _ _ _ => pe_int)) (pe_lst pa_nil) (nomark _)) (pss_one (ps_ret pe_bl)) pss_nil)
      (pss_cons (ps_if (pt_cmpR (op_neD hr.units) (pe_lc (own := [("_law_v", 7)]) (by rfl) sc_L_certifies.nd (pi_range1 (by rfl) T.range (pa_cons (pe_dget (hu_of hr) (pv 0) pe_str (fun _ _ => rfl)) pa_nil)) (blkOk_by (own := [("_law_v", 7)]) (N := n_L_certifies) (sc := defScope s_L_certifies) (by decide +kernel)) (fun _ _ _ _ _ => (pg_name (i := 7) sc_L_certifies.nd rfl (Or.inl rfl))) (fun _ _ _ _ _ => (pts_one (pt_cmpR op_ne (pe_cal C_L_balance hr (by decide) (pa_cons (pv 0) (pa_cons (pe_ix (ix_tupK K) (pv 2) pe_int (fun _ _ => rfl)) (pa_cons (pe_ix (ix_tupK K) (pv 2) pe_int (fun _ _ => rfl)) (pa_cons (pv 7) pa_nil))))) pe_int (nomark _)))) (fun _ _ _ _ _ => (pv 7))) (pe_lst pa_nil) (nomark _)) (pss_one (ps_ret pe_bl)) pss_nil)
      (pss_one (ps_ret (pe_cmpR op_eq (pe_cal C_L_worth hr (by decide) (pa_cons (pv 0) (pa_cons (pe_ix (ix_tupK K) (pv 2) pe_int (fun _ _ => rfl)) (pa_cons (pe_ix (ix_tupK K) (pv 2) pe_int (fun _ _ => rfl)) pa_nil)))) (pe_cal C_L_cost hr (by decide) (pa_cons (pv 0) (pa_cons (pv 1) pa_nil))) (nomark _)))))))))), ?_⟩
    have lb := O.lb
    have lt := O.lt
    have lbn := bends_len ts
    have n12 := O.n12
    have n1 := O.n1
    refine ⟨_, rfl, v, row.length, bs, lo, ts, rfl, PL, O, fun vn H1 s1 hN => ?_⟩
    obtain ⟨pn, un, rfl, hpn, hun⟩ := hN
    have ht1 := s1 _ _ ht
    have hp11 := s1 _ _ hp1
    have hp21 := s1 _ _ hp2
    have PL1 := PL.same s1
    refine ⟨_, rfl, .ref t, .ty "tuple", .type "tuple", .type "tuple", true, rfl, .ty _, .base (.tup ht1), kit_ty (by decide +kernel), true, rfl, iteF ?_⟩
    refine ⟨_, rfl, t, _, rfl, .inr (SqT.of ht1), rfl, _, rfl, iteNS rfl ?_⟩
    -- integers
    have PL1' := PL1
    obtain ⟨d, vb, vl, vt, rfl, hd, ⟨pb, ub, rfl, hpb, hub⟩, hL, hT⟩ := PL1'
    refine ⟨_, rfl, t, _, 0, .ref p1, rfl, rfl, SqT.of ht1, rfl, _, rfl, d, _, rfl, dg_l hd, pb, _, rfl, .inr (SqT.of hpb), p1, ps, by rw [hub.len, Fl.lp]; rfl, hp11, by rw [Fl.lp]; omega, fun H2 s2 => ?_⟩
    refine ⟨true, rfl, iteF ?_⟩
    have ht2 := s2 _ _ ht1
    have hpn2 := s2 _ _ hpn
    have hp22 := s2 _ _ hp21
    refine ⟨_, rfl, t, _, 1, .ref p2, rfl, rfl, SqT.of ht2, rfl, _, rfl, pn, _, rfl, .inl (SqL.of hpn2), p2, gs, by rw [hun.len, Fl.lg]; rfl, hp22, by rw [Fl.lg]; omega, fun H3 s3 => ?_⟩
    refine ⟨true, rfl, iteF ?_⟩
    have s23 := s2.trans s3
    have ht3 := s23 _ _ ht1
    have hp13 := s23 _ _ hp11
    have hp23 := s23 _ _ hp21
    have hpn3 := s23 _ _ hpn
    have hun3 := Tps.mono (TEx.of s23) hun
    -- no pull below 0
    refine ⟨_, rfl, t, _, 0, .ref p1, rfl, rfl, SqT.of ht3, rfl, p1, rfl, ⟨_, SqT.of hp13⟩, ?_⟩
    refine lc_rep (walk_tup (K := K) (a := p1) (xs := ps.map V.int)) (δ := Int) (fun H v d => v = .int d) (fun _ _ _ _ e h => h) (fun H' s => s.sqt (SqT.of hp13))
      (fun i => none) (by rw [List.length_map, Fl.lp]; omega) (fun i x H4 H5 hi s4 y K1 K0 h1 h0 => ?_) (fun q ys H4 nq s4 hq hR => ?_)
    · obtain ⟨rfl, hx⟩ := y
      obtain ⟨x, ex, rfl⟩ := (rep_map V.int ps).at_ i x hx
      refine ⟨rfl, _, rfl, _, _, rfl, rfl, _, rfl, iteN (by have := Fl.nn i x ex; omega) ?_⟩
      exact h0 _ (Same.refl _) rfl
    rw [fm_none] at hR
    have ey : ys = [] := hR.eq_map
    rw [ey] at hq
    refine ⟨(by show 0 ≤ sizeLine; exact Nat.zero_le _), fun r nr => ?_⟩
    have s5 : Same H4 (upd H4 r (.lst [])) := same_new nr
    refine ⟨.list [], .list [], .lst (SqL.of (s5 _ _ hq)) .nil, .lst (SqL.of upd_same) .nil, rfl, rfl, false, rfl, iteF ?_⟩
    have s35 := s4.trans s5
    generalize upd H4 r (.lst []) = H5 at *
    have ht5 := s35 _ _ ht3
    have hp25 := s35 _ _ hp23
    have hpn5 := s35 _ _ hpn3
    have hun5 := Tps.mono (TEx.of s35) hun3
    -- no turn beyond its limit
    refine ⟨_, rfl, t, _, 1, .ref p2, rfl, rfl, SqT.of ht5, rfl, _, rfl, p2, pn, _, _, rfl, SqT.of hp25, SqL.of hpn5, ?_⟩
    refine lc_rep (walk_zipK (t1 := true) (t2 := false) (K := K) (a := p2) (b := pn) (xs := gs.map V.int) (ys := un) rfl) (δ := Int) (fun H v d => v = .int d) (fun _ _ _ _ e h => h) (fun H' s => ⟨s.sqt (SqT.of hp25), s.seq (SqL.of hpn5)⟩)
      (fun i => none) (by rw [List.length_map, Fl.lg]; omega) (fun i x H6 H7 hi s6 y K1 K0 h1 h0 => ?_) (fun q2 ys2 H6 nq2 s6 hq2 hR2 => ?_)
    · obtain ⟨q, x, z, rfl, nq, rfl, hx, hz⟩ := y
      obtain ⟨x, ex, rfl⟩ := (rep_map V.int gs).at_ i x hx
      obtain ⟨b, hb, e, rfl, he⟩ := hun5.at_ i z hz
      have s7 : Same H6 (upd H6 q (.tup [.int x, .ref e])) := same_new nq
      have he7 := s7 _ _ (s6 _ _ he)
      obtain ⟨l1, l2⟩ := Fl.lim i b x hb ex
      refine ⟨q, _, rfl, SqT.of upd_same, rfl, .int x, _, rfl, .ref e, _, rfl, rfl, rfl, ?_⟩
      refine ⟨_, rfl, e, _, 3, .int b.w, rfl, rfl, SqT.of he7, rfl, _, _, rfl, rfl, _, rfl, _, _, rfl, rfl, true, blT l1, iteT ?_⟩
      refine ⟨_, rfl, e, _, 3, .int b.w, rfl, rfl, SqT.of he7, rfl, _, _, rfl, rfl, true, blT l2, ?_⟩
      exact h0 _ s7 rfl
    rw [fm_none] at hR2
    have ey2 : ys2 = [] := hR2.eq_map
    rw [ey2] at hq2
    refine ⟨(by show 0 ≤ sizeLine; exact Nat.zero_le _), fun r2 nr2 => ?_⟩
    have s7 : Same H6 (upd H6 r2 (.lst [])) := same_new nr2
    refine ⟨.list [], .list [], .lst (SqL.of (s7 _ _ hq2)) .nil, .lst (SqL.of upd_same) .nil, rfl, rfl, false, rfl, iteF ?_⟩
    have s57 := s6.trans s7
    generalize upd H6 r2 (.lst []) = H7 at *
    have s17 := (s23.trans s35).trans s57
    have hd7 := s17 _ _ hd
    have ht7 := s17 _ _ ht1
    -- balance
    refine ⟨_, rfl, d, _, rfl, dg_s hd7, row.length, rfl, by omega, by omega, ?_⟩
    refine lc_rep (walk_range (lo := 0) (n := row.length)) (δ := Int) (fun H v d => v = .int d) (fun _ _ _ _ e h => h) (fun H' s => trivial)
      (fun i => none) (by omega) (fun i x H8 H9 hi s8 y K1 K0 h1 h0 => ?_) (fun q3 ys3 H8 nq3 s8 hq3 hR3 => ?_)
    · obtain ⟨rfl, hx⟩ := y
      have ex : x = V.int (i : Nat) := hx.trans (congrArg V.int (Int.zero_add _))
      rw [ex]
      have s18 := s17.trans s8
      refine ⟨rfl, ?_⟩
      refine ⟨_, rfl, _, rfl, t, _, 0, .ref p1, rfl, rfl, SqT.of (s18 _ _ ht1), rfl, _, rfl, t, _, 1, .ref p2, rfl, rfl, SqT.of (s18 _ _ ht1), rfl, _, rfl, .ref d, p1, p2, row.length, i, bs, lo, ts, ps, gs, rfl, PL1.same s18, O, s18 _ _ hp11, s18 _ _ hp21, Fl.lp, Fl.lg, fun H10 s10 => ?_⟩
      have e0 : sumB bs ps (ind i) + sumT (bends ts) gs (ind i) - sumL (lines ts) (ind i) = 0 := by
        have := Fl.bal (ind i)
        omega
      rw [e0]
      refine ⟨rfl, _, rfl, iteNS rfl ?_⟩
      exact h0 _ s10 rfl
    rw [fm_none] at hR3
    have ey3 : ys3 = [] := hR3.eq_map
    rw [ey3] at hq3
    refine ⟨(by show 0 ≤ sizeLine; exact Nat.zero_le _), fun r3 nr3 => ?_⟩
    have s9 : Same H8 (upd H8 r3 (.lst [])) := same_new nr3
    refine ⟨.list [], .list [], .lst (SqL.of (s9 _ _ hq3)) .nil, .lst (SqL.of upd_same) .nil, rfl, rfl, false, rfl, iteF ?_⟩
    have s19 := (s17.trans s8).trans s9
    generalize upd H8 r3 (.lst []) = H9 at *
    have ht9 := s19 _ _ ht1
    -- worth == cost
    refine ⟨_, rfl, _, rfl, t, _, 0, .ref p1, rfl, rfl, SqT.of ht9, rfl, _, rfl, t, _, 1, .ref p2, rfl, rfl, SqT.of ht9, rfl, .ref d, p1, p2, row.length, bs, lo, ts, ps, gs, rfl, PL1.same s19, O, s19 _ _ hp11, s19 _ _ hp21, Fl.lp, Fl.lg, fun H10 s10 => ?_⟩
    have s110 := s19.trans s10
    refine ⟨_, rfl, _, rfl, .ref d, vr, bs, lo, ts, row, rfl, PL1.same s110, O, (hrow.mono (TEx.of s1)).mono (TEx.of s110), ?_⟩
    refine ⟨rfl, ?_⟩
    rw [hw]
    refine q_bl (decide_eq_true rfl) (k _ (s1.trans s110))
end
end Dt
end

section
set_option Elab.async false
set_option linter.all false
set_option maxRecDepth 100000
set_option maxHeartbeats 4000000
/-! numbered, shuffled, implied -/
namespace Dt
open PySem PySem.Spec PyProof.Rows L2
theorem tps_app {δ : Type} {enc : δ → List V} {H0 H : Hp} {q p : Addr} {vs : List V} {ds : List δ} (d : δ) (nq : H0 q = none) (s : Same H0 H) (hq : H q = some (.lst vs)) (r : Tps enc H vs ds) (hp : H p = some (.tup (enc d))) :
    Same H0 (upd H q (.lst (vs ++ [.ref p]))) ∧ upd H q (.lst (vs ++ [.ref p])) q = some (.lst (vs ++ [.ref p])) ∧ Tps enc (upd H q (.lst (vs ++ [.ref p]))) (vs ++ [.ref p]) (ds ++ [d]) := by
  have t : TEx H (upd H q (.lst (vs ++ [.ref p]))) := TEx.lst hq
  exact ⟨Same.mut s nq, upd_same, Rep.snoc (Tps.mono t r) ⟨p, rfl, t _ _ hp⟩⟩
def nmOf (names : List Nat) (k : Nat) : Nat := names.getD k 0
theorem nm_at {names : List Nat} {k : Nat} (h : k < names.length) : names[k]? = some (nmOf names k) := by
  unfold nmOf
  rw [List.getD_eq_getElem?_getD, List.getElem?_eq_getElem h]
  rfl
theorem rep_perm {δ : Type} {R : V → δ → Prop} {us us' : List V} (h : us'.Perm us) : ∀ {ds : List δ}, Rep R us ds → ∃ ds', ds'.Perm ds ∧ Rep R us' ds' := by
  induction h with
  | nil => intro ds r; exact ⟨ds, List.Perm.refl _, r⟩
  | cons x p ih =>
    intro ds r
    cases ds with
    | nil => have := r.len; simp at this
    | cons d ds =>
      obtain ⟨d', h1, h2⟩ := r.at_ 0 x rfl
      have e : d = d' := Option.some.inj h1
      obtain ⟨ds', p', r'⟩ := ih (ds := ds) ⟨by simpa using r.len, fun i v e => r.at_ (i + 1) v e⟩
      refine ⟨d :: ds', p'.cons d, by simp [r'.len], fun i v ev => ?_⟩
      cases i with
      | zero => exact ⟨d, rfl, by have : x = v := Option.some.inj ev; rw [← this, e]; exact h2⟩
      | succ i => exact r'.at_ i v ev
  | swap x y l =>
    intro ds r
    match ds, r with
    | [], r => have := r.len; simp at this
    | [_], r => have := r.len; simp at this
    | d :: e :: ds, r =>
      refine ⟨e :: d :: ds, List.Perm.swap _ _ _, by simpa using r.len, fun i v ev => ?_⟩
      match i, ev with
      | 0, ev => obtain ⟨d', h1, h2⟩ := r.at_ 1 v ev; exact ⟨d', h1, h2⟩
      | 1, ev => obtain ⟨d', h1, h2⟩ := r.at_ 0 v ev; exact ⟨d', h1, h2⟩
      | i + 2, ev => exact r.at_ (i + 2) v ev
  | trans p q ih1 ih2 =>
    intro ds r
    obtain ⟨d1, p1, r1⟩ := ih2 r
    obtain ⟨d2, p2, r2⟩ := ih1 r1
    exact ⟨d2, p2.trans p1, r2⟩
theorem Rep.take {δ : Type} {R : V → δ → Prop} {vs : List V} {ds : List δ} (h : Rep R vs ds) (j : Nat) : Rep R (vs.take j) (ds.take j) := by
  refine ⟨by rw [List.length_take, List.length_take, h.len], fun i v e => ?_⟩
  rw [List.getElem?_take] at e
  by_cases hi : i < j
  · rw [if_pos hi] at e
    obtain ⟨d, h1, h2⟩ := h.at_ i v e
    exact ⟨d, by rw [List.getElem?_take, if_pos hi]; exact h1, h2⟩
  · rw [if_neg hi] at e
    cases e
theorem cut_to (xs : List V) (j : Nat) : cutV xs none (some (j : Int)) = xs.take j := by
  unfold cutV
  rw [HT.sIx_nat, HT.sIx_none, List.drop_zero, Nat.sub_zero]
  by_cases h : j ≤ xs.length
  · rw [Nat.min_eq_left h]
  · rw [Nat.min_eq_right (by omega), List.take_of_length_le (Nat.le_refl _), List.take_of_length_le (by omega)]
/-- v is data that stands -/
def StD (K : PySem.W.Frag) (H : Hp) (v : V) : Prop := ∃ d, (∀ H', TEx H H' → Dp K H' v d) ∧ d.canLay0 = true ∧ d.depth ≤ 10
theorem dp_exists {K : PySem.W.Frag} {H H' : Hp} (t : TEx H H') : ∀ us : List V, (∀ v ∈ us, StD K H v) → ∃ ds, DpAll K H' us ds ∧ (∀ d ∈ ds, d.canLay0 = true ∧ d.depth ≤ 10) ∧ ds.isEmpty = us.isEmpty
  | [], _ => ⟨[], .nil, fun d h => (by cases h), rfl⟩
  | v :: us, h => by
    obtain ⟨d, h1, h2⟩ := h v (List.mem_cons_self ..)
    obtain ⟨ds, g1, g2, _⟩ := dp_exists t us fun u hu => h u (List.mem_cons_of_mem _ hu)
    refine ⟨d :: ds, .cons (h1 _ t) g1, fun e he => ?_, rfl⟩
    rcases List.mem_cons.mp he with rfl | he
    · exact h2
    · exact g2 e he
theorem eqv_nil' (ds : List PyData) : (!PyData.eqv (.list ds) (.list [])) = !ds.isEmpty := by
  cases ds <;> rfl
section
variable {P : Program} {w : World} {K : PySem.W.Frag} {mg : Str → Option Value} {base : Heap}
abbrev n_L_numbered : List Str := ["_law_rows", "_law_names", "_law_found", "_law_row"]
abbrev p_L_numbered : List Str := ["_law_rows", "_law_names"]
theorem sc_L_numbered : FnScope n_L_numbered p_L_numbered (defScope s_L_numbered) := ⟨rfl, rfl, rfl, by decide +kernel, rfl, by decide +kernel, by decide +kernel⟩
def sp_L_numbered : Sp := fun vs H Q _ => ∃ (vr : V) (pn : Addr) (names : List Nat), vs = [vr, .ref pn] ∧ H pn = some (.lst ((toI names).map V.int)) ∧
  ((∃ bs : List Bd, TuT bdV H vr bs ∧ bs.length ≤ 100 ∧ (∀ b ∈ bs, b.i < names.length ∧ b.j < names.length) ∧ ∀ v H', Same H H' → LsT bdV H' v (bs.map (renB (nmOf names))) → Q v H') ∨
   (∃ ts : List Tm, TuT tmV H vr ts ∧ ts.length ≤ 100 ∧ (∀ t ∈ ts, tmLt names.length t) ∧ ∀ v H', Same H H' → LsT tmV H' v (ts.map (renT (nmOf names))) → Q v H'))
theorem ok_L_numbered {f : Addr} {fd : FuncData} (F : FunD K "_law_numbered" "_law_numbered" (defArgs s_L_numbered) (defBody s_L_numbered) (defScope s_L_numbered) [] [] f fd) (T : Txt K mg) : FnOk P w K mg base CX0 1 f fd p_L_numbered sp_L_numbered := by
  refine ok_by F sc_L_numbered (fun vs H Q E h => ?_) (fun cdv A outer s H vs Q E hr h => ?_)
  · obtain ⟨vr, pn, names, rfl, _⟩ := h
    rfl
  · obtain ⟨vr, pn, names, rfl, hpn, h⟩ := h
    refine ⟨_, (pss_cons (ps_set (i := 2) sc_L_numbered.nd rfl (Or.inl rfl) (pe_lst pa_nil))
      (pss_cons (ps_for PassesOwn.never rfl (pi_tup (pv 0)) (pg_name (i := 3) sc_L_numbered.nd rfl (Or.inl rfl))
        (pss_one (ps_if (pt_cmpR (op_inK K) (pe_ix (ix_tupK K) (pv 3) pe_int (fun _ _ => rfl)) (pe_tup (pa_cons pe_str (pa_cons pe_str pa_nil))) (by rfl)) (pss_one (ps_expr (pe_bm PySem.F.plainAttrs_list PySem.F.slot_list_append PySem.F.type_list_append mt_append (pv 2) (pa_cons (pe_op op_catT (pe_tup (pa_cons (pe_ix (ix_tupK K) (pv 3) pe_int (fun _ _ => rfl)) (pa_cons (pe_ix (ix_listK K) (pv 1) (pe_ix (ix_tupK K) (pv 3) pe_int (fun _ _ => rfl)) (fun _ _ => rfl)) (pa_cons (pe_ix (ix_listK K) (pv 1) (pe_ix (ix_tupK K) (pv 3) pe_int (fun _ _ => rfl)) (fun _ _ => rfl)) pa_nil)))) (pe_slice (sl_tupK K) (pv 3) (po_some pe_int) po_none)) pa_nil)))) (pss_one (ps_expr (pe_bm PySem.F.plainAttrs_list PySem.F.slot_list_append PySem.F.type_list_append mt_append (pv 2) (pa_cons (pe_tup (pa_cons (pe_ix (ix_listK K) (pv 1) (pe_ix (ix_tupK K) (pv 3) pe_int (fun _ _ => rfl)) (fun _ _ => rfl)) (pa_cons (pe_ix (ix_listK K) (pv 1) (pe_ix (ix_tupK K) (pv 3) pe_int (fun _ _ => rfl)) (fun _ _ => rfl)) (pa_cons (pe_ix (ix_tupK K) (pv 3) pe_int (fun _ _ => rfl)) pa_nil)))) pa_nil)))))))
      (pss_one (ps_ret (pv 2))))), ?_⟩
    refine ⟨(by show 0 ≤ sizeLine; exact Nat.zero_le _), fun q nq => ?_⟩
    have s1 : Same H (upd H q (.lst [])) := same_new nq
    have hq1 : upd H q (.lst []) q = some (.lst []) := upd_same
    generalize upd H q (.lst []) = H1 at *
    rcases h with ⟨bs, ⟨pb, ub, rfl, hpb, hub⟩, hl, hlt, k⟩ | ⟨ts, ⟨pt, ut, rfl, hpt, hut⟩, hl, hlt, k⟩
    · refine ⟨_, rfl, pb, rfl, ⟨_, SqT.of (s1 _ _ hpb)⟩, ?_⟩
      refine for_it (walk_tup (K := K) (a := pb) (xs := ub)) (fun i σ H' => ∃ (x3 : Option V) (us : List V), σ = [some (.ref pb), some (.ref pn), some (.ref q), x3] ∧ Same H H' ∧ H' q = some (.lst us) ∧ Tps bdV H' us ((bs.take i).map (renB (nmOf names))))
        ⟨none, [], rfl, s1, hq1, Rep.nil⟩ (fun i σ H' _ p => ?_) (fun i x σ H2 H3 hi p y => ?_) (fun σ H' p => ?_)
      · obtain ⟨_, _, _, s2, _⟩ := p
        exact SqT.of (s2 _ _ hpb)
      · obtain ⟨x3, us, rfl, s2, hq2, hR⟩ := p
        obtain ⟨rfl, hx⟩ := y
        obtain ⟨b, hb, e, rfl, he⟩ := hub.at_ i x hx
        obtain ⟨b1, b2⟩ := hlt b (List.mem_of_getElem? hb)
        have hil := (List.getElem?_eq_some_iff.mp hb).1
        have he2 := s2 _ _ he
        refine ⟨_, rfl, e, _, 0, .int b.i, rfl, rfl, SqT.of he2, rfl, (by show 2 ≤ sizeLine; decide), fun c nc => ⟨c, _, rfl, .inr (SqT.of upd_same), rfl, rfl, false, rfl, iteF ?_⟩⟩
        have s3 : Same H3 (upd H3 c (.tup [.str "line", .str "bend"])) := same_new nc
        have hq3 := s3 _ _ hq2
        have he3 := s3 _ _ he2
        have hpn3 := s3 _ _ (s2 _ _ hpn)
        have hR3 := Tps.mono (TEx.of s3) hR
        have s23 := s2.trans s3
        generalize upd H3 c (.tup [.str "line", .str "bend"]) = H4 at *
        refine ⟨_, rfl, Or.inl ⟨rfl, _, SqL.of hq3⟩, _, rfl, _, rfl, e, _, 0, .int b.i, rfl, rfl, SqT.of he3, rfl, pn, _, _, _, rfl, rfl, SqL.of hpn3, atI_nat (toI_at (nm_at b1)), ?_⟩
        refine ⟨_, rfl, _, rfl, e, _, 1, .int b.j, rfl, rfl, SqT.of he3, rfl, pn, _, _, _, rfl, rfl, SqL.of hpn3, atI_nat (toI_at (nm_at b2)), ?_⟩
        refine ⟨_, rfl, e, _, 2, .int b.d, rfl, rfl, SqT.of he3, rfl, (by show 3 ≤ sizeLine; decide), fun t nt => ?_⟩
        have s4 : Same H4 (upd H4 t (.tup (bdV (renB (nmOf names) b)))) := same_new nt
        refine ⟨q, us, _, rfl, rfl, s4 _ _ hq3, small1000 (by rw [hR.len, List.length_map, List.length_take]; omega), ?_⟩
        obtain ⟨g1, g2, g3⟩ := tps_app (renB (nmOf names) b) nq (s23.trans s4) (s4 _ _ hq3) (Tps.mono (TEx.of s4) hR3) upd_same
        exact ⟨_, us ++ [V.ref t], rfl, g1, g2, by rw [take_succ_at hb, List.map_append]; exact g3⟩
      · obtain ⟨x3, us, rfl, s2, hq2, hR⟩ := p
        rw [hub.len, List.take_length] at hR
        exact ⟨_, rfl, k _ _ s2 ⟨q, us, rfl, hq2, hR⟩⟩
    · refine ⟨_, rfl, pt, rfl, ⟨_, SqT.of (s1 _ _ hpt)⟩, ?_⟩
      refine for_it (walk_tup (K := K) (a := pt) (xs := ut)) (fun i σ H' => ∃ (x3 : Option V) (us : List V), σ = [some (.ref pt), some (.ref pn), some (.ref q), x3] ∧ Same H H' ∧ H' q = some (.lst us) ∧ Tps tmV H' us ((ts.take i).map (renT (nmOf names))))
        ⟨none, [], rfl, s1, hq1, Rep.nil⟩ (fun i σ H' _ p => ?_) (fun i x σ H2 H3 hi p y => ?_) (fun σ H' p => ?_)
      · obtain ⟨_, _, _, s2, _⟩ := p
        exact SqT.of (s2 _ _ hpt)
      · obtain ⟨x3, us, rfl, s2, hq2, hR⟩ := p
        obtain ⟨rfl, hx⟩ := y
        obtain ⟨t, ht, e, rfl, he⟩ := hut.at_ i x hx
        have hlt' := hlt t (List.mem_of_getElem? ht)
        have hil := (List.getElem?_eq_some_iff.mp ht).1
        have he2 := s2 _ _ he
        cases t with
        | ln l =>
          obtain ⟨b1, b2⟩ := hlt'
          refine ⟨_, rfl, e, _, 0, .str "line", rfl, rfl, SqT.of he2, rfl, (by show 2 ≤ sizeLine; decide), fun c nc => ⟨c, _, rfl, .inr (SqT.of upd_same), rfl, rfl, true, rfl, iteT ?_⟩⟩
          have s3 : Same H3 (upd H3 c (.tup [.str "line", .str "bend"])) := same_new nc
          have hq3 := s3 _ _ hq2
          have he3 := s3 _ _ he2
          have hpn3 := s3 _ _ (s2 _ _ hpn)
          have hR3 := Tps.mono (TEx.of s3) hR
          have s23 := s2.trans s3
          generalize upd H3 c (.tup [.str "line", .str "bend"]) = H4 at *
          refine ⟨_, rfl, Or.inl ⟨rfl, _, SqL.of hq3⟩, _, rfl, e, _, 0, .str "line", rfl, rfl, SqT.of he3, rfl, ?_⟩
          refine ⟨_, rfl, _, rfl, e, _, 1, .int l.i, rfl, rfl, SqT.of he3, rfl, pn, _, _, _, rfl, rfl, SqL.of hpn3, atI_nat (toI_at (nm_at b1)), ?_⟩
          refine ⟨_, rfl, _, rfl, e, _, 2, .int l.j, rfl, rfl, SqT.of he3, rfl, pn, _, _, _, rfl, rfl, SqL.of hpn3, atI_nat (toI_at (nm_at b2)), (by show 3 ≤ sizeLine; decide), fun t1 nt1 => ?_⟩
          have s4 : Same H4 (upd H4 t1 (.tup [.str "line", .int (nmOf names l.i), .int (nmOf names l.j)])) := same_new nt1
          have he4 := s4 _ _ he3
          have ht1 : upd H4 t1 (.tup [.str "line", .int (nmOf names l.i), .int (nmOf names l.j)]) t1 = some (.tup [.str "line", .int (nmOf names l.i), .int (nmOf names l.j)]) := upd_same
          refine ⟨_, rfl, 3, rfl, e, _, rfl, SqT.of he4, fun z => absurd z.1 (show ¬ (HT.sIx 4 0 (some 3) = 0) by decide), fun t2 nt2 => ?_⟩
          have s5 := same_new (o := .tup (cutV (tmV (.ln l)) (some 3) none)) nt2
          refine ⟨t1, t2, _, _, rfl, rfl, SqT.of (s5 _ _ ht1), SqT.of upd_same, (fun z => by cases z), (by show 3 + 1 ≤ sizeLine; decide), (fun z => by cases z), fun _ t3 nt3 => ?_⟩
          have s6 := same_new (o := .tup (tmV (renT (nmOf names) (.ln l)))) nt3
          have s46 := (s4.trans s5).trans s6
          refine ⟨q, us, _, rfl, rfl, s46 _ _ hq3, small1000 (by rw [hR.len, List.length_map, List.length_take]; omega), ?_⟩
          obtain ⟨g1, g2, g3⟩ := tps_app (renT (nmOf names) (.ln l)) nq (s23.trans s46) (s46 _ _ hq3) (Tps.mono (TEx.of s46) hR3) upd_same
          exact ⟨_, us ++ [V.ref t3], rfl, g1, g2, by rw [take_succ_at ht, List.map_append]; exact g3⟩
        | bn l =>
          obtain ⟨b1, b2⟩ := hlt'
          refine ⟨_, rfl, e, _, 0, .str "bend", rfl, rfl, SqT.of he2, rfl, (by show 2 ≤ sizeLine; decide), fun c nc => ⟨c, _, rfl, .inr (SqT.of upd_same), rfl, rfl, true, rfl, iteT ?_⟩⟩
          have s3 : Same H3 (upd H3 c (.tup [.str "line", .str "bend"])) := same_new nc
          have hq3 := s3 _ _ hq2
          have he3 := s3 _ _ he2
          have hpn3 := s3 _ _ (s2 _ _ hpn)
          have hR3 := Tps.mono (TEx.of s3) hR
          have s23 := s2.trans s3
          generalize upd H3 c (.tup [.str "line", .str "bend"]) = H4 at *
          refine ⟨_, rfl, Or.inl ⟨rfl, _, SqL.of hq3⟩, _, rfl, e, _, 0, .str "bend", rfl, rfl, SqT.of he3, rfl, ?_⟩
          refine ⟨_, rfl, _, rfl, e, _, 1, .int l.i, rfl, rfl, SqT.of he3, rfl, pn, _, _, _, rfl, rfl, SqL.of hpn3, atI_nat (toI_at (nm_at b1)), ?_⟩
          refine ⟨_, rfl, _, rfl, e, _, 2, .int l.j, rfl, rfl, SqT.of he3, rfl, pn, _, _, _, rfl, rfl, SqL.of hpn3, atI_nat (toI_at (nm_at b2)), (by show 3 ≤ sizeLine; decide), fun t1 nt1 => ?_⟩
          have s4 : Same H4 (upd H4 t1 (.tup [.str "bend", .int (nmOf names l.i), .int (nmOf names l.j)])) := same_new nt1
          have he4 := s4 _ _ he3
          have ht1 : upd H4 t1 (.tup [.str "bend", .int (nmOf names l.i), .int (nmOf names l.j)]) t1 = some (.tup [.str "bend", .int (nmOf names l.i), .int (nmOf names l.j)]) := upd_same
          refine ⟨_, rfl, 3, rfl, e, _, rfl, SqT.of he4, fun z => absurd z.1 (show ¬ (HT.sIx 5 0 (some 3) = 0) by decide), fun t2 nt2 => ?_⟩
          have s5 := same_new (o := .tup (cutV (tmV (.bn l)) (some 3) none)) nt2
          refine ⟨t1, t2, _, _, rfl, rfl, SqT.of (s5 _ _ ht1), SqT.of upd_same, (fun z => by cases z), (by show 3 + 2 ≤ sizeLine; decide), (fun z => by cases z), fun _ t3 nt3 => ?_⟩
          have s6 := same_new (o := .tup (tmV (renT (nmOf names) (.bn l)))) nt3
          have s46 := (s4.trans s5).trans s6
          refine ⟨q, us, _, rfl, rfl, s46 _ _ hq3, small1000 (by rw [hR.len, List.length_map, List.length_take]; omega), ?_⟩
          obtain ⟨g1, g2, g3⟩ := tps_app (renT (nmOf names) (.bn l)) nq (s23.trans s46) (s46 _ _ hq3) (Tps.mono (TEx.of s46) hR3) upd_same
          exact ⟨_, us ++ [V.ref t3], rfl, g1, g2, by rw [take_succ_at ht, List.map_append]; exact g3⟩
      · obtain ⟨x3, us, rfl, s2, hq2, hR⟩ := p
        rw [hut.len, List.take_length] at hR
        exact ⟨_, rfl, k _ _ s2 ⟨q, us, rfl, hq2, hR⟩⟩
abbrev n_L_shuffled : List Str := ["_law_source_here", "_law_items", "_law_rest", "_law_found"]
abbrev p_L_shuffled : List Str := ["_law_source_here", "_law_items"]
theorem sc_L_shuffled : FnScope n_L_shuffled p_L_shuffled (defScope s_L_shuffled) := ⟨rfl, rfl, rfl, by decide +kernel, rfl, by decide +kernel, by decide +kernel⟩
def sp_L_shuffled (K : PySem.W.Frag) : Sp := fun vs H Q _ => ∃ (p qi : Addr) (b : Nat) (us : List V), vs = [.ref p, .ref qi] ∧ Src H p b ∧ H qi = some (.lst us) ∧ us.length ≤ 200 ∧ b ≤ 100000000 ∧ (∀ v ∈ us, StD K H v) ∧
  ∀ q us' H', q ≠ p → SameX p H H' → Src H' p (b + us.length) → H' q = some (.lst us') → us'.Perm us → Q (.ref q) H'
theorem ok_L_shuffled {f : Addr} {fd : FuncData} (F : FunD K "_law_shuffled" "_law_shuffled" (defArgs s_L_shuffled) (defBody s_L_shuffled) (defScope s_L_shuffled) [] [] f fd) (T : Txt K mg) (C_L_next : Cal P w K mg base "_law_next" 1 p_L_next sp_L_next) : FnOk P w K mg base CX0 2 f fd p_L_shuffled (sp_L_shuffled K) := by
  refine ok_by F sc_L_shuffled (fun vs H Q E h => ?_) (fun cdv A outer s H vs Q E hr h => ?_)
  · obtain ⟨p, qi, b, us, rfl, _⟩ := h
    rfl
  · obtain ⟨p, qi, b, us, rfl, hS, hqi, hl, hb, hst, k⟩ := h
    refine ⟨_, (pss_cons (ps_par (i := 2) (j := 3) (by rfl) sc_L_shuffled.nd rfl rfl (by decide) rfl rfl (pa_cons (pe_callTy call_list_of (by rfl) T.list (by decide +kernel) (pa_cons (pv 1) pa_nil)) (pa_cons (pe_lst pa_nil) pa_nil)) (by rfl))
      (pss_cons (ps_while PassesOwn.never (pt_cmpR (op_neD hr.units) (pv 2) (pe_lst pa_nil) (nomark _))
        (pss_one (ps_expr (pe_bm PySem.F.plainAttrs_list PySem.F.slot_list_append PySem.F.type_list_append mt_append (pv 3) (pa_cons (pe_bm PySem.F.plainAttrs_list PySem.F.slot_list_pop PySem.F.type_list_pop mt_popAt (pv 2) (pa_cons (pe_cal C_L_next hr (by decide) (pa_cons (pv 0) (pa_cons (pe_callB call_len_seq (by rfl) T.len (by decide +kernel) (pa_cons (pv 2) pa_nil)) pa_nil))) pa_nil)) pa_nil)))))
      (pss_one (ps_ret (pv 3))))), ?_⟩
    obtain ⟨xs0, hp0⟩ := hS.some
    refine ⟨_, rfl, qi, us, rfl, .inl (SqL.of hqi), fun qr nqr => ?_⟩
    have s1 : Same H (upd H qr (.lst us)) := same_new nqr
    have hqr1 : upd H qr (.lst us) qr = some (.lst us) := upd_same
    generalize upd H qr (.lst us) = H1 at *
    refine ⟨(by show 0 ≤ sizeLine; exact Nat.zero_le _), fun qf nqf => ?_⟩
    have s2 : Same H1 (upd H1 qf (.lst [])) := same_new nqf
    have hqf2 : upd H1 qf (.lst []) qf = some (.lst []) := upd_same
    have hqr2 := s2 _ _ hqr1
    have s12 := s1.trans s2
    generalize upd H1 qf (.lst []) = H2 at *
    refine ⟨_, _, rfl, ?_⟩
    have nqfH := fresh_of s1 nqf
    have drf : qr ≠ qf := ne_new nqf hqr1
    have dpr : p ≠ qr := ne_new nqr hp0
    have dpf : p ≠ qf := ne_new nqfH hp0
    let J : Nat → List (Option V) → Hp → Prop := fun m σ H' => ∃ (rs fs : List V), σ = [some (.ref p), some (.ref qi), some (.ref qr), some (.ref qf)] ∧ SameX p H H' ∧ Src H' p (b + fs.length) ∧
      H' qr = some (.lst rs) ∧ H' qf = some (.lst fs) ∧ (fs ++ rs).Perm us ∧ m = rs.length
    refine ⟨J, ⟨_, us, [], rfl, SameX.of s12, hS.same s12, hqr2, hqf2, List.Perm.refl _, rfl⟩, ?_⟩
    rintro m σ H3 ⟨rs, fs, rfl, s3, S3, hqr, hqf, hperm, rfl⟩
    have hlen : fs.length + rs.length = us.length := by
      have := hperm.length_eq
      rw [List.length_append] at this
      exact this
    refine ⟨_, rfl, (by show 0 ≤ sizeLine; exact Nat.zero_le _), fun q nq => ?_⟩
    have s4 : Same H3 (upd H3 q (.lst [])) := same_new nq
    have s34 := s3.trans (SameX.of (a := p) s4)
    obtain ⟨ds, hd1, hd2, hd3⟩ := dp_exists (hS.tex s34) rs fun v hv => hst v (hperm.subset (List.mem_append_right _ hv))
    refine ⟨.list ds, .list [], .lst (SqL.of (s4 _ _ hqr)) hd1, .lst (SqL.of upd_same) .nil, shaped_list hd2, rfl, ?_⟩
    rw [eqv_nil', hd3]
    refine ⟨_, rfl, ?_⟩
    have hqf4 := s4 _ _ hqf
    have hqr4 := s4 _ _ hqr
    have S4 := S3.same s4
    generalize upd H3 q (.lst []) = H4 at *
    cases hrs : rs with
    | cons v0 r0 =>
      refine iteT ?_
      have hpos : 0 < rs.length := by rw [hrs]; simp
      rw [← hrs]
      refine ⟨fun σ' H' => ∃ m', m' < rs.length ∧ J m' σ' H', fun σ' H' h => h, ?_⟩
      refine ⟨_, rfl, Or.inl ⟨rfl, _, SqL.of hqf4⟩, _, rfl, Or.inl ⟨rfl, _, SqL.of hqr4⟩, _, rfl, _, rfl, qr, _, rfl, .inl (SqL.of hqr4), p, rs.length, b + fs.length, rfl, S4, hpos, by omega, by omega, fun r H5 s5 S5 hr5 => ?_⟩
      obtain ⟨v, hv⟩ : ∃ v, rs[r]? = some v := ⟨_, List.getElem?_eq_getElem hr5⟩
      have hqf5 := s5 _ _ (fun e => dpf e.symm) hqf4
      have hqr5 := s5 _ _ (fun e => dpr e.symm) hqr4
      refine ⟨qr, _, _, r, _, rfl, rfl, hqr5, by omega, by omega, (ixN_seq (ix_nat hr5)).1, hv, ?_⟩
      refine ⟨qf, _, _, rfl, rfl, (by rw [upd_ne (fun e => drf e.symm)]; exact hqf5), small1000 (by omega), ?_⟩
      have hel : (rs.eraseIdx r).length = rs.length - 1 := List.length_eraseIdx_of_lt hr5
      refine ⟨(rs.eraseIdx r).length, by omega, rs.eraseIdx r, fs ++ [v], rfl, SameX.mut (SameX.mut (s34.trans s5) nqr) nqfH, ?_, by rw [upd_ne drf, upd_same], upd_same, ?_, rfl⟩
      · rw [List.length_append, List.length_singleton, ← Nat.add_assoc]
        exact (S5.upd (fun e => dpr e.symm)).upd (fun e => dpf e.symm)
      · rw [List.append_assoc]
        exact ((erase_perm hv).append_left fs).trans hperm
    | nil =>
      refine iteF ?_
      rw [hrs] at hperm hlen
      rw [List.append_nil] at hperm
      have fl : fs.length = us.length := by simpa using hlen
      rw [fl] at S4
      exact ⟨_, rfl, k qf fs H4 (fun e => dpf e.symm) s34 S4 hqf4 hperm⟩
def Imp (bs : List Bd) (e : Bd) : Prop := ∃ c ∈ bs, ∃ e' ∈ bs, e'.i = c.j ∧ e = ⟨c.i, e'.j, c.d + e'.d⟩
abbrev n_L_implied : List Str := ["_law_links", "_law_found", "_law_i", "_law_j", "_law_d", "_law_near", "_law_far", "_law_more"]
abbrev p_L_implied : List Str := ["_law_links"]
theorem sc_L_implied : FnScope n_L_implied p_L_implied (defScope s_L_implied) := ⟨rfl, rfl, rfl, by decide +kernel, rfl, by decide +kernel, by decide +kernel⟩
def sp_L_implied : Sp := fun vs H Q _ => ∃ (pl : Addr) (bs : List Bd), vs = [.ref pl] ∧ LsT bdV H (.ref pl) bs ∧ bs.length ≤ 16 ∧ ∀ v H' es, Same H H' → LsT bdV H' v es → (∀ e ∈ es, Imp bs e) → es.length ≤ 3 → Q v H'
theorem ok_L_implied {f : Addr} {fd : FuncData} (F : FunD K "_law_implied" "_law_implied" (defArgs s_L_implied) (defBody s_L_implied) (defScope s_L_implied) [] [] f fd) (T : Txt K mg) : FnOk P w K mg base CX0 1 f fd p_L_implied sp_L_implied := by
  refine ok_by F sc_L_implied (fun vs H Q E h => ?_) (fun cdv A outer s H vs Q E hr h => ?_)
  · obtain ⟨pl, bs, rfl, _⟩ := h
    rfl
  · obtain ⟨pl, bs, rfl, ⟨p', ub, e, hpb, hub⟩, hl, k⟩ := h
    cases e
    refine ⟨_, (pss_cons (ps_set (i := 1) sc_L_implied.nd rfl (Or.inl rfl) (pe_lst pa_nil))
      (pss_cons (ps_for PassesOwn.never rfl (pi_list (pv 0)) (pg_tupK K 3 rfl (pgs_cons (pg_name (i := 2) sc_L_implied.nd rfl (Or.inr rfl)) (pgs_cons (pg_name (i := 3) sc_L_implied.nd rfl (Or.inr rfl)) (pgs_cons (pg_name (i := 4) sc_L_implied.nd rfl (Or.inr rfl)) pgs_nil))))
        (pss_one (ps_set (i := 1) sc_L_implied.nd rfl (Or.inl rfl) (pe_op op_cat (pv 1) (pe_lc (own := [("_law_near", 5), ("_law_far", 6), ("_law_more", 7)]) (by rfl) sc_L_implied.nd (pi_list (pv 0)) (blkOk_by (own := [("_law_near", 5), ("_law_far", 6), ("_law_more", 7)]) (N := n_L_implied) (sc := defScope s_L_implied) (by decide +kernel)) (fun _ _ _ _ _ => (pg_tupK K 3 rfl (pgs_cons (pg_name (i := 5) sc_L_implied.nd rfl (Or.inl rfl)) (pgs_cons (pg_name (i := 6) sc_L_implied.nd rfl (Or.inl rfl)) (pgs_cons (pg_name (i := 7) sc_L_implied.nd rfl (Or.inl rfl)) pgs_nil))))) (fun _ _ _ _ _ => (pts_one (pt_cmpR op_eq (pv 5) (pv 3) (nomark _)))) (fun _ _ _ _ _ => (pe_tup (pa_cons (pv 2) (pa_cons (pv 6) (pa_cons (pe_op op_add (pv 4) (pv 7)) pa_nil))))))))))
      (pss_one (ps_ret (pe_slice (sl_listK K) (pv 1) po_none (po_some pe_int)))))), ?_⟩
    refine ⟨(by show 0 ≤ sizeLine; exact Nat.zero_le _), fun q0 nq0 => ?_⟩
    have s1 : Same H (upd H q0 (.lst [])) := same_new nq0
    have hpb1 := s1 _ _ hpb
    refine ⟨_, rfl, pl, rfl, ⟨_, SqL.of hpb1⟩, ?_⟩
    refine for_it (walk_list (K := K) (a := pl) (xs := ub)) (fun i σ H' => ∃ (q : Addr) (us : List V) (es : List Bd) (x2 x3 x4 : Option V), σ = [some (.ref pl), some (.ref q), x2, x3, x4, none, none, none] ∧ Same H H' ∧ H' q = some (.lst us) ∧ Tps bdV H' us es ∧ (∀ e ∈ es, Imp bs e) ∧ es.length ≤ 16 * i)
      ⟨q0, [], [], none, none, none, rfl, s1, upd_same, Rep.nil, fun e h => (by cases h), Nat.zero_le _⟩ (fun i σ H' _ p => ?_) (fun i x σ H2 H3 hi p y => ?_) (fun σ H' p => ?_)
    · obtain ⟨_, _, _, _, _, _, _, s2, _⟩ := p
      exact SqL.of (s2 _ _ hpb)
    · obtain ⟨q, us, es, x2, x3, x4, rfl, s2, hq, hR, him, hel⟩ := p
      obtain ⟨rfl, hx⟩ := y
      obtain ⟨c, hc, e, rfl, he⟩ := hub.at_ i x hx
      have cm := List.mem_of_getElem? hc
      have hil := (List.getElem?_eq_some_iff.mp hc).1
      have he2 := s2 _ _ he
      have hpb2 := s2 _ _ hpb
      have hub2 := Tps.mono (TEx.of s2) hub
      refine ⟨e, _, rfl, SqT.of he2, rfl, .int c.i, _, rfl, .int c.j, _, rfl, .int c.d, _, rfl, rfl, ?_⟩
      refine ⟨_, rfl, _, rfl, pl, rfl, ⟨_, SqL.of hpb2⟩, ?_⟩
      refine lc_rep (walk_list (K := K) (a := pl) (xs := ub)) (δ := Bd) (fun H v d => Tp H v (bdV d)) (fun _ _ _ _ e h => h.mono e) (fun H' s => s.seq (SqL.of hpb2))
        (fun i => (kp bs (fun x => decide (x.i = c.j)) i).map fun x => (⟨c.i, x.j, c.d + x.d⟩ : Bd)) (by rw [hub.len]; omega) (fun i x H4 H5 hi s4 y K1 K0 h1 h0 => ?_) (fun r ys H4 nr s4 hr hR2 => ?_)
      · obtain ⟨rfl, hx⟩ := y
        obtain ⟨b, hb, g, rfl, hg⟩ := hub2.at_ i x hx
        have hg4 := s4 _ _ hg
        refine ⟨g, _, rfl, SqT.of hg4, rfl, .int b.i, _, rfl, .int b.j, _, rfl, .int b.d, _, rfl, rfl, rfl, ?_⟩
        refine ⟨_, rfl, _, rfl, rfl, _, rfl, ?_⟩
        by_cases hm : b.i = c.j
        · refine iteD (by rw [hm]) ?_
          refine ⟨_, rfl, _, rfl, _, rfl, _, rfl, _, _, rfl, rfl, (by show 3 ≤ sizeLine; decide), fun t nt => ?_⟩
          exact h1 _ ⟨c.i, b.j, c.d + b.d⟩ _ (same_new nt) (by rw [kp_yes hb (decide_eq_true hm)]; rfl) ⟨t, rfl, upd_same⟩
        · refine iteN (fun z => by have := V.int.inj z; omega) ?_
          exact h0 _ (Same.refl _) (by rw [kp_no hb (decide_eq_false hm)]; rfl)
      · generalize hfm : (List.range ub.length).filterMap (fun i => (kp bs (fun x => decide (x.i = c.j)) i).map fun x => (⟨c.i, x.j, c.d + x.d⟩ : Bd)) = fm at hR2
        have lfm : fm.length ≤ 16 := by
          rw [← hfm]
          refine Nat.le_trans (List.length_filterMap_le _ _) ?_
          rw [List.length_range, hub.len]
          exact hl
        have gfm : ∀ e ∈ fm, Imp bs e := fun e he => by
          rw [← hfm] at he
          obtain ⟨i, _, hi⟩ := List.mem_filterMap.mp he
          unfold kp at hi
          cases hbi : bs[i]? with
          | none => rw [hbi] at hi; cases hi
          | some b =>
            rw [hbi] at hi
            by_cases hp : b.i = c.j
            · have hi' : some (⟨c.i, b.j, c.d + b.d⟩ : Bd) = some e := by simpa [hp] using hi
              exact ⟨c, cm, b, List.mem_of_getElem? hbi, hp, (Option.some.inj hi').symm⟩
            · simp [hp] at hi
        refine ⟨q, r, us, ys, rfl, rfl, s4 _ _ hq, hr, Nat.le_of_lt (small1000 (by rw [hR.len, hR2.len]; omega)), fun t nt => ?_⟩
        have s5 : Same H4 (upd H4 t (.lst (us ++ ys))) := same_new nt
        refine ⟨t, us ++ ys, es ++ fm, some (.int c.i), some (.int c.j), some (.int c.d), rfl, (s2.trans s4).trans s5, upd_same, Rep.append (Tps.mono (TEx.of (s4.trans s5)) hR) (Tps.mono (TEx.of s5) hR2), fun e he => ?_, by rw [List.length_append]; omega⟩
        rcases List.mem_append.mp he with he | he
        · exact him e he
        · exact gfm e he
    · obtain ⟨q, us, es, x2, x3, x4, rfl, s2, hq, hR, him, hel⟩ := p
      refine ⟨_, rfl, 3, rfl, q, us, rfl, SqL.of hq, fun t nt => ?_⟩
      have ecut : cutV us none (some 3) = us.take 3 := cut_to us 3
      rw [ecut]
      have s3 : Same H' (upd H' t (.lst (us.take 3))) := same_new nt
      exact k _ _ (es.take 3) (s2.trans s3) ⟨t, _, rfl, upd_same, Tps.mono (TEx.of s3) (hR.take 3)⟩ (fun e he => him e (List.mem_of_mem_take he)) (by rw [List.length_take]; omega)
end
end Dt
end

section
set_option Elab.async false
set_option linter.all false
set_option maxRecDepth 100000
set_option maxHeartbeats 4000000
/-! the whole of two problems: the plain law -/
namespace Dt
open PySem PySem.Spec PyProof.Rows L2
/-- two sorted lists of the same members are one -/
theorem sorted_one : ∀ {l m : List Int}, l.Pairwise (· ≤ ·) → m.Pairwise (· ≤ ·) → l.Perm m → l = m
  | [], m, _, _, p => (List.Perm.nil_eq p)
  | a :: l, [], _, _, p => absurd p.length_eq (by simp)
  | a :: l, b :: m, hl, hm, p => by
    have h1 : a ≤ b := by
      rcases List.mem_cons.mp (p.mem_iff.mpr (List.mem_cons_self (a := b) (l := m))) with e | h
      · omega
      · exact List.rel_of_pairwise_cons hl h
    have h2 : b ≤ a := by
      rcases List.mem_cons.mp (p.mem_iff.mp (List.mem_cons_self (a := a) (l := l))) with e | h
      · omega
      · exact List.rel_of_pairwise_cons hm h
    have e : a = b := by omega
    subst e
    rw [sorted_one (List.Pairwise.of_cons hl) (List.Pairwise.of_cons hm) (List.Perm.cons_inv p)]
theorem range_sorted (n : Nat) : (toI (List.range n)).Pairwise (· ≤ ·) := by
  unfold toI
  rw [List.pairwise_map]
  refine List.Pairwise.imp (fun {a b} h => ?_) (List.pairwise_lt_range (n := n))
  omega
/-- the values by the names -/
theorem by_names {N : Nat} {names : List Nat} {vals : List Int} {ps : List (Int × Int)} (hn : names.Perm (List.range N)) (hv : vals.length = N) (hp : ps.Perm ((toI names).zip vals)) (hs : ps.Pairwise fun e f => e.1 ≤ f.1) :
    (ps.map Prod.snd).length = N ∧ ∀ k, k < N → rowAt (ps.map Prod.snd) (nmOf names k) = rowAt vals k := by
  have ln : names.length = N := by rw [hn.length_eq, List.length_range]
  have lI : (toI names).length = N := by simp [toI, ln]
  have lp : ps.length = N := by rw [hp.length_eq, List.length_zip, lI, hv, Nat.min_self]
  have hf : ps.map Prod.fst = toI (List.range N) := by
    refine sorted_one (by rw [List.pairwise_map]; exact hs) (range_sorted N) ?_
    have h1 := hp.map Prod.fst
    rw [List.map_fst_zip (by rw [lI, hv]; exact Nat.le_refl _)] at h1
    exact h1.trans (hn.map _)
  refine ⟨by rw [List.length_map, lp], fun k hk => ?_⟩
  have e1 : (toI names)[k]? = some ((nmOf names k : Nat) : Int) := by
    unfold toI
    rw [List.getElem?_map, nm_at (by omega)]
    rfl
  have e2 := rowAt_of (l := vals) (v := k) (by omega)
  have hm : (((nmOf names k : Nat) : Int), rowAt vals k) ∈ ps := hp.symm.subset (List.mem_of_getElem? (zip_at e1 e2))
  obtain ⟨j, hj⟩ := List.mem_iff_getElem?.mp hm
  have hjl := (List.getElem?_eq_some_iff.mp hj).1
  have hfj : (ps.map Prod.fst)[j]? = some ((nmOf names k : Nat) : Int) := by rw [List.getElem?_map, hj]; rfl
  rw [hf] at hfj
  unfold toI at hfj
  rw [List.getElem?_map, List.getElem?_range (by omega)] at hfj
  have ej : ((j : Nat) : Int) = ((nmOf names k : Nat) : Int) := Option.some.inj hfj
  have ej' : nmOf names k = j := by omega
  have hsj : (ps.map Prod.snd)[j]? = some (rowAt vals k) := by rw [List.getElem?_map, hj]; rfl
  have := rowAt_of (l := ps.map Prod.snd) (v := j) (by rw [List.length_map]; exact hjl)
  rw [hsj] at this
  rw [ej']
  exact (Option.some.inj this).symm
theorem rowAt_app1 {l m : List Int} {k : Nat} (h : k < l.length) : rowAt (l ++ m) k = rowAt l k := by
  unfold rowAt
  rw [List.getD_eq_getElem?_getD, List.getD_eq_getElem?_getD, List.getElem?_append_left h]
theorem rowAt_app2 {l m : List Int} {k : Nat} : rowAt (l ++ m) (l.length + k) = rowAt m k := by
  unfold rowAt
  rw [List.getD_eq_getElem?_getD, List.getD_eq_getElem?_getD, List.getElem?_append_right (Nat.le_add_right _ _), Nat.add_sub_cancel_left]
theorem nm_drop (names : List Nat) (n k : Nat) : nmOf (names.drop n) k = nmOf names (n + k) := by
  unfold nmOf
  rw [List.getD_eq_getElem?_getD, List.getD_eq_getElem?_getD, List.getElem?_drop]
theorem tmOk_lt {n : Nat} {t : Tm} (h : tmOk n t) : tmLt n t := by
  cases t with
  | ln l => exact ⟨h.1, h.2.1⟩
  | bn b => exact ⟨h.1, h.2.1⟩
theorem tmOk_ren {n N : Nat} {f : Nat → Nat} (hf : ∀ k, k < n → f k < N) (inj : ∀ k l, k < n → l < n → f k = f l → k = l) {t : Tm} (h : tmOk n t) : tmOk N (renT f t) := by
  cases t with
  | ln l =>
    obtain ⟨h1, h2, h3, h4, h5⟩ := h
    exact ⟨hf _ h1, hf _ h2, fun e => h3 (inj _ _ h1 h2 e), h4, h5⟩
  | bn b =>
    obtain ⟨h1, h2, h3, h4⟩ := h
    exact ⟨hf _ h1, hf _ h2, fun e => h3 (inj _ _ h1 h2 e), h4⟩
/-- what the law puts together -/
structure Whole (n1 n2 : Nat) (bs1 bs2 : List Bd) (lo1 lo2 : List Int) (ts1 ts2 : List Tm) (names : List Nat) (bsB : List Bd) (loB : List Int) (tsB : List Tm) : Prop where
  o1 : POk n1 bs1 lo1 ts1
  o2 : POk n2 bs2 lo2 ts2
  small : n1 ≤ 4 ∧ n2 ≤ 4
  d1 : ∀ b ∈ bs1, b.d ≤ 7
  d2 : ∀ b ∈ bs2, b.d ≤ 7
  lb : bs1.length ≤ 8 ∧ bs2.length ≤ 8
  lt : ts1.length ≤ 8 ∧ ts2.length ≤ 8
  nms : names.Perm (List.range (n1 + n2))
  links : ∃ es : List Bd, es.length ≤ 3 ∧ (∀ e ∈ es, Imp (bs1.map (renB (nmOf names)) ++ bs2.map (renB (nmOf (names.drop n1)))) e) ∧ bsB.Perm ((bs1.map (renB (nmOf names)) ++ bs2.map (renB (nmOf (names.drop n1)))) ++ es)
  terms : tsB.Perm (ts1.map (renT (nmOf names)) ++ ts2.map (renT (nmOf (names.drop n1))))
  floor : ∃ ps : List (Int × Int), ps.Perm ((toI names).zip (lo1 ++ lo2)) ∧ (ps.Pairwise fun e f => e.1 ≤ f.1) ∧ loB = ps.map Prod.snd
section
variable {n1 n2 : Nat} {bs1 bs2 bsB : List Bd} {lo1 lo2 loB : List Int} {ts1 ts2 tsB : List Tm} {names : List Nat}
theorem Whole.len (W : Whole n1 n2 bs1 bs2 lo1 lo2 ts1 ts2 names bsB loB tsB) : names.length = n1 + n2 := by rw [W.nms.length_eq, List.length_range]
theorem Whole.below (W : Whole n1 n2 bs1 bs2 lo1 lo2 ts1 ts2 names bsB loB tsB) : ∀ k, k < n1 + n2 → nmOf names k < n1 + n2 := fun k hk => by
  have h := List.mem_of_getElem? (nm_at (names := names) (k := k) (by rw [W.len]; exact hk))
  exact List.mem_range.mp (W.nms.subset h)
theorem Whole.inj (W : Whole n1 n2 bs1 bs2 lo1 lo2 ts1 ts2 names bsB loB tsB) : ∀ k l, k < n1 + n2 → l < n1 + n2 → nmOf names k = nmOf names l → k = l := fun k l hk hl e => by
  have nd : names.Nodup := W.nms.nodup_iff.mpr List.nodup_range
  have h1 := nm_at (names := names) (k := k) (by rw [W.len]; exact hk)
  have h2 := nm_at (names := names) (k := l) (by rw [W.len]; exact hl)
  rw [e] at h1
  exact (List.getElem?_inj (by rw [W.len]; exact hk) nd).mp (h1.trans h2.symm)
theorem Whole.ren2 (n1 : Nat) (names : List Nat) : (nmOf (names.drop n1)) = fun k => nmOf names (n1 + k) := funext fun k => nm_drop names n1 k
theorem Whole.joined (W : Whole n1 n2 bs1 bs2 lo1 lo2 ts1 ts2 names bsB loB tsB) : Joined n1 n2 bs1 bs2 bsB ts1 ts2 tsB (rowAt lo1) (rowAt lo2) (rowAt loB) (nmOf names) := by
  have r2 := Whole.ren2 n1 names
  obtain ⟨es, hes, himp, hperm⟩ := W.links
  obtain ⟨ps, hp, hs, rfl⟩ := W.floor
  obtain ⟨_, hby⟩ := by_names (vals := lo1 ++ lo2) W.nms (by rw [List.length_append, W.o1.ll, W.o2.ll]) hp hs
  have ht := W.terms
  rw [r2] at himp hperm ht
  refine ⟨fun v hv => ?_, W.below, fun b hb => ⟨(W.o1.b b hb).1, (W.o1.b b hb).2.1⟩, fun b hb => ⟨(W.o2.b b hb).1, (W.o2.b b hb).2.1⟩, fun t ht => tmOk_lt (W.o1.t t ht), fun t ht => tmOk_lt (W.o2.t t ht), fun b hb => hperm.symm.subset (List.mem_append_left _ hb), fun b hb => ?_, ht, fun k hk => ?_, fun k hk => ?_⟩
  · have h := W.nms.symm.subset (List.mem_range.mpr hv)
    obtain ⟨k, hk⟩ := List.mem_iff_getElem?.mp h
    have hkl := (List.getElem?_eq_some_iff.mp hk).1
    refine ⟨k, by rw [← W.len]; exact hkl, ?_⟩
    rw [nm_at hkl] at hk
    exact Option.some.inj hk
  · rcases List.mem_append.mp (hperm.subset hb) with h | h
    · exact .inl h
    · obtain ⟨c, hc, e, he, h1, h2⟩ := himp b h
      exact .inr ⟨c, hc, e, he, h1, h2⟩
  · rw [hby k (by omega), rowAt_app1 (by rw [W.o1.ll]; exact hk)]
  · rw [hby (n1 + k) (by omega)]
    have := rowAt_app2 (l := lo1) (m := lo2) (k := k)
    rw [W.o1.ll] at this
    exact this
theorem Whole.lenB (W : Whole n1 n2 bs1 bs2 lo1 lo2 ts1 ts2 names bsB loB tsB) : loB.length = n1 + n2 := by
  obtain ⟨ps, hp, hs, rfl⟩ := W.floor
  exact (by_names (vals := lo1 ++ lo2) W.nms (by rw [List.length_append, W.o1.ll, W.o2.ll]) hp hs).1
theorem Whole.ok (W : Whole n1 n2 bs1 bs2 lo1 lo2 ts1 ts2 names bsB loB tsB) : POk (n1 + n2) bsB loB tsB := by
  have J := W.joined
  have inj := W.inj
  have below := W.below
  obtain ⟨s1, s2⟩ := W.small
  obtain ⟨lb1, lb2⟩ := W.lb
  obtain ⟨lt1, lt2⟩ := W.lt
  have p1 := W.o1.n1
  have r2 := Whole.ren2 n1 names
  obtain ⟨es, hes, himp, hperm⟩ := W.links
  have ht := W.terms
  rw [r2] at himp hperm ht
  obtain ⟨rk1, h1⟩ := W.o1.rk
  obtain ⟨rk2, h2⟩ := W.o2.rk
  obtain ⟨rk, hrk⟩ := J.rank inj h1 h2
  have base : ∀ b ∈ bs1.map (renB (nmOf names)) ++ bs2.map (renB fun k => nmOf names (n1 + k)), b.i < n1 + n2 ∧ b.j < n1 + n2 ∧ b.i ≠ b.j ∧ 0 ≤ b.d ∧ b.d ≤ 7 := fun b hb => by
    rcases List.mem_append.mp hb with hb | hb
    · obtain ⟨c, hc, rfl⟩ := List.mem_map.mp hb
      obtain ⟨q1, q2, q3, q4, _⟩ := W.o1.b c hc
      exact ⟨below _ (by omega), below _ (by omega), fun e => q3 (inj _ _ (by omega) (by omega) e), q4, W.d1 c hc⟩
    · obtain ⟨c, hc, rfl⟩ := List.mem_map.mp hb
      obtain ⟨q1, q2, q3, q4, _⟩ := W.o2.b c hc
      exact ⟨below _ (by omega), below _ (by omega), fun e => q3 (by have := inj _ _ (by omega) (by omega) e; omega), q4, W.d2 c hc⟩
  have lenB : bsB.length ≤ 19 := by
    rw [hperm.length_eq, List.length_append, List.length_append, List.length_map, List.length_map]
    omega
  have lenT : tsB.length ≤ 16 := by
    rw [ht.length_eq, List.length_append, List.length_map, List.length_map]
    omega
  refine ⟨by omega, by omega, by omega, by omega, fun b hb => ?_, W.lenB, fun z hz => ?_, fun t htm => ?_, fun l hl => ?_, ⟨rk, hrk⟩⟩
  · rcases List.mem_append.mp (hperm.subset hb) with h | h
    · obtain ⟨q1, q2, q3, q4, q5⟩ := base b h
      exact ⟨q1, q2, q3, q4, by omega⟩
    · obtain ⟨c, hc, e, he, g1, rfl⟩ := himp b h
      obtain ⟨q1, q2, q3, q4, q5⟩ := base c hc
      obtain ⟨u1, u2, u3, u4, u5⟩ := base e he
      have a1 := hrk c (hperm.symm.subset (List.mem_append_left _ hc))
      have a2 := hrk e (hperm.symm.subset (List.mem_append_left _ he))
      refine ⟨q1, u2, fun z => ?_, by show 0 ≤ c.d + e.d; omega, by show c.d + e.d ≤ 1000000; omega⟩
      have z' : c.i = e.j := z
      rw [z'] at a1
      rw [g1] at a2
      omega
  · obtain ⟨ps, hp, hs, rfl⟩ := W.floor
    obtain ⟨e, he, rfl⟩ := List.mem_map.mp hz
    have hm := (List.of_mem_zip (hp.subset he)).2
    rcases List.mem_append.mp hm with h | h
    · exact W.o1.lv _ h
    · exact W.o2.lv _ h
  · rcases List.mem_append.mp (ht.subset htm) with h | h
    · obtain ⟨t, h0, rfl⟩ := List.mem_map.mp h
      exact tmOk_ren (n := n1) (fun k hk => below k (by omega)) (fun k l hk hl e => inj k l (by omega) (by omega) e) (W.o1.t t h0)
    · obtain ⟨t, h0, rfl⟩ := List.mem_map.mp h
      exact tmOk_ren (n := n2) (fun k hk => below (n1 + k) (by omega)) (fun k l hk hl e => by have := inj _ _ (show n1 + k < n1 + n2 by omega) (show n1 + l < n1 + n2 by omega) e; omega) (W.o2.t t h0)
  · rcases List.mem_append.mp (ht.subset hl) with h | h
    · obtain ⟨t, h0, e⟩ := List.mem_map.mp h
      cases t with
      | bn b => cases e
      | ln l0 =>
        obtain ⟨b, hb, e1, e2⟩ := W.o1.ln l0 h0
        cases e
        exact ⟨renB (nmOf names) b, J.has _ (List.mem_append_left _ (List.mem_map.mpr ⟨b, hb, rfl⟩)), congrArg (nmOf names) e1, congrArg (nmOf names) e2⟩
    · obtain ⟨t, h0, e⟩ := List.mem_map.mp h
      cases t with
      | bn b => cases e
      | ln l0 =>
        obtain ⟨b, hb, e1, e2⟩ := W.o2.ln l0 h0
        cases e
        refine ⟨renB (fun k => nmOf names (n1 + k)) b, J.has _ (List.mem_append_right _ (List.mem_map.mpr ⟨b, hb, rfl⟩)), ?_, ?_⟩
        · show nmOf names (n1 + b.i) = nmOf names (n1 + l0.i)
          rw [e1]
        · show nmOf names (n1 + b.j) = nmOf names (n1 + l0.j)
          rw [e2]
/-- the row of the whole -/
theorem Whole.sol (W : Whole n1 n2 bs1 bs2 lo1 lo2 ts1 ts2 names bsB loB tsB) {z1 z2 : List Int} (l1 : z1.length = n1) (l2 : z2.length = n2) (S1 : IsSol n1 bs1 (rowAt lo1) ts1 (rowAt z1)) (S2 : IsSol n2 bs2 (rowAt lo2) ts2 (rowAt z2)) {ps : List (Int × Int)} (hp : ps.Perm ((toI names).zip (z1 ++ z2))) (hs : ps.Pairwise fun e f => e.1 ≤ f.1) :
    (ps.map Prod.snd).length = n1 + n2 ∧ IsSol (n1 + n2) bsB (rowAt loB) tsB (rowAt (ps.map Prod.snd)) ∧ cost tsB (rowAt (ps.map Prod.snd)) = cost ts1 (rowAt z1) + cost ts2 (rowAt z2) := by
  obtain ⟨hl, hby⟩ := by_names (vals := z1 ++ z2) W.nms (by rw [List.length_append, l1, l2]) hp hs
  refine ⟨hl, W.joined.sol S1 S2 (fun k hk => ?_) fun k hk => ?_⟩
  · rw [hby k (by omega), rowAt_app1 (by omega)]
  · rw [hby (n1 + k) (by omega)]
    have := rowAt_app2 (l := z1) (m := z2) (k := k)
    rw [l1] at this
    exact this
end
end Dt
end

section
set_option Elab.async false
set_option linter.all false
set_option maxRecDepth 100000
set_option maxHeartbeats 4000000
/-! sorted(zip(l, t)) for ints: the pairs stay out -/
namespace DtS
open PySem
open PySem.Sem (wp)
section
variable {prog : Program} {w : World} {A : Around} {E : Value → Shared → Prop} {s : Shared} {z TI TO T i1 i2 : Addr} {fp1 fp2 : List Addr} {n1 n2 i : Nat} {P1 P2 : Nat → Value → Prop} {St1 St2 : Nat → Heap → Prop} {f : Bool} {oT : Obj}
theorem zipH_item {Q : Value → Shared → Prop} (S : ZipSep2 z TI TO i1 i2 fp1 fp2) (D1 : Draws prog w A i1 fp1 n1 P1 St1) (D2 : Draws prog w A i2 fp2 n2 P2 St2)
    (hz : IsZipHeld s.heap z TI TO T f) (hT : s.heap.get? T = some oT) (hTI : IsTupOf2 s.heap TI (.ref i1) (.ref i2)) (st1 : St1 i s.heap) (st2 : St2 i s.heap) (hlt1 : i < n1) (hlt2 : i < n2)
    (hQ : ∀ x1 x2 h' tk, P1 i x1 → P2 i x2 → IsZipHeld h' z TI TO T true → St1 (i + 1) h' → St2 (i + 1) h' → IsTupOf2 h' s.heap.objs.size x1 x2 → h'.objs.size = s.heap.objs.size + 1 →
      (∀ c o, c ≠ z → c ≠ i1 → c ≠ i2 → s.heap.get? c = some o → h'.get? c = some o) → Q (.ref s.heap.objs.size) { s with heap := h', toks := tk }) :
    wpAny (model prog w) A (Builtin.«zip.__next__» ⟨[.ref z], []⟩) (fun fin s' => ∃ v, fin = .done (.ret v) ∧ Q v s') E s := by
  obtain ⟨hp, g, d, tk0, os⟩ := s
  show wpAny _ _ (field (.ref z) 2 >>= _) _ _ _
  refine wpAny_bind (wpAny_field hz rfl (x := .bool false) rfl ?_)
  show wpAny _ _ (field (.ref z) 3 >>= _) _ _ _
  refine wpAny_bind (wpAny_field hz rfl (x := .ref TI) rfl ?_)
  refine wpAny_bind (wpAny_seqItems hTI rfl ?_)
  show wpAny _ _ (Builtin.SmallTypes.ownedTupleIsFree (.ref z) >>= _) _ _ _
  refine wpAny_bind (wpAny_tupleHeld_zip hz hT fun g0 hz0 hs0 => ?_)
  replace hs0 : Heap.SameBut z hp g0 := hs0
  simp only [Bool.false_eq_true, if_false]
  refine wpAny_bind ?_
  rw [← Array.forIn_toList]
  simp only [List.forIn_cons, List.forIn_nil]
  refine wpAny_bind (wpAny_bind (wpAny_holding ?_))
  show wpAny _ _ (Builtin.SmallTypes.nextOf (.ref i1) >>= _) _ _ ⟨g0, g, d, tk0, os⟩
  refine wpAny_bind (D1.item i _ _ _ hlt1 (D1.over st1 hs0 S.zf1) fun x1 p1 tk1 hx1 sn1 hp1 => wpAny_pure ?_)
  replace hp1 : Heap.SameBut i1 g0 p1 := hp1
  refine wpAny_pure ?_
  refine wpAny_bind (wpAny_bind (wpAny_holding ?_))
  show wpAny _ _ (Builtin.SmallTypes.nextOf (.ref i2) >>= _) _ _ ⟨p1, g, d, tk1, os⟩
  refine wpAny_bind (D2.item i _ _ _ hlt2 (D2.over (D2.over st2 hs0 S.zf2) hp1 S.sep1_2) fun x2 p2 tk2 hx2 sn2 hp2 => wpAny_pure ?_)
  replace hp2 : Heap.SameBut i2 p1 p2 := hp2
  refine wpAny_pure (wpAny_pure ?_)
  show wpAny _ _ (newTuple [x1, x2] >>= _) _ _ ⟨p2, g, d, tk2, os⟩
  refine wpAny_bind (wpAny_newTuple ?_)
  have hsz : p2.objs.size = hp.objs.size := by rw [hp2.1, hp1.1, hs0.1]
  have hz2 : IsZipHeld p2 z TI TO T true := hp2.extBut _ _ S.zi2 (hp1.extBut _ _ S.zi1 hz0)
  have hk : ∀ c o, c ≠ z → c ≠ i1 → c ≠ i2 → hp.get? c = some o → p2.get? c = some o := fun c o c1 c2 c3 e => hp2.extBut _ _ c3 (hp1.extBut _ _ c2 (hs0.extBut _ _ c1 e))
  have hj1 : St1 (i + 1) p2 := D1.over sn1 hp2 S.sep2_1
  refine wpAny_pure ⟨_, rfl, ?_⟩
  show Q (.ref p2.objs.size) _
  have hpp : IsTupOf2 (p2.push { cls := .type "tuple", data := .seq #[x1, x2] }) p2.objs.size x1 x2 := Heap.get?_push_size _ rfl
  have hz4 : (p2.push { cls := .type "tuple", data := .seq #[x1, x2] }).objs.size = p2.objs.size + 1 := Heap.size_push ..
  rw [hsz] at hpp hz4 ⊢
  have up : ∀ c o, p2.get? c = some o → (p2.push { cls := .type "tuple", data := .seq #[x1, x2] }).get? c = some o := fun c o e => Heap.get?_push_of_some _ e
  exact hQ x1 x2 _ tk2 hx1 hx2 (up _ _ hz2) (D1.frame _ _ _ hj1 fun b _ o e => up b o e) (D2.frame _ _ _ sn2 fun b _ o e => up b o e) hpp hz4 fun c o c1 c2 c3 e => up c o (hk c o c1 c2 c3 e)
theorem zipH_end {Q : Fin → Shared → Prop} (S : ZipSep2 z TI TO i1 i2 fp1 fp2) (D1 : Draws prog w A i1 fp1 n1 P1 St1) (D2 : Draws prog w A i2 fp2 n2 P2 St2)
    (hz : IsZipHeld s.heap z TI TO T f) (hT : s.heap.get? T = some oT) (hTI : IsTupOf2 s.heap TI (.ref i1) (.ref i2)) (st1 : St1 i s.heap) (hi : i = n1)
    (hE : ∀ h' e, (∀ c o, c ≠ z → c ≠ i1 → c ≠ i2 → s.heap.get? c = some o → h'.get? c = some o) → (∃ o, h'.get? e = some o ∧ o.cls = .type "StopIteration") → E (.ref e) { s with heap := h' }) :
    wpAny (model prog w) A (Builtin.«zip.__next__» ⟨[.ref z], []⟩) Q E s := by
  obtain ⟨hp, g, d, tk0, os⟩ := s
  show wpAny _ _ (field (.ref z) 2 >>= _) _ _ _
  refine wpAny_bind (wpAny_field hz rfl (x := .bool false) rfl ?_)
  show wpAny _ _ (field (.ref z) 3 >>= _) _ _ _
  refine wpAny_bind (wpAny_field hz rfl (x := .ref TI) rfl ?_)
  refine wpAny_bind (wpAny_seqItems hTI rfl ?_)
  show wpAny _ _ (Builtin.SmallTypes.ownedTupleIsFree (.ref z) >>= _) _ _ _
  refine wpAny_bind (wpAny_tupleHeld_zip hz hT fun g0 hz0 hs0 => ?_)
  replace hs0 : Heap.SameBut z hp g0 := hs0
  simp only [Bool.false_eq_true, if_false]
  refine wpAny_bind ?_
  rw [← Array.forIn_toList]
  simp only [List.forIn_cons, List.forIn_nil]
  refine wpAny_bind (wpAny_bind (wpAny_holding ?_))
  show wpAny _ _ (Builtin.SmallTypes.nextOf (.ref i1) >>= _) _ _ ⟨g0, g, d, tk0, os⟩
  refine wpAny_bind (D1.done ⟨g0, g, d, tk0, os⟩ _ _ (by rw [← hi]; exact D1.over st1 hs0 S.zf1) fun q e hq he => ?_)
  replace hq : Heap.ExtBut i1 g0 q := hq
  exact hE q e (fun c o c1 c2 _ x => hq _ _ c2 (hs0.extBut _ _ c1 x)) he
end
section
variable {prog : Program} {w : World} {A : Around} {E : Value → Shared → Prop} {s : Shared} {z TI TO T i1 i2 : Addr} {fp1 fp2 : List Addr} {n1 n2 i : Nat} {P1 P2 : Nat → Value → Prop} {St1 St2 : Nat → Heap → Prop} {f : Bool} {oT : Obj}
theorem nextH_item {Q : Option Value → Shared → Prop} (S : ZipSep2 z TI TO i1 i2 fp1 fp2) (D1 : Draws prog w A.in1 i1 fp1 n1 P1 St1) (D2 : Draws prog w A.in1 i2 fp2 n2 P2 St2)
    (hz : IsZipHeld s.heap z TI TO T f) (hT : s.heap.get? T = some oT) (hTI : IsTupOf2 s.heap TI (.ref i1) (.ref i2)) (st1 : St1 i s.heap) (st2 : St2 i s.heap) (hlt1 : i < n1) (hlt2 : i < n2)
    (hQ : ∀ x1 x2 h' tk, P1 i x1 → P2 i x2 → IsZipHeld h' z TI TO T true → St1 (i + 1) h' → St2 (i + 1) h' → IsTupOf2 h' s.heap.objs.size x1 x2 → h'.objs.size = s.heap.objs.size + 1 →
      (∀ c o, c ≠ z → c ≠ i1 → c ≠ i2 → s.heap.get? c = some o → h'.get? c = some o) → Q (some (.ref s.heap.objs.size)) { s with heap := h', toks := tk }) :
    wpAny (model prog w) A (pyNext (.ref z)) Q E s := by
  have hTy : s.TypeIs (.ref z) "zip" := ⟨_, hz, rfl⟩
  unfold pyNext
  exact wpAny_bind (wpAny_attempt (wpAny_callSpecial?_slot (name := Str.ofString "__next__") hTy F.slot_zip_next
    (wpAny_call_entry F.slot_zip_next hTy F.entry_zip_next
      (zipH_item S D1 D2 hz hT hTI st1 st2 hlt1 hlt2 fun x1 x2 h' tk a1 a2 a3 a4 a5 a6 a7 a8 => wpAny_pure (hQ x1 x2 h' tk a1 a2 a3 a4 a5 a6 a7 a8)) (F.args_zip_next_1 _))))
theorem nextH_end {Q : Option Value → Shared → Prop} (S : ZipSep2 z TI TO i1 i2 fp1 fp2) (D1 : Draws prog w A.in1 i1 fp1 n1 P1 St1) (D2 : Draws prog w A.in1 i2 fp2 n2 P2 St2)
    (hz : IsZipHeld s.heap z TI TO T f) (hT : s.heap.get? T = some oT) (hTI : IsTupOf2 s.heap TI (.ref i1) (.ref i2)) (st1 : St1 i s.heap) (hi : i = n1)
    (hQ : ∀ h', (∀ c o, c ≠ z → c ≠ i1 → c ≠ i2 → s.heap.get? c = some o → h'.get? c = some o) → Q none { s with heap := h' }) : wpAny (model prog w) A (pyNext (.ref z)) Q E s := by
  have hTy : s.TypeIs (.ref z) "zip" := ⟨_, hz, rfl⟩
  unfold pyNext
  refine wpAny_bind (wpAny_attempt (wpAny_callSpecial?_slot (name := Str.ofString "__next__") hTy F.slot_zip_next
    (wpAny_call_entry F.slot_zip_next hTy F.entry_zip_next (zipH_end S D1 D2 hz hT hTI st1 hi fun h' e hk he => ?_) (F.args_zip_next_1 _))))
  obtain ⟨o, ho, hc⟩ := he
  refine wpAny_bind (wpAny_isInstance (T := "StopIteration") (b := true) ⟨o, ho, hc⟩ isSubtype_stop ?_)
  exact wpAny_pure (hQ _ hk)
end
end DtS
end

section
set_option Elab.async false
set_option linter.all false
set_option maxRecDepth 100000
set_option maxHeartbeats 4000000
/-! sorted(zip(l, t)): collecting the pairs -/
namespace DtS
open PySem
open PySem.Sem (wp)
/-- the zip behind i pairs; lo: where the pairs begin -/
structure ZSt (z TI TO i1 i2 : Addr) (St1 St2 : Nat → Heap → Prop) (lo : Addr) (i : Nat) (h : Heap) : Prop where
  ti : IsTupOf2 h TI (.ref i1) (.ref i2)
  st1 : St1 i h
  st2 : St2 i h
  cur : (IsZip h z TI TO .none ∧ IsTupOf2 h TO .none .none) ∨ ∃ T f oT, IsZipHeld h z TI TO T f ∧ h.get? T = some oT ∧ lo ≤ T
structure PairsAt (P1 P2 : Nat → Value → Prop) (lo : Addr) (h : Heap) (as : List Addr) : Prop where
  rise : as.Pairwise (· < ·)
  above : ∀ a ∈ as, lo ≤ a
  pairs : ∀ (j : Nat) (a : Addr), as[j]? = some a → ∃ x y, P1 j x ∧ P2 j y ∧ IsTupOf2 h a x y
theorem PairsAt.there {P1 P2 : Nat → Value → Prop} {lo : Addr} {h : Heap} {as : List Addr} (g : PairsAt P1 P2 lo h as) {a : Addr} (ha : a ∈ as) : a < h.objs.size := by
  obtain ⟨j, hj⟩ := List.mem_iff_getElem?.mp ha
  obtain ⟨_, _, _, _, e⟩ := g.pairs j a hj
  exact Heap.lt_size e
section
variable {prog : Program} {w : World} {A : Around} {E : Value → Shared → Prop} {s : Shared} {z TI TO i1 i2 lo : Addr} {fp1 fp2 : List Addr} {n i : Nat} {P1 P2 : Nat → Value → Prop} {St1 St2 : Nat → Heap → Prop}
theorem ZSt.keep {h h' : Heap} {S : Addr} (D1 : Draws prog w A i1 fp1 n P1 St1) (D2 : Draws prog w A i2 fp2 n P2 St2) (st : ZSt z TI TO i1 i2 St1 St2 lo i h) (h1 : S ∉ fp1) (h2 : S ∉ fp2) (hz : S ≠ z) (hTI : S ≠ TI) (hTO : S ≠ TO) (hlo : S < lo)
    (k : ∀ c o, c ≠ S → h.get? c = some o → h'.get? c = some o) : ZSt z TI TO i1 i2 St1 St2 lo i h' := by
  refine ⟨k _ _ (fun e => hTI e.symm) st.ti, D1.frame _ _ _ st.st1 fun b hb o e => k b o (fun q => h1 (q ▸ hb)) e, D2.frame _ _ _ st.st2 fun b hb o e => k b o (fun q => h2 (q ▸ hb)) e, ?_⟩
  rcases st.cur with ⟨a, b⟩ | ⟨T, f, oT, a, b, c⟩
  · exact .inl ⟨k _ _ (fun e => hz e.symm) a, k _ _ (fun e => hTO e.symm) b⟩
  · exact .inr ⟨T, f, oT, k _ _ (fun e => hz e.symm) a, k _ _ (fun e => by rw [e] at c; exact absurd hlo (Nat.not_lt.mpr c)) b, c⟩
theorem nxtZ {Q : Option Value → Shared → Prop} (S : ZipSep2 z TI TO i1 i2 fp1 fp2) (D1 : Draws prog w A.in1 i1 fp1 n P1 St1) (D2 : Draws prog w A.in1 i2 fp2 n P2 St2) (st : ZSt z TI TO i1 i2 St1 St2 lo i s.heap) (hlo : lo ≤ s.heap.objs.size) (hz : z < lo) (hi1 : i1 < lo) (hi2 : i2 < lo) (hlt : i < n)
    (hQ : ∀ x1 x2 h' tk, P1 i x1 → P2 i x2 → ZSt z TI TO i1 i2 St1 St2 lo (i + 1) h' → IsTupOf2 h' s.heap.objs.size x1 x2 → h'.objs.size = s.heap.objs.size + 1 →
      (∀ c o, c ≠ z → c ≠ TO → c ≠ i1 → c ≠ i2 → s.heap.get? c = some o → h'.get? c = some o) → Q (some (.ref s.heap.objs.size)) { s with heap := h', toks := tk }) :
    wpAny (model prog w) A (pyNext (.ref z)) Q E s := by
  rcases st.cur with ⟨a, b⟩ | ⟨T, f, oT, a, b, c⟩
  · refine wpAny_pyNext_zipD2_item S D1 D2 a st.ti b st.st1 st.st2 hlt hlt fun x1 x2 h' tk p1 p2 hz' hTO' t1 t2 hp hs hk => ?_
    exact hQ x1 x2 h' tk p1 p2 ⟨hk _ _ S.TIz S.TITO S.TIi1 S.TIi2 st.ti, t1, t2, .inr ⟨_, false, _, hz', hp, hlo⟩⟩ hp hs hk
  · refine nextH_item S D1 D2 a b st.ti st.st1 st.st2 hlt hlt fun x1 x2 h' tk p1 p2 hz' t1 t2 hp hs hk => ?_
    refine hQ x1 x2 h' tk p1 p2 ⟨hk _ _ S.TIz S.TIi1 S.TIi2 st.ti, t1, t2, .inr ⟨T, true, oT, hz', hk _ _ ?_ ?_ ?_ b, c⟩⟩ hp hs fun c o c1 _ c3 c4 => hk c o c1 c3 c4
    · exact Nat.ne_of_gt (Nat.lt_of_lt_of_le hz c)
    · exact Nat.ne_of_gt (Nat.lt_of_lt_of_le hi1 c)
    · exact Nat.ne_of_gt (Nat.lt_of_lt_of_le hi2 c)
theorem endZ {Q : Option Value → Shared → Prop} (S : ZipSep2 z TI TO i1 i2 fp1 fp2) (D1 : Draws prog w A.in1 i1 fp1 n P1 St1) (D2 : Draws prog w A.in1 i2 fp2 n P2 St2) (st : ZSt z TI TO i1 i2 St1 St2 lo n s.heap)
    (hQ : ∀ h' tk, (∀ c o, c ≠ z → c ≠ TO → c ≠ i1 → c ≠ i2 → s.heap.get? c = some o → h'.get? c = some o) → Q none { s with heap := h', toks := tk }) :
    wpAny (model prog w) A (pyNext (.ref z)) Q E s := by
  rcases st.cur with ⟨a, b⟩ | ⟨T, f, oT, a, b, c⟩
  · exact wpAny_pyNext_zipD2_end S D1 D2 a st.ti b st.st1 st.st2 (Nat.le_refl _) (Nat.le_refl _) (.inl rfl) hQ
  · exact nextH_end S D1 D2 a b st.ti st.st1 rfl fun h' hk => hQ h' s.toks fun c o c1 _ c3 c4 => hk c o c1 c3 c4
end
section
variable {prog : Program} {w : World} {A : Around} {s : Shared} {R : Result → Shared → Prop} {z TI TO i1 i2 lo : Addr} {fp1 fp2 : List Addr} {n : Nat} {P1 P2 : Nat → Value → Prop} {St1 St2 : Nat → Heap → Prop}
theorem loopZ {L : Addr} (S : ZipSep2 z TI TO i1 i2 fp1 fp2) (D1 : Draws prog w A.in1.in1 i1 fp1 n P1 St1) (D2 : Draws prog w A.in1.in1 i2 fp2 n P2 St2) (l1 : L ∉ fp1) (l2 : L ∉ fp2) (lz : L ≠ z) (lTI : L ≠ TI) (lTO : L ≠ TO) (lli1 : L ≠ i1) (lli2 : L ≠ i2) (llo : L < lo) (hz : z < lo) (hTO : TO < lo) (hi1 : i1 < lo) (hi2 : i2 < lo) (hn : n ≤ sizeLine) (res : Value) {h₁ : Heap}
    (hR : ∀ h' tk acc c as, (∀ b o, b ≠ L → b ≠ z → b ≠ TO → b ≠ i1 → b ≠ i2 → h₁.get? b = some o → h'.get? b = some o) → h'.get? L = some { cls := .type "list", dict := none, data := .seq acc c, slots := #[] } → as.length = n → PairsAt P1 P2 lo h' as →
      acc.toList = as.map Value.ref → R (.ok (.ret res)) { s with heap := h', toks := tk }) :
    ∀ (k i : Nat) (h : Heap) (tk c : Nat) (acc : Array Value) (as : List Addr), n - i = k → i ≤ n → ZSt z TI TO i1 i2 St1 St2 lo i h → (∀ b o, b ≠ L → b ≠ z → b ≠ TO → b ≠ i1 → b ≠ i2 → h₁.get? b = some o → h.get? b = some o) →
      h.get? L = some { cls := .type "list", dict := none, data := .seq acc c, slots := #[] } → acc.toList = as.map Value.ref → as.length = i → PairsAt P1 P2 lo h as → lo ≤ h.objs.size →
      codeAny (model prog w) A (.builtin "list.extend.loop" ⟨[.ref L, .ref z, res], []⟩) R { s with heap := h, toks := tk } := by
  intro k
  induction k with
  | zero =>
    intro i h tk c acc as hk hi hst hkeep hL hacc hal hG hlo
    have hin : i = n := by omega
    subst hin
    refine codeAny_builtin PySem.F.entry_extend_loop ?_
    rw [Around.under_plainId PySem.F.plain_extend_loop _]
    show wpAny _ A.in1 (pyNext (.ref z) >>= _) _ _ _
    refine wpAny_bind (endZ (s := { s with heap := h, toks := tk }) (A := A.in1) S D1 D2 hst fun h' tk' he => ?_)
    have above : ∀ a, a ∈ as → a ≠ z ∧ a ≠ TO ∧ a ≠ i1 ∧ a ≠ i2 := fun a ha => by
      have := hG.above a ha
      exact ⟨Nat.ne_of_gt (Nat.lt_of_lt_of_le hz this), Nat.ne_of_gt (Nat.lt_of_lt_of_le hTO this), Nat.ne_of_gt (Nat.lt_of_lt_of_le hi1 this), Nat.ne_of_gt (Nat.lt_of_lt_of_le hi2 this)⟩
    have hL' := he L _ lz lTO lli1 lli2 hL
    refine wpAny_pure (hR h' tk' acc c as (fun b o h1 h2 h3 h4 h5 e => he b o h2 h3 h4 h5 (hkeep b o h1 h2 h3 h4 h5 e)) hL' hal ⟨hG.rise, hG.above, fun j a hj => ?_⟩ hacc)
    obtain ⟨x, y, p1, p2, e⟩ := hG.pairs j a hj
    obtain ⟨a1, a2, a3, a4⟩ := above a (List.mem_of_getElem? hj)
    exact ⟨x, y, p1, p2, he a _ a1 a2 a3 a4 e⟩
  | succ k ih =>
    intro i h tk c acc as hk hi hst hkeep hL hacc hal hG hlo
    have hlt : i < n := by omega
    have hsz : acc.size = i := by rw [← Array.length_toList, hacc, List.length_map, hal]
    refine codeAny_builtin PySem.F.entry_extend_loop ?_
    rw [Around.under_plainId PySem.F.plain_extend_loop _]
    show wpAny _ A.in1 (pyNext (.ref z) >>= _) _ _ _
    refine wpAny_bind (nxtZ (s := { s with heap := h, toks := tk }) (A := A.in1) S D1 D2 hst hlo hz hi1 hi2 hlt fun x1 x2 h' tk' p1 p2 hst' ht hz' hkp => ?_)
    dsimp only at ht hz' hkp ⊢
    have hL' := hkp L _ lz lTO lli1 lli2 hL
    have up : ∀ b o, b ≠ L → h'.get? b = some o → (h'.update L (Obj.mapSeq (·.push (Value.ref h.objs.size)))).get? b = some o := fun b o hb e => (Heap.get?_update_other _ _ (Ne.symm hb)).trans e
    have hLl : L < h.objs.size := Heap.lt_size hL
    show wpAny _ A.in1 (updateSeq L (·.push (Value.ref h.objs.size)) >>= _) _ _ _
    refine wpAny_bind ?_
    refine wpAny_updateSeq hL' rfl (wpAny_pure ⟨plainId_quiet PySem.F.plain_extend_loop _, ih (i + 1) _ tk' _ (acc.push (Value.ref h.objs.size)) (as ++ [h.objs.size]) (by omega) hlt (hst'.keep D1 D2 l1 l2 lz lTI lTO llo up)
      (fun b o h1 h2 h3 h4 h5 e => up b o h1 (hkp b o h2 h3 h4 h5 (hkeep b o h1 h2 h3 h4 h5 e))) (Heap.get?_update_self _ hL' rfl) (by rw [Array.toList_push, hacc, List.map_append]; rfl) (by rw [List.length_append, hal]; rfl) ⟨?_, ?_, ?_⟩ ?_⟩) (by rw [hsz]; omega) (by show (acc.push (Value.ref h.objs.size)).size ≤ sizeLine + 1; rw [Array.size_push, hsz]; omega)
    · refine List.pairwise_append.mpr ⟨hG.rise, List.pairwise_singleton _ _, fun a ha b hb => ?_⟩
      rw [List.mem_singleton.mp hb]
      exact hG.there ha
    · intro a ha
      rcases List.mem_append.mp ha with ha | ha
      · exact hG.above a ha
      · rw [List.mem_singleton.mp ha]; exact hlo
    · intro j b hj
      rcases Nat.lt_trichotomy j as.length with h1 | h1 | h1
      · rw [List.getElem?_append_left h1] at hj
        obtain ⟨x, y, q1, q2, e⟩ := hG.pairs j b hj
        have hb := hG.above b (List.mem_of_getElem? hj)
        exact ⟨x, y, q1, q2, up b _ (Nat.ne_of_gt (Nat.lt_of_lt_of_le llo hb)) (hkp b _ (Nat.ne_of_gt (Nat.lt_of_lt_of_le hz hb)) (Nat.ne_of_gt (Nat.lt_of_lt_of_le hTO hb)) (Nat.ne_of_gt (Nat.lt_of_lt_of_le hi1 hb)) (Nat.ne_of_gt (Nat.lt_of_lt_of_le hi2 hb)) e)⟩
      · subst h1
        have hb : h.objs.size = b := by simpa using hj
        subst hb
        exact ⟨x1, x2, by rw [hal]; exact p1, by rw [hal]; exact p2, up _ _ (Nat.ne_of_gt hLl) ht⟩
      · have hnone : (as ++ [h.objs.size])[j]? = none := List.getElem?_eq_none (by rw [List.length_append, List.length_singleton]; omega)
        rw [hnone] at hj; cases hj
    · rw [Heap.size_update, hz']
      exact Nat.le_succ_of_le hlo
end
end DtS
end

section
set_option Elab.async false
set_option linter.all false
set_option maxRecDepth 100000
set_option maxHeartbeats 4000000
/-! sorted(zip(l, t)): the whole of it -/
namespace DtS
open PySem PySem.W PySem.Calls PyProof.Rows PyProof.V PySem.Spec
open PySem.Sem (wp)
theorem zip_no_len : typeLookup (.type "zip") "__len__" = pure none := by rw [typeLookup_type, builtinLookup_eq_fast]; kernel_rfl
theorem zip_no_hint : typeLookup (.type "zip") "__length_hint__" = pure none := by rw [typeLookup_type, builtinLookup_eq_fast]; kernel_rfl
section
variable {prog : Program} {w : World} {A : Around} {E : Value → Shared → Prop} {s : Shared} {R : List Value → Shared → Prop} {z TI TO i1 i2 : Addr} {fp1 fp2 : List Addr} {n : Nat} {P1 P2 : Nat → Value → Prop} {St1 St2 : Nat → Heap → Prop}
theorem collectZ (S : ZipSep2 z TI TO i1 i2 fp1 fp2) (D1 : Draws prog w A.in1.in1 i1 fp1 n P1 St1) (D2 : Draws prog w A.in1.in1 i2 fp2 n P2 St2) (hz0 : IsZip s.heap z TI TO .none) (hTI : IsTupOf2 s.heap TI (.ref i1) (.ref i2)) (hTO : IsTupOf2 s.heap TO .none .none) (st1 : St1 0 s.heap) (st2 : St2 0 s.heap)
    (f1 : ∀ b ∈ fp1, b < s.heap.objs.size) (f2 : ∀ b ∈ fp2, b < s.heap.objs.size) (hn : n ≤ sizeLine)
    (h : ∀ (h' : Heap) (tk : Nat) (as : List Addr), (∀ b o, b ≠ z → b ≠ TO → b ≠ i1 → b ≠ i2 → s.heap.get? b = some o → h'.get? b = some o) → s.heap.objs.size < h'.objs.size → as.length = n → PairsAt P1 P2 (s.heap.objs.size + 1) h' as → R (as.map Value.ref) { s with heap := h', toks := tk }) :
    wpAny (model prog w) A (collect (.ref z)) R E s := by
  have zlt : z < s.heap.objs.size := Heap.lt_size hz0
  have TIlt : TI < s.heap.objs.size := Heap.lt_size hTI
  have TOlt : TO < s.heap.objs.size := Heap.lt_size hTO
  have i1lt : i1 < s.heap.objs.size := f1 _ S.mem1
  have i2lt : i2 < s.heap.objs.size := f2 _ S.mem2
  have l1 : s.heap.objs.size ∉ fp1 := fun hm => Nat.lt_irrefl _ (f1 _ hm)
  have l2 : s.heap.objs.size ∉ fp2 := fun hm => Nat.lt_irrefl _ (f2 _ hm)
  have hSI : s.heap.objs.size ≠ z := Nat.ne_of_gt zlt
  unfold collect
  refine wpAny_bind (wpAny_runValue (codeAny_builtin PySem.F.entry_proto_collect ?_))
  rw [Around.under_plainId PySem.F.plain_proto_collect _]
  show wpAny _ A.in1 (newList [] >>= fun l => again (.builtin "list.__iadd__" ⟨[l, .ref z], []⟩)) _ _ s
  refine wpAny_bind (wpAny_newObj_type ?_)
  refine wpAny_pure ⟨plainId_quiet PySem.F.plain_list_iadd _, codeAny_builtin PySem.F.entry_list_iadd ?_⟩
  rw [Around.under_plainId PySem.F.plain_list_iadd _]
  have up0 : ∀ b o, s.heap.get? b = some o → (s.heap.push { cls := .type "list", data := .seq ([] : List Value).toArray }).get? b = some o := fun b o e => Heap.get?_push_of_some _ e
  have hz1 := up0 _ _ hz0
  have hT1 : ({ s with heap := s.heap.push { cls := .type "list", data := .seq ([] : List Value).toArray } } : Shared).TypeIs (.ref z) "zip" := ⟨_, hz1, rfl⟩
  have hst1 : ZSt z TI TO i1 i2 St1 St2 (s.heap.objs.size + 1) 0 (s.heap.push { cls := .type "list", data := .seq ([] : List Value).toArray }) :=
    ⟨up0 _ _ hTI, D1.frame _ _ _ st1 fun b _ o e => up0 b o e, D2.frame _ _ _ st2 fun b _ o e => up0 b o e, .inl ⟨hz1, up0 _ _ hTO⟩⟩
  show wpAny _ A.in1 (Builtin.List.listExtendWith (.ref s.heap.objs.size) (.ref z) (.ref s.heap.objs.size)) _ _ _
  unfold Builtin.List.listExtendWith
  refine wpAny_bind (wpAny_typeOf hT1 ?_)
  have h1 : Builtin.List.listSameRef (.ref s.heap.objs.size) (.ref z) = false := by simp [Builtin.List.listSameRef, hSI]
  have h2 : (Value.type "zip" == Value.type "list") = false := by decide
  have h3 : (Value.type "zip" == Value.type "tuple") = false := by decide
  simp only [h1, h2, h3, Bool.or_false, Bool.false_eq_true, if_false]
  refine wpAny_bind (wpAny_pyIter_zip hz1 ?_)
  refine wpAny_bind (wpAny_holding ?_)
  unfold Builtin.List.listLengthHint
  refine wpAny_bind (wpAny_specialOf hT1 zip_no_len ?_)
  show wpAny _ A.in1 (specialOf (Value.ref z) (Str.ofString "__length_hint__") >>= _) _ _ _
  refine wpAny_bind (wpAny_specialOf hT1 zip_no_hint ?_)
  refine wpAny_pure ?_
  show wpAny _ A.in1 (rule "list.extend.makes-room" >>= fun _ => Builtin.List.listTouch (.ref s.heap.objs.size) >>= fun _ =>
    again (.builtin "list.extend.loop" ⟨[.ref s.heap.objs.size, .ref z, .ref s.heap.objs.size], []⟩)) _ _ _
  refine wpAny_bind (wpAny_rule ?_)
  have hS₁ : (s.heap.push { cls := .type "list", data := .seq ([] : List Value).toArray }).get? s.heap.objs.size = some { cls := .type "list", data := .seq ([] : List Value).toArray } := Heap.get?_push_size _ rfl
  refine wpAny_bind ?_
  show wpAny _ A.in1 (updateSeq s.heap.objs.size (·.push .none) >>= fun _ => updateSeq s.heap.objs.size (·.pop)) _ _ _
  refine wpAny_bind (wpAny_updateSeq hS₁ rfl ?_)
  have hS₂ := Heap.get?_update_self (Obj.mapSeq (·.push Value.none)) hS₁ rfl
  refine wpAny_updateSeq hS₂ rfl ?_
  have hS₃ := Heap.get?_update_self (Obj.mapSeq (·.pop)) hS₂ rfl
  have oth : ∀ b o, b ≠ s.heap.objs.size → (s.heap.push { cls := .type "list", data := .seq ([] : List Value).toArray }).get? b = some o →
      (((s.heap.push { cls := .type "list", data := .seq ([] : List Value).toArray }).update s.heap.objs.size (Obj.mapSeq (·.push Value.none))).update s.heap.objs.size (Obj.mapSeq (·.pop))).get? b = some o :=
    fun b o hb e => (Heap.get?_update_other _ _ (Ne.symm hb)).trans ((Heap.get?_update_other _ _ (Ne.symm hb)).trans e)
  refine wpAny_pure ⟨plainId_quiet PySem.F.plain_extend_loop _, loopZ (L := s.heap.objs.size) (lo := s.heap.objs.size + 1) (h₁ := s.heap.push { cls := .type "list", data := .seq ([] : List Value).toArray }) (s := s) S D1 D2 l1 l2 hSI (Nat.ne_of_gt TIlt) (Nat.ne_of_gt TOlt) (Nat.ne_of_gt i1lt) (Nat.ne_of_gt i2lt) (Nat.lt_succ_self _)
    (Nat.lt_succ_of_lt zlt) (Nat.lt_succ_of_lt TOlt) (Nat.lt_succ_of_lt i1lt) (Nat.lt_succ_of_lt i2lt) hn _ (fun h' tk' acc c as hk hL hal hG hacc => ?_) n 0 _ _ _ #[] [] rfl (Nat.zero_le _)
    (hst1.keep D1 D2 l1 l2 hSI (Nat.ne_of_gt TIlt) (Nat.ne_of_gt TOlt) (Nat.lt_succ_self _) oth) (fun b o hb _ _ _ _ e => oth b o hb e) hS₃ rfl rfl ⟨List.Pairwise.nil, (fun _ ha => nomatch ha), (fun j a hj => by simp at hj)⟩ ?_⟩
  · show wpAny _ A (load s.heap.objs.size >>= _) _ _ _
    refine wpAny_bind (wpAny_load hL ?_)
    refine wpAny_pure ?_
    show R acc.toList _
    rw [hacc]
    exact h h' tk' as (fun b o h1 h2 h3 h4 e => hk b o (Nat.ne_of_lt (Heap.lt_size e)) h1 h2 h3 h4 (up0 b o e)) (Heap.lt_size hL) hal hG
  · rw [Heap.size_update, Heap.size_update, Heap.size_push]
    exact Nat.le_refl _
theorem sortedZ {Q : Value → Shared → Prop} (S : ZipSep2 z TI TO i1 i2 fp1 fp2) (D1 : Draws prog w A.in1.in1.in1 i1 fp1 n P1 St1) (D2 : Draws prog w A.in1.in1.in1 i2 fp2 n P2 St2) (hz0 : IsZip s.heap z TI TO .none) (hTI : IsTupOf2 s.heap TI (.ref i1) (.ref i2)) (hTO : IsTupOf2 s.heap TO .none .none) (st1 : St1 0 s.heap) (st2 : St2 0 s.heap)
    (f1 : ∀ b ∈ fp1, b < s.heap.objs.size) (f2 : ∀ b ∈ fp2, b < s.heap.objs.size) (hn : n ≤ sizeLine)
    (h : ∀ (h' : Heap) (tk : Nat) (as : List Addr), (∀ b o, b ≠ z → b ≠ TO → b ≠ i1 → b ≠ i2 → s.heap.get? b = some o → h'.get? b = some o) → s.heap.objs.size < h'.objs.size → as.length = n → PairsAt P1 P2 (s.heap.objs.size + 1) h' as →
      wpAny (model prog w) A.in1 (call (.builtin "list.sort") [.ref h'.objs.size]) (fun _ s' => Q (.ref h'.objs.size) s') E { s with heap := h'.push { cls := .type "list", data := .seq (as.map Value.ref).toArray }, toks := tk }) :
    wpAny (model prog w) A (call (.builtin "sorted") [.ref z]) Q E s := by
  refine call_function_entry kind_sorted plain_sorted entry_sorted (args_sorted1 _) ?_
  unfold Builtin.«sorted»
  refine wpAny_bind (m := checkCount "sorted" 1 1 _) (wpAny_pure ?_)
  refine wpAny_bind (collectZ (A := A.in1) S D1 D2 hz0 hTI hTO st1 st2 f1 f2 hn fun h' tk as hk hlt hl hG => ?_)
  refine wpAny_bind (wpAny_newList ?_ (by rw [List.length_map, hl]; exact hn))
  have hg := h h' tk as hk hlt hl hG
  refine wpAny_bind (wpAny_holding (wpAny_mono hg (fun _ s' x => ?_) fun _ _ e => e))
  exact wpAny_pure ⟨_, rfl, x⟩
end
end DtS
end

section
set_option Elab.async false
set_option linter.all false
set_option maxRecDepth 100000
set_option maxHeartbeats 4000000
/-! sorted(zip(l, t)) as a rule of the layer -/
namespace Dt
open PySem PySem.Spec PyProof.Rows L2
/-- the two ints of a pair -/
def prOf (h : Heap) : Value → Int × Int
  | .ref a => match h.get? a with
    | some o => match o.data with
      | .seq its _ => match its.toList with
        | [.int i _, .int j _] => (i, j)
        | _ => (0, 0)
      | _ => (0, 0)
    | none => (0, 0)
  | _ => (0, 0)
theorem prOf_at {h : Heap} {a : Addr} {i j : Int} {t u : Tok} (e : h.get? a = some { cls := .type "tuple", data := .seq #[.int i t, .int j u] }) : prOf h (.ref a) = (i, j) := by
  show (match h.get? a with
    | some o => match o.data with
      | .seq its _ => match its.toList with
        | [.int i _, .int j _] => (i, j)
        | _ => (0, 0)
      | _ => (0, 0)
    | none => (0, 0)) = (i, j)
  rw [e]
def tSortZip (K : PySem.W.Frag) (ta : TA) : TE := fun σ H Q => ta σ H fun vs H1 => ∃ (a b : Addr) (ns ms : List Int), vs = [.ref a, .ref b] ∧ SqL K H1 a (ns.map V.int) ∧ SqT K H1 b (ms.map V.int) ∧ ns.length = ms.length ∧ ns.length ≤ 1000 ∧
  ∀ (H' : Hp) (l : Addr) (ps : List (Int × Int)) (us : List V), Same H1 H' → ps.Perm (ns.zip ms) → ps.Pairwise (fun e f => e.1 ≤ f.1) → H' l = some (.lst us) → Rep (fun v e => Tp H' v [.int e.1, .int e.2]) us ps → Q (.ref l) H'
theorem vals_int {ns : List Int} {its : List Value} (rv : Vals (ns.map V.int) its) {j : Nat} {x : Value} (h : its[j]? = some x) : ∃ (i : Int) (t : Tok), ns[j]? = some i ∧ x = .int i t := by
  have hl := rv.length
  have hj := (List.getElem?_eq_some_iff.mp h).1
  rw [List.length_map] at hl
  have hn : ns[j]? = some ns[j] := List.getElem?_eq_getElem (by omega)
  obtain ⟨u, hu, ru⟩ := rv.get (show (ns.map V.int)[j]? = some (.int ns[j]) by rw [List.getElem?_map, hn]; rfl)
  rw [h] at hu
  have e := Option.some.inj hu
  obtain ⟨t, ht⟩ := ru
  exact ⟨_, t, hn, e.trans ht⟩
theorem zip_at' {α β : Type} {l : List α} {m : List β} {k : Nat} {a : α} {b : β} (h1 : l[k]? = some a) (h2 : m[k]? = some b) : (l.zip m)[k]? = some (a, b) := by
  rw [List.getElem?_zip_eq_some]
  exact ⟨h1, h2⟩
theorem pe_sortedZip {X : Cx} {e e2 : Expr} {ta : TA} {p zp pos zpos : Pos} (hc : X.calm = true) (hg : Gl X "sorted") (hm : X.mg "sorted" = none) (hgz : Gl X "zip") (hmz : X.mg "zip" = none) (ha : PA X [e, e2] ta)
    (hs : starEach [e, e2] X.env = (false, eval e X.env) :: starEach [e2] X.env := by rfl) (hpl : (backTo zpos (starEach [e2] X.env)).any (·.1) = false := by rfl)
    (na : starEach [.Call (.Name "zip" zp) [e, e2] [] zpos] X.env = (false, eval (.Call (.Name "zip" zp) [e, e2] [] zpos) X.env) :: starEach [] X.env := by rfl) :
    PE X (.Call (.Name "sorted" p) [.Call (.Name "zip" zp) [e, e2] [] zpos] [] pos) (tSortZip X.K ta) := by
  refine ⟨fun pins s σ H Q I h => ?_⟩
  refine Call_ (ld_blt I hg hm PyProof.Rows.boot_sorted (PyProof.Rows.callWith_builtin1 (args_cons (Call_ (ld_blt I hgz hmz PyProof.Rows.boot_zip (PyProof.Rows.callWith_type1 (thn (ha.run zpos pins s σ H _ I h) fun us s1 ⟨vs, H1, I1, r1, q1⟩ => ?_) hs hpl))) na) na))
  obtain ⟨a, b, ns, ms, ex, hqx, hqy, hnm, hn1, q⟩ := q1
  subst ex
  cases r1 with
  | cons r rr =>
    cases rr with
    | cons r' rr =>
      cases rr
      cases r
      cases r'
      obtain ⟨its, rv, p1, _⟩ := I1.sqk (t := false) hqx
      obtain ⟨its2, rv2, p2, _⟩ := I1.sqk (t := true) hqy
      have hal := p1.lt
      have hbl := p2.lt
      have n1 := rv.length
      have n2 := rv2.length
      rw [List.length_map] at n1 n2
      refine zip_begins2 (begins_k false a its.toArray) (begins_k true b its2.toArray) p1 p2 fun h' hz hTI hTO g1 g2 hsz hk => args_nil ?_
      have hh : X.A.handled = none := I1.ok.hd hc
      have D1 := draws_k (prog := X.prog) (w := X.w) (A := X.A.in1.in1.in1) hh false s1.heap.objs.size a (Nat.ne_of_lt hal) its.toArray
      have D2 := draws_k (prog := X.prog) (w := X.w) (A := X.A.in1.in1.in1) hh true (s1.heap.objs.size + 1) b (Nat.ne_of_lt (Nat.lt_succ_of_lt hbl)) its2.toArray
      have z1 : its.toArray.size = ns.length := by rw [List.size_toArray]; exact n1.symm
      have z2 : its2.toArray.size = ns.length := by rw [List.size_toArray, hnm]; exact n2.symm
      rw [z1] at D1
      rw [z2] at D2
      refine DtS.sortedZ (s := { s1 with heap := h' }) (zip_sep2 (fp1 := [a]) (fp2 := [b]) (by simpa using hal) (by simpa using hbl)) D1 D2 hz hTI hTO ⟨itK_new g1, ?_⟩ ⟨itK_new g2, ?_⟩ (fun c hcm => ?_) (fun c hcm => ?_) (Nat.le_of_lt (small1000 hn1)) fun h2 tk as hk2 hlt hl hG => ?_
      · obtain ⟨o, ho, r⟩ := (show s1.heap.IsList a its.toArray from p1)
        exact ⟨o, hk _ _ ho, r⟩
      · obtain ⟨o, ho, r⟩ := (show s1.heap.IsTuple b its2.toArray from p2)
        exact ⟨o, hk _ _ ho, r⟩
      · show c < h'.objs.size
        have e' : c = s1.heap.objs.size ∨ c = a := by simpa using hcm
        rcases e' with e' | e'
        · rw [e', hsz]; exact Nat.lt_add_of_pos_right (by decide)
        · rw [e', hsz]; exact Nat.lt_of_lt_of_le hal (Nat.le_add_right _ _)
      · show c < h'.objs.size
        have e' : c = s1.heap.objs.size + 1 ∨ c = b := by simpa using hcm
        rcases e' with e' | e'
        · rw [e', hsz]; exact Nat.add_lt_add_left (by decide) _
        · rw [e', hsz]; exact Nat.lt_of_lt_of_le hbl (Nat.le_add_right _ _)
      -- the pairs that were made
      have pr : ∀ (j : Nat) (c : Addr), as[j]? = some c → ∃ (x y : Int) (t u : Tok), ns[j]? = some x ∧ ms[j]? = some y ∧ h2.get? c = some { cls := .type "tuple", data := .seq #[.int x t, .int y u] } := by
        intro j c hj
        obtain ⟨x, y, hx, hy, hT⟩ := hG.pairs j c hj
        obtain ⟨x', t, e1, rfl⟩ := vals_int rv (show its[j]? = some x by simpa using hx)
        obtain ⟨y', u, e2, rfl⟩ := vals_int rv2 (show its2[j]? = some y by simpa using hy)
        exact ⟨x', y', t, u, e1, e2, hT⟩
      have hlt' : h'.objs.size < h2.objs.size := hlt
      have s12 : s1.heap.objs.size < h2.objs.size := by
        rw [hsz] at hlt'
        exact Nat.lt_of_le_of_lt (Nat.le_add_right _ _) hlt'
      have kb1 : ∀ c o, s1.heap.get? c = some o → h2.get? c = some o := fun c o e => by
        have hcl : c < s1.heap.objs.size := Heap.lt_size e
        exact hk2 c o (Nat.ne_of_lt (Nat.lt_of_lt_of_le hcl (Nat.le_add_right _ _))) (Nat.ne_of_lt (Nat.lt_of_lt_of_le hcl (Nat.le_add_right _ _))) (Nat.ne_of_lt hcl) (Nat.ne_of_lt (Nat.lt_of_lt_of_le hcl (Nat.le_add_right _ _))) (hk c o e)
      have nd : as.Nodup := List.Pairwise.imp (fun h => Nat.ne_of_lt h) hG.rise
      have hob : (h2.push { cls := .type "list", data := .seq (as.map Value.ref).toArray }).get? h2.objs.size = some (seqObj "list" (as.map Value.ref).toArray 0) := Heap.get?_push_size _ rfl
      have ka : ∀ c o, h2.get? c = some o → (h2.push { cls := .type "list", data := .seq (as.map Value.ref).toArray }).get? c = some o := fun c o e => Heap.get?_push_of_some _ e
      have ne0 : ∀ c o, h2.get? c = some o → c ≠ h2.objs.size := fun c o e => Nat.ne_of_lt (Heap.lt_size e)
      generalize h2.push { cls := .type "list", data := .seq (as.map Value.ref).toArray } = h3 at hob ka ⊢
      have kk : ∀ (j : Nat) (c : Addr), as[j]? = some c → ∃ (x y : Int), ns[j]? = some x ∧ ms[j]? = some y ∧ prOf h3 (.ref c) = (x, y) := by
        intro j c hj
        obtain ⟨x, y, t, u, e1, e2, e3⟩ := pr j c hj
        exact ⟨x, y, e1, e2, prOf_at (ka _ _ e3)⟩
      refine wpAny_call_entry PyProof.Rows.slot_list_sort ⟨_, hob, rfl⟩ PyProof.Rows.entry_list_sort
        (SrtO.list_sort_ord (s := { s1 with heap := h3, toks := tk }) (SrtO.swo_lex (prOf h3)) hob (by rw [List.length_map, hl]; exact Nat.le_of_lt (small1000 hn1)) (fun h2' => SrtO.pairs_sortableO (by omega) (fun v hv => ?_) fun o e => ?_) fun out o1 o2 => ⟨_, rfl, ?_⟩) (PyProof.Rows.args_list_sort _)
      · obtain ⟨c, hcm, rfl⟩ := List.mem_map.mp hv
        obtain ⟨j, hj⟩ := List.mem_iff_getElem?.mp hcm
        obtain ⟨x, y, t, u, e1, e2, e3⟩ := pr j c hj
        rw [prOf_at (ka _ _ e3)]
        exact ⟨c, _, t, u, 0, rfl, ka _ _ e3, rfl, rfl⟩
      · have e' : some o = some (seqObj "list" (as.map Value.ref).toArray 0) := e.symm.trans hob
        cases e'
        intro c
        exact absurd (Value.type.inj c) (by decide)
      · show EP X pins σ Q (.ref h2.objs.size) { s1 with heap := sortedHeap h3 h2.objs.size (as.map Value.ref) out.toArray, toks := tk }
        have kF : ∀ c o, c ≠ h2.objs.size → h3.get? c = some o → (sortedHeap h3 h2.objs.size (as.map Value.ref) out.toArray).get? c = some o := fun c o hb e => (PyProof.Rows.sortedHeap_old hb (Heap.lt_size e)).trans e
        have kS : ∀ c o, s1.heap.get? c = some o → (sortedHeap h3 h2.objs.size (as.map Value.ref) out.toArray).get? c = some o := fun c o e => kF c o (ne0 _ _ (kb1 c o e)) (ka _ _ (kb1 c o e))
        obtain ⟨eF, heF⟩ := PyProof.Rows.sortedHeap_at (vs := as.map Value.ref) (out := out.toArray) hob
        have hnH : H1 h2.objs.size = none := I1.hok.fresh (Nat.le_of_lt s12)
        have I2 : Inv X pins σ H1 { s1 with heap := sortedHeap h3 h2.objs.size (as.map Value.ref) out.toArray, toks := tk } := I1.kept (t' := tk) kS
        have hrefs : ∀ u ∈ out, ∃ c, u = Value.ref c := fun u hu => by
          obtain ⟨c, _, e⟩ := List.mem_map.mp (o2.perm.mem_iff.mp hu)
          exact ⟨c, e.symm⟩
        have lout : out.length = ns.length := by rw [o2.perm.length_eq, List.length_map, hl]
        have I3 : Inv X pins σ (upd H1 h2.objs.size (.lst (out.map backV))) { s1 with heap := sortedHeap h3 h2.objs.size (as.map Value.ref) out.toArray, toks := tk } :=
          I2.take (h' := sortedHeap h3 h2.objs.size (as.map Value.ref) out.toArray) (t' := tk) (fun c ob _ e => e) (I1.fpOk (Nat.le_of_lt s12) hnH) ⟨by rw [List.length_map, lout]; exact Nat.le_of_lt (small1000 hn1), out, eF, vals_back hrefs, heF⟩
        obtain ⟨H2, I4, g, qt⟩ := L2.DX.takeT (P := fun c vs => ∃ (j : Nat) (x y : Int), as[j]? = some c ∧ ns[j]? = some x ∧ ms[j]? = some y ∧ vs = [.int x, .int y]) I1 as _ I3 nd fun c hcm => by
          obtain ⟨j, hj⟩ := List.mem_iff_getElem?.mp hcm
          obtain ⟨x, y, t, u, e1, e2, e3⟩ := pr j c hj
          have hcl : s1.heap.objs.size ≤ c := by
            have h5 := hG.above c hcm
            have h6 : h'.objs.size + 1 ≤ c := h5
            rw [hsz] at h6
            exact Nat.le_trans (Nat.le_add_right _ 6) h6
          refine ⟨hcl, ?_, [.int x, .int y], ⟨j, x, y, hj, e1, e2, rfl⟩, fun H3 => ⟨by show 2 ≤ sizeLine; decide, [Value.int x t, Value.int y u], .cons ⟨t, rfl⟩ (.cons ⟨u, rfl⟩ .nil), ⟨_, kF _ _ (ne0 _ _ e3) (ka _ _ e3), rfl, 0, rfl⟩⟩⟩
          rw [upd_ne (ne0 _ _ e3)]
          exact I1.hok.fresh hcl
        have gr : Same H1 H2 := fun c o e => g c o (by rw [upd_ne (ne_of_none e hnH)]; exact e)
        refine ⟨.ref h2.objs.size, H2, I4, rfl, q H2 h2.objs.size (out.map (prOf h3)) (out.map backV) gr ?_ ?_ (g _ _ upd_same) ⟨by rw [List.length_map, List.length_map], fun i v hv => ?_⟩⟩
        · refine (o2.perm.map (prOf h3)).trans (List.Perm.of_eq ?_)
          rw [List.map_map]
          apply List.ext_getElem?
          intro j
          rw [List.getElem?_map]
          cases hj : as[j]? with
          | none =>
            have : ns.length ≤ j := by rw [← hl]; exact List.getElem?_eq_none_iff.mp hj
            rw [List.getElem?_eq_none (by rw [List.length_zip]; omega)]
            rfl
          | some c =>
            obtain ⟨x, y, e1, e2, e3⟩ := kk j c hj
            rw [zip_at' e1 e2]
            show some (prOf h3 (.ref c)) = _
            rw [e3]
        · rw [List.pairwise_map]
          refine List.Pairwise.imp (fun {x y} h => ?_) o1
          have := SrtO.lexB_no.mp h
          omega
        · rw [List.getElem?_map] at hv
          cases hoi : out[i]? with
          | none => rw [hoi] at hv; cases hv
          | some u =>
            rw [hoi] at hv
            obtain ⟨c, hcm, rfl⟩ := List.mem_map.mp (o2.perm.mem_iff.mp (List.mem_of_getElem? hoi))
            obtain ⟨vs, ⟨j, x, y, j1, j2, j3, ev⟩, hH⟩ := qt c hcm
            obtain ⟨x', y', k1, k2, k3⟩ := kk j c j1
            have ev' : v = .ref c := (Option.some.inj hv).symm
            refine ⟨(x', y'), by rw [List.getElem?_map, hoi]; show some (prOf h3 (.ref c)) = _; rw [k3], c, ev', ?_⟩
            rw [j2] at k1
            rw [j3] at k2
            have a1 := Option.some.inj k1
            have a2 := Option.some.inj k2
            subst a1 a2
            rw [hH, ev]
end Dt
end

section
set_option Elab.async false
set_option linter.all false
set_option maxRecDepth 100000
set_option maxHeartbeats 800000
/-! the law -/
namespace Dt
open PySem PySem.Spec PyProof.Rows L2
theorem same_x {H Hi Hj : Hp} {q : Addr} (s : Same H Hi) (x : SameX q Hi Hj) (n : H q = none) : Same H Hj := fun b u h => x b u (ne_new n h) (s b u h)
theorem Src.notD {H : Hp} {p : Addr} {b : Nat} (h : Src H p b) : ∀ kvs, H p ≠ Option.some (HO.dK kvs) := fun kvs e => by
  obtain ⟨c, t, x, h1, _⟩ := h
  rw [h1] at e
  cases e
theorem Plain.stp {H H' : Hp} {v : V} {p : Addr} {b n : Nat} {bs : List Bd} {lo : List Int} {ts : List Tm} (h : Plain H v n bs lo ts) (S : Src H p b) (s : SameX p H H') : Plain H' v n bs lo ts := h.x s S.notD (S.tex s)
theorem Plain.ins {H H' : Hp} {v : V} {C a : Addr} {m n : Nat} {bs bs' : List Bd} {lo lo' : List Int} {ts ts' : List Tm} (h : Plain H v n bs lo ts) (B : PB C H a m bs' lo' ts') (s : SameX a H H') : Plain H' v n bs lo ts := by
  refine h.x s (fun kvs e => ?_) (B.tex s)
  obtain ⟨fl, ⟨dx, vb, vl, vt, ha, _⟩, _⟩ := B
  rw [ha] at e
  cases e
theorem LsT.stp {δ : Type} {enc : δ → List V} {H H' : Hp} {v : V} {p : Addr} {b : Nat} {ds : List δ} (h : LsT enc H v ds) (S : Src H p b) (s : SameX p H H') : LsT enc H' v ds := by
  obtain ⟨q, vs, rfl, hq, hr⟩ := h
  refine ⟨q, vs, rfl, s _ _ (fun e => ?_) hq, Tps.mono (S.tex s) hr⟩
  obtain ⟨c, t, x, h1, _⟩ := S
  rw [e, h1] at hq
  have e2 : [V.int c, .int t, .int x] = vs := HO.lst.inj (Option.some.inj hq)
  obtain ⟨d, _, g, hg, _⟩ := hr.at_ 0 (.int c) (by rw [← e2]; rfl)
  cases hg
theorem PB.meth {C : Addr} {H : Hp} {a : Addr} {n : Nat} {bs : List Bd} {lo : List Int} {ts : List Tm} (B : PB C H a n bs lo ts) {m : Str} (h1 : ¬ kS = m := by decide) (h2 : ¬ kB = m := by decide) (h3 : ¬ kL = m := by decide) (h4 : ¬ kT = m := by decide) (h5 : ¬ kF = m := by decide) : ∃ dx fs, H a = some (.ins C dx fs) ∧ fs.lookup m = none := by
  obtain ⟨fl, ⟨dx, vb, vl, vt, ha, _⟩, _⟩ := B
  exact ⟨dx, _, ha, look_m _ _ _ _ _ h1 h2 h3 h4 h5⟩
theorem PB.tup {C : Addr} {H : Hp} {a q : Addr} {n : Nat} {bs : List Bd} {lo : List Int} {ts : List Tm} (B : PB C H a n bs lo ts) {xs : List V} (h : H q = some (.lst xs)) : q ≠ a := fun e => by
  obtain ⟨fl, ⟨dx, vb, vl, vt, ha, _⟩, _⟩ := B
  rw [e, ha] at h
  cases h
theorem Plain.get {H : Hp} {e : Addr} {n : Nat} {bs : List Bd} {lo : List Int} {ts : List Tm} (h : Plain H (.ref e) n bs lo ts) : ∃ vb vl vt, H e = some (.dK (pl4 (.int n) vb vl vt)) ∧ TuT bdV H vb bs ∧ Tp H vl (lo.map V.int) ∧ TuT tmV H vt ts := by
  obtain ⟨d, vb, vl, vt, h0, h1⟩ := h
  cases h0
  exact ⟨vb, vl, vt, h1⟩
theorem stD_tps {δ : Type} {K : PySem.W.Frag} {enc : δ → List V} {H : Hp} {us : List V} {ds : List δ} (hR : Tps enc H us ds) (f : ∀ v d, Tp H v (enc d) → StD K H v) : ∀ v ∈ us, StD K H v := fun v hv => by
  obtain ⟨i, hi⟩ := List.mem_iff_getElem?.mp hv
  obtain ⟨d, _, h⟩ := hR.at_ i v hi
  exact f v d h
theorem nat_rep (l : List Nat) : Rep (fun v (k : Nat) => v = V.int (k : Int)) ((toI l).map V.int) l := by
  have h := rep_map (fun k : Nat => V.int (k : Int)) l
  have e : (toI l).map V.int = l.map fun k : Nat => V.int (k : Int) := by
    unfold toI
    rw [List.map_map]
    rfl
  rw [e]
  exact h
theorem nat_of {us : List V} {l : List Nat} (h : Rep (fun v (k : Nat) => v = V.int (k : Int)) us l) : us = (toI l).map V.int := by
  rw [h.eq_map (enc := fun k : Nat => V.int (k : Int))]
  unfold toI
  rw [List.map_map]
  rfl
theorem stD_int {K : PySem.W.Frag} {H : Hp} (i : Int) : StD K H (.int i) := ⟨.int i, fun _ _ => .int i, by simp [PyData.canLay0], by simp [PyData.depth]⟩
theorem stD_bd {K : PySem.W.Frag} {H : Hp} {v : V} {d : Bd} (h : Tp H v (bdV d)) : StD K H v := by
  refine ⟨intD [(d.i : Int), (d.j : Int), d.d], fun H' e => ?_, ?_, ?_⟩
  · obtain ⟨p, rfl, hp⟩ := h
    exact .tup (SqT.of (e _ _ hp)) (intD_dp [(d.i : Int), (d.j : Int), d.d])
  · simp [intD, PyData.canLay0, PyData.canLayAll0]
  · simp [intD, PyData.depth, PyData.depthAll]
theorem stD_tm {K : PySem.W.Frag} {H : Hp} {v : V} {t : Tm} (h : Tp H v (tmV t)) : StD K H v := by
  obtain ⟨p, rfl, hp⟩ := h
  cases t with
  | ln l => exact ⟨.tuple [.str "line", .int l.i, .int l.j, .int l.w], fun H' e => .tup (SqT.of (e _ _ hp)) (.cons (.str _) (.cons (.int _) (.cons (.int _) (.cons (.int _) .nil)))), by simp [PyData.canLay0, PyData.canLayAll0]; decide +kernel, by simp [PyData.depth, PyData.depthAll]⟩
  | bn l => exact ⟨.tuple [.str "bend", .int l.i, .int l.j, .int l.k, .int l.w], fun H' e => .tup (SqT.of (e _ _ hp)) (.cons (.str _) (.cons (.int _) (.cons (.int _) (.cons (.int _) (.cons (.int _) .nil))))), by simp [PyData.canLay0, PyData.canLayAll0]; decide +kernel, by simp [PyData.depth, PyData.depthAll]⟩
def cmpD (l : List Int) (c : Int) : List PyData := [intD l, .int c, .bool true]
theorem cmpD_eq (l : List Int) (c : Int) : PyData.eqv (.list (cmpD l c)) (.list (cmpD l c)) = true := by
  have := eqv_ints l
  simp [cmpD, PyData.eqv, PyData.eqvAll, this]
theorem cmpD_shaped (l : List Int) (c : Int) : SeqAt.shaped (.list (cmpD l c)) = true := shaped_list fun d hd => by
  have h1 := ints_lay l
  have h2 := ints_depth l
  unfold cmpD at hd
  rcases List.mem_cons.mp hd with rfl | hd
  · refine ⟨by simp [intD, PyData.canLay0, h1], ?_⟩
    simp only [intD, PyData.depth]
    omega
  · rcases List.mem_cons.mp hd with rfl | hd
    · exact ⟨by simp [PyData.canLay0], by simp [PyData.depth]⟩
    · rw [List.mem_singleton.mp hd]
      exact ⟨by simp [PyData.canLay0], by simp [PyData.depth]⟩
theorem rep_ints {us : List V} {ds : List Int} (h : Rep (fun v d => v = V.int d) us ds) : us = ds.map V.int := h.eq_map
section
variable {P : Program} {w : World} {K : PySem.W.Frag} {mg : Str → Option Value} {base : Heap}
abbrev n_law : List Str := ["_law_script", "_law_k", "_law_source_here", "_law_one", "_law_two", "_law_many", "_law_names", "_law_links", "_law_costs", "_law_floor_so", "_law_both", "_law_near", "_law_far", "_law_problem", "_law_row", "_law_due", "_law_own", "_law_name", "_law_low", "_law_value"]
abbrev p_law : List Str := ["_law_script"]
theorem sc_law : FnScope n_law p_law (defScope s_law) := ⟨rfl, rfl, rfl, by decide +kernel, rfl, by decide +kernel, by decide +kernel⟩
def sp_law (K : PySem.W.Frag) : Sp := fun vs H Q _ => ∃ (ps : Addr) (script : List Int), vs = [.ref ps] ∧ SqL K H ps (script.map V.int) ∧ ∀ H', Q (.bl true) H'
theorem ok_law {C : Addr} {f : Addr} {fd : FuncData} (F : FunD K "law" "law" (defArgs s_law) (defBody s_law) (defScope s_law) [] [] f fd) (T : Txt K mg) (Z : Zt K mg C)
    (C_L_source : Cal P w K mg base "_law_source" 1 p_L_source (sp_L_source K)) (C_L_next : Cal P w K mg base "_law_next" 1 p_L_next sp_L_next) (C_L_drawn_problem : Cal P w K mg base "_law_drawn_problem" 3 p_L_drawn_problem sp_L_drawn_problem) (C_L_shuffled : Cal P w K mg base "_law_shuffled" 2 p_L_shuffled (sp_L_shuffled K)) (C_L_numbered : Cal P w K mg base "_law_numbered" 1 p_L_numbered sp_L_numbered) (C_L_implied : Cal P w K mg base "_law_implied" 1 p_L_implied sp_L_implied)
    (C_L_given : Cal P w K mg base "_law_given" 10 p_L_given (sp_L_given C)) (C_L_certifies : Cal P w K mg base "_law_certifies" 3 p_L_certifies sp_L_certifies) (C_P_solve : MCal P w K mg base C "solve" 7 p_P_solve (sp_P_solve C)) (C_P_cost_of_row : MCal P w K mg base C "cost_of_row" 3 p_P_cost_of_row (sp_P_cost_of_row C)) (C_P_is_solution : MCal P w K mg base C "is_solution" 8 p_P_is_solution (sp_P_is_solution C))
    (C_P_certify : MCal P w K mg base C "certify" 6 p_P_certify (sp_P_certify C)) (C_P_better : MCal P w K mg base C "better" 7 p_P_better (sp_P_better C)) : FnOk P w K mg base CX0 11 f fd p_law (sp_law K) := by
  refine ok_by F sc_law (fun vs H Q E h => ?_) (fun cdv A outer s H vs Q E hr h => ?_)
  · obtain ⟨ps, script, rfl, _⟩ := h
    rfl
  · obtain ⟨psc, script, rfl, hscr, kfin⟩ := h
    refine ⟨_, (pss_cons (ps_for PassesOwn.never rfl (pi_range1 (by rfl) T.range (pa_cons (pe_callB (call_max2 rfl) (by rfl) T.max (by decide +kernel) (pa_cons pe_int (pa_cons (pe_callB (call_min2 rfl) (by rfl) T.min (by decide +kernel) (pa_cons pe_int (pa_cons (pe_callB call_len_seq (by rfl) T.len (by decide +kernel) (pa_cons (pv 0) pa_nil)) pa_nil))) pa_nil))) pa_nil)) (pg_name (i := 1) sc_law.nd rfl (Or.inl rfl))
        (pss_cons (ps_set (i := 2) sc_law.nd rfl (Or.inl rfl) (pe_cal C_L_source hr (by decide) (pa_cons (pv 0) (pa_cons (pv 1) pa_nil))))
        (pss_cons (ps_set (i := 3) sc_law.nd rfl (Or.inl rfl) (pe_cal C_L_drawn_problem hr (by decide) (pa_cons (pv 2) (pa_cons (pe_op op_add pe_int (pe_cal C_L_next hr (by decide) (pa_cons (pv 2) (pa_cons pe_int pa_nil)))) (pa_cons pe_int pa_nil)))))
        (pss_cons (ps_set (i := 4) sc_law.nd rfl (Or.inl rfl) (pe_cal C_L_drawn_problem hr (by decide) (pa_cons (pv 2) (pa_cons (pe_op op_add pe_int (pe_cal C_L_next hr (by decide) (pa_cons (pv 2) (pa_cons pe_int pa_nil)))) (pa_cons pe_int pa_nil)))))
        (pss_cons (ps_set (i := 5) sc_law.nd rfl (Or.inl rfl) (pe_op op_add (pe_dget (hu_of hr) (pv 3) pe_str (fun _ _ => rfl)) (pe_dget (hu_of hr) (pv 4) pe_str (fun _ _ => rfl))))
        (pss_cons (ps_set (i := 6) sc_law.nd rfl (Or.inl rfl) (pe_cal C_L_shuffled hr (by decide) (pa_cons (pv 2) (pa_cons (pe_listRg rfl rfl T.list (prg_1 rfl T.range (pv 5))) pa_nil))))
        (pss_cons (ps_set (i := 7) sc_law.nd rfl (Or.inl rfl) (pe_op op_cat (pe_cal C_L_numbered hr (by decide) (pa_cons (pe_dget (hu_of hr) (pv 3) pe_str (fun _ _ => rfl)) (pa_cons (pv 6) pa_nil))) (pe_cal C_L_numbered hr (by decide) (pa_cons (pe_dget (hu_of hr) (pv 4) pe_str (fun _ _ => rfl)) (pa_cons (pe_slice (sl_listK K) (pv 6) (po_some (pe_dget (hu_of hr) (pv 3) pe_str (fun _ _ => rfl))) po_none) pa_nil)))))
        (pss_cons (ps_set (i := 8) sc_law.nd rfl (Or.inl rfl) (pe_op op_cat (pe_cal C_L_numbered hr (by decide) (pa_cons (pe_dget (hu_of hr) (pv 3) pe_str (fun _ _ => rfl)) (pa_cons (pv 6) pa_nil))) (pe_cal C_L_numbered hr (by decide) (pa_cons (pe_dget (hu_of hr) (pv 4) pe_str (fun _ _ => rfl)) (pa_cons (pe_slice (sl_listK K) (pv 6) (po_some (pe_dget (hu_of hr) (pv 3) pe_str (fun _ _ => rfl))) po_none) pa_nil)))))
        (pss_cons (ps_setLc (i := 9) (own := [("_law_name", 17), ("_law_low", 18)]) (by rfl) sc_law.nd rfl rfl (sw_true rfl rfl rfl (by decide +kernel)) (pi_list (pe_sortedZip rfl (by rfl) T.sorted (by rfl) T.zip (pa_cons (pv 6) (pa_cons (pe_op op_catT (pe_dget (hu_of hr) (pv 3) pe_str (fun _ _ => rfl)) (pe_dget (hu_of hr) (pv 4) pe_str (fun _ _ => rfl))) pa_nil)))) (blkOk_by (own := [("_law_name", 17), ("_law_low", 18)]) (N := n_law) (sc := defScope s_law) (by decide +kernel)) (fun _ _ _ _ _ => (pg_tupK K 2 rfl (pgs_cons (pg_name (i := 17) sc_law.nd rfl (Or.inl rfl)) (pgs_cons (pg_name (i := 18) sc_law.nd rfl (Or.inl rfl)) pgs_nil)))) (fun _ _ _ _ _ => pts_nil) (fun _ _ _ _ _ => (pv 18)))
        (pss_cons (ps_set (i := 7) sc_law.nd rfl (Or.inl rfl) (pe_cal C_L_shuffled hr (by decide) (pa_cons (pv 2) (pa_cons (pe_op op_cat (pv 7) (pe_cal C_L_implied hr (by decide) (pa_cons (pv 7) pa_nil))) pa_nil))))
        (pss_cons (ps_set (i := 10) sc_law.nd rfl (Or.inl rfl) (pe_disp (pps_cons pe_str (pv 5) (pps_cons pe_str (pe_callTy call_tuple_of (by rfl) T.tuple (by decide +kernel) (pa_cons (pv 7) pa_nil)) (pps_cons pe_str (pe_callTy call_tuple_of (by rfl) T.tuple (by decide +kernel) (pa_cons (pv 9) pa_nil)) pps_nil))) (by rfl) (by rfl) (fun z => by cases z) (by decide)))
        (pss_cons (ps_dput (hu_of hr) (pv 10) pe_str (pe_callTy call_tuple_of (by rfl) T.tuple (by decide +kernel) (pa_cons (pe_cal C_L_shuffled hr (by decide) (pa_cons (pv 2) (pa_cons (pv 8) pa_nil))) pa_nil)) rfl)
        (pss_cons (ps_par3 (i := 11) (j := 12) (l := 13) (by rfl) sc_law.nd rfl rfl rfl (by decide) (by decide) (by decide) rfl rfl rfl (pa_cons (pe_cal C_L_given hr (by decide) (pa_cons (pv 3) pa_nil)) (pa_cons (pe_cal C_L_given hr (by decide) (pa_cons (pv 4) pa_nil)) (pa_cons (pe_cal C_L_given hr (by decide) (pa_cons (pv 10) pa_nil)) pa_nil))) (by rfl))
        (pss_cons (ps_set (i := 14) sc_law.nd rfl (Or.inl rfl) (pe_op op_catT (pe_mcal0 (pv 11) Z.cl C_P_solve hr (by decide)) (pe_mcal0 (pv 12) Z.cl C_P_solve hr (by decide))))
        (pss_cons (ps_set (i := 15) sc_law.nd rfl (Or.inl rfl) (pe_callTy call_tuple_of (by rfl) T.tuple (by decide +kernel) (pa_cons (pe_lc (own := [("_law_name", 17), ("_law_value", 19)]) (by rfl) sc_law.nd (pi_list (pe_sortedZip rfl (by rfl) T.sorted (by rfl) T.zip (pa_cons (pv 6) (pa_cons (pv 14) pa_nil)))) (blkOk_by (own := [("_law_name", 17), ("_law_value", 19)]) (N := n_law) (sc := defScope s_law) (by decide +kernel)) (fun _ _ _ _ _ => (pg_tupK K 2 rfl (pgs_cons (pg_name (i := 17) sc_law.nd rfl (Or.inl rfl)) (pgs_cons (pg_name (i := 19) sc_law.nd rfl (Or.inl rfl)) pgs_nil)))) (fun _ _ _ _ _ => pts_nil) (fun _ _ _ _ _ => (pv 19))) pa_nil)))
        (pss_cons (ps_set (i := 16) sc_law.nd rfl (Or.inl rfl) (pe_op op_add (pe_mcal (pv 11) Z.cl C_P_cost_of_row hr (by decide) (pa_cons (pe_mcal0 (pv 11) Z.cl C_P_solve hr (by decide)) pa_nil)) (pe_mcal (pv 12) Z.cl C_P_cost_of_row hr (by decide) (pa_cons (pe_mcal0 (pv 12) Z.cl C_P_solve hr (by decide)) pa_nil))))
        (pss_cons (ps_if (pt_cmpR (op_neD hr.units) (pe_lst (pa_cons (pe_mcal0 (pv 13) Z.cl C_P_solve hr (by decide)) (pa_cons (pe_mcal (pv 13) Z.cl C_P_cost_of_row hr (by decide) (pa_cons (pv 15) pa_nil)) (pa_cons (pe_mcal (pv 13) Z.cl C_P_is_solution hr (by decide) (pa_cons (pv 15) pa_nil)) pa_nil)))) (pe_lst (pa_cons (pv 15) (pa_cons (pv 16) (pa_cons pe_bl pa_nil)))) (nomark _)) (pss_one (ps_ret pe_bl)) pss_nil)
        (pss_one (ps_if (PW.pt (pw_or (pt_not (pt_val (pe_cal C_L_certifies hr (by decide) (pa_cons (pv 10) (pa_cons (pv 15) (pa_cons (pe_mcal0 (pv 13) Z.cl C_P_certify hr (by decide)) pa_nil)))))) (pw_or1 (pt_cmpR op_notN (pe_mcal (pv 13) Z.cl C_P_better hr (by decide) (pa_cons (pv 15) pa_nil)) pe_non (nomark _))))) (pss_one (ps_ret pe_bl)) pss_nil)))))))))))))))))))
      (pss_one (ps_ret pe_bl))), ?_⟩
    refine te_cut (te := tCB _ _) (fun v H' => ∃ m : Nat, v = .int m ∧ m ≤ 3 ∧ H' = H) (fun Q' hQ => ?_) ?_
    · refine ⟨_, rfl, psc, _, rfl, .inl hscr, _, _, rfl, _, _, rfl, hQ _ _ ⟨_, congrArg V.int (Int.toNat_of_nonneg ?_).symm, ?_, rfl⟩⟩
      · split
        · split <;> omega
        · omega
      · split
        · split <;> omega
        · omega
    rintro v H0 ⟨m, rfl, hm3, rfl⟩
    refine ⟨m, rfl, by omega, by omega, ?_⟩
    refine for_it (walk_range (lo := 0) (n := m)) (fun i σ H' => ∃ x1 x2 x3 x4 x5 x6 x7 x8 x9 x10 x11 x12 x13 x14 x15 x16 : Option V, σ = [some (.ref psc), x1, x2, x3, x4, x5, x6, x7, x8, x9, x10, x11, x12, x13, x14, x15, x16, none, none, none] ∧ Same H0 H')
      ⟨none, none, none, none, none, none, none, none, none, none, none, none, none, none, none, none, rfl, Same.refl _⟩ (fun i σ H' _ p => trivial) (fun i x σ G0 G0' hi q y => ?_) (fun σ H' q => ?_)
    · obtain ⟨x1, x2, x3, x4, x5, x6, x7, x8, x9, x10, x11, x12, x13, x14, x15, x16, rfl, t0⟩ := q
      obtain ⟨rfl, hx⟩ := y
      have ex : x = V.int (i : Nat) := hx.trans (congrArg V.int (Int.zero_add _))
      rw [ex]
      have hscr0 := t0.seq hscr
      -- the source
      refine ⟨_, rfl, _, rfl, psc, script, i, rfl, hscr0, fun p G1 np s1 S1 => ?_⟩
      have S1 : Src G1 p 10 := S1.up (by omega)
      have t1 : Same G0' G1 := s1
      -- one
      refine ⟨_, rfl, _, rfl, p, 4, 10, rfl, S1, by omega, by omega, by omega, fun r1 G2 s2 S2 hr1 => ?_⟩
      have t2 := same_x t1 s2 np
      refine ⟨_, _, rfl, rfl, p, 1 + r1, 11, ?_, S2, by omega, by omega, by omega, fun v1 G3 bs1 lo1 ts1 s3 S3 PL1 O1 lb1 lt1 d71 => ?_⟩
      · have e : (1 : Int) + (r1 : Nat) = ((1 + r1 : Nat) : Int) := by omega
        show [V.ref p, V.int ((1 : Int) + (r1 : Nat)), V.int 7] = _
        rw [e]
      have t3 := same_x t2 s3 np
      have hn1 : 1 + r1 ≤ 4 := by omega
      have hn1' := O1.n1
      generalize 1 + r1 = n1 at *
      -- two
      refine ⟨_, rfl, _, rfl, p, 4, 211, rfl, S3, by omega, by omega, by omega, fun r2 G4 s4 S4 hr2 => ?_⟩
      have t4 := same_x t3 s4 np
      have PL1 := PL1.stp S3 s4
      refine ⟨_, _, rfl, rfl, p, 1 + r2, 212, ?_, S4, by omega, by omega, by omega, fun v2 G5 bs2 lo2 ts2 s5 S5 PL2 O2 lb2 lt2 d72 => ?_⟩
      · have e : (1 : Int) + (r2 : Nat) = ((1 + r2 : Nat) : Int) := by omega
        show [V.ref p, V.int ((1 : Int) + (r2 : Nat)), V.int 7] = _
        rw [e]
      have t5 := same_x t4 s5 np
      have PL1 := PL1.stp S4 s5
      have hn2 : 1 + r2 ≤ 4 := by omega
      have hn2' := O2.n1
      generalize 1 + r2 = n2 at *
      -- many
      have PL1c := PL1
      have PL2c := PL2
      obtain ⟨e1, vb1, vl1, vt1, rfl, hd1, _⟩ := PL1c
      obtain ⟨e2, vb2, vl2, vt2, rfl, hd2, _⟩ := PL2c
      refine ⟨_, rfl, e1, _, rfl, dg_s hd1, _, rfl, e2, _, rfl, dg_s hd2, _, _, rfl, rfl, ?_⟩
      have eN : (n1 : Int) + (n2 : Nat) = ((n1 + n2 : Nat) : Int) := by omega
      -- names
      refine ⟨_, rfl, _, rfl, ((n1 + n2 : Nat) : Int), congrArg V.int eN, RgOk.of_le (by omega) (by omega) (by omega) (by omega), fun q0 nq0 => ?_⟩
      have s6 : Same G5 (upd G5 q0 (.lst (rgV 0 ((n1 + n2 : Nat) : Int)))) := same_new nq0
      have hq0 : upd G5 q0 (.lst (rgV 0 ((n1 + n2 : Nat) : Int))) q0 = some (.lst ((toI (List.range (n1 + n2))).map V.int)) := by
        rw [upd_same, rgV_nats]
        rfl
      have S6 := S5.same s6
      have PL1 := PL1.same s6
      have PL2 := PL2.same s6
      have t6 := t5.trans s6
      generalize upd G5 q0 (.lst (rgV 0 ((n1 + n2 : Nat) : Int))) = G6 at *
      refine ⟨p, q0, 412, _, rfl, S6, hq0, by rw [toI_len, List.length_range]; omega, by omega, fun v hv => ?_, fun qn us G7 dqn s7 S7 hqn hperm => ?_⟩
      · obtain ⟨z, _, rfl⟩ := List.mem_map.mp hv
        exact stD_int z
      obtain ⟨names, hnm, hrp⟩ := rep_perm hperm (nat_rep (List.range (n1 + n2)))
      have eus := nat_of hrp
      subst eus
      have lnm : names.length = n1 + n2 := by rw [hnm.length_eq, List.length_range]
      have S7 : Src G7 p 450 := S7.up (by rw [toI_len, List.length_range]; omega)
      have t7 := same_x t6 s7 np
      have PL1 := PL1.stp S6 s7
      have PL2 := PL2.stp S6 s7
      -- links
      obtain ⟨vb1, vl1, vt1, hd1, hB1, hL1, hT1⟩ := PL1.get
      refine ⟨_, rfl, e1, _, rfl, dg_l hd1, _, rfl, vb1, qn, names, rfl, hqn, .inl ⟨bs1, hB1, by omega, fun b hb => ⟨?_, ?_⟩, fun w1 G8 s8 hK1 => ?_⟩⟩
      · have := (O1.b b hb).1
        omega
      · have := (O1.b b hb).2.1
        omega
      have t8 := t7.trans s8
      have PL1 := PL1.same s8
      have PL2 := PL2.same s8
      have S8 := S7.same s8
      have hqn8 := s8 _ _ hqn
      obtain ⟨vb1, vl1, vt1, hd1, hB1, hL1, hT1⟩ := PL1.get
      obtain ⟨vb2, vl2, vt2, hd2, hB2, hL2, hT2⟩ := PL2.get
      refine ⟨_, rfl, e2, _, rfl, dg_l hd2, _, rfl, _, rfl, e1, _, rfl, dg_s hd1, _, rfl, qn, _, rfl, SqL.of hqn8, fun qs nqs => ?_⟩
      have edrop : cutV ((toI names).map V.int) (some (n1 : Nat)) none = (toI (names.drop n1)).map V.int := by
        rw [cut_from]
        unfold toI
        rw [List.map_drop, List.map_drop]
      rw [edrop]
      have s9 : Same G8 (upd G8 qs (.lst ((toI (names.drop n1)).map V.int))) := same_new nqs
      have hqs : upd G8 qs (.lst ((toI (names.drop n1)).map V.int)) qs = some (.lst ((toI (names.drop n1)).map V.int)) := upd_same
      generalize upd G8 qs (.lst ((toI (names.drop n1)).map V.int)) = G9 at *
      have ldr : (names.drop n1).length = n2 := by rw [List.length_drop]; omega
      refine ⟨vb2, qs, names.drop n1, rfl, hqs, .inl ⟨bs2, hB2.mono (TEx.of s9), by omega, fun b hb => ⟨?_, ?_⟩, fun w2 G10 s10 hK2 => ?_⟩⟩
      · have := (O2.b b hb).1
        omega
      · have := (O2.b b hb).2.1
        omega
      have s810 := s9.trans s10
      obtain ⟨c1, us1, rfl, hc1, hr1⟩ := hK1
      obtain ⟨c2, us2, rfl, hc2, hr2⟩ := hK2
      refine ⟨c1, c2, _, _, rfl, rfl, s810 _ _ hc1, hc2, Nat.le_of_lt (small1000 (by rw [hr1.len, hr2.len, List.length_map, List.length_map]; omega)), fun ql nql => ?_⟩
      have s11 : Same G10 (upd G10 ql (.lst (us1 ++ us2))) := same_new nql
      have hK : LsT bdV (upd G10 ql (.lst (us1 ++ us2))) (.ref ql) (bs1.map (renB (nmOf names)) ++ bs2.map (renB (nmOf (names.drop n1)))) := ⟨ql, _, rfl, upd_same, Rep.append (Tps.mono (TEx.of (s810.trans s11)) hr1) (Tps.mono (TEx.of s11) hr2)⟩
      have s811 := s810.trans s11
      have t11 := t8.trans s811
      have PL1 := PL1.same s811
      have PL2 := PL2.same s811
      have S11 := S8.same s811
      have hqn11 := s811 _ _ hqn8
      generalize upd G10 ql (.lst (us1 ++ us2)) = G11 at *
      -- costs
      obtain ⟨vb1, vl1, vt1, hd1, hB1, hL1, hT1⟩ := PL1.get
      refine ⟨_, rfl, e1, _, rfl, dg_c hd1, _, rfl, vt1, qn, names, rfl, hqn11, .inr ⟨ts1, hT1, by omega, fun t ht => ?_, fun w3 G12 s12 hK3 => ?_⟩⟩
      · have := tmOk_lt (O1.t t ht)
        cases t with
        | ln l => exact ⟨by have := this.1; omega, by have := this.2; omega⟩
        | bn l => exact ⟨by have := this.1; omega, by have := this.2; omega⟩
      have t12 := t11.trans s12
      have PL1 := PL1.same s12
      have PL2 := PL2.same s12
      have S12 := S11.same s12
      have hqn12 := s12 _ _ hqn11
      have hK := hK.mono s12
      obtain ⟨vb1, vl1, vt1, hd1, hB1, hL1, hT1⟩ := PL1.get
      obtain ⟨vb2, vl2, vt2, hd2, hB2, hL2, hT2⟩ := PL2.get
      refine ⟨_, rfl, e2, _, rfl, dg_c hd2, _, rfl, _, rfl, e1, _, rfl, dg_s hd1, _, rfl, qn, _, rfl, SqL.of hqn12, fun qs2 nqs2 => ?_⟩
      rw [edrop]
      have s13 : Same G12 (upd G12 qs2 (.lst ((toI (names.drop n1)).map V.int))) := same_new nqs2
      have hqs2 : upd G12 qs2 (.lst ((toI (names.drop n1)).map V.int)) qs2 = some (.lst ((toI (names.drop n1)).map V.int)) := upd_same
      generalize upd G12 qs2 (.lst ((toI (names.drop n1)).map V.int)) = G13 at *
      refine ⟨vt2, qs2, names.drop n1, rfl, hqs2, .inr ⟨ts2, hT2.mono (TEx.of s13), by omega, fun t ht => ?_, fun w4 G14 s14 hK4 => ?_⟩⟩
      · have := tmOk_lt (O2.t t ht)
        rw [ldr]
        exact this
      have s1214 := s13.trans s14
      obtain ⟨c3, us3, rfl, hc3, hr3⟩ := hK3
      obtain ⟨c4, us4, rfl, hc4, hr4⟩ := hK4
      refine ⟨c3, c4, _, _, rfl, rfl, s1214 _ _ hc3, hc4, Nat.le_of_lt (small1000 (by rw [hr3.len, hr4.len, List.length_map, List.length_map]; omega)), fun qc nqc => ?_⟩
      have s15 : Same G14 (upd G14 qc (.lst (us3 ++ us4))) := same_new nqc
      have hKc : LsT tmV (upd G14 qc (.lst (us3 ++ us4))) (.ref qc) (ts1.map (renT (nmOf names)) ++ ts2.map (renT (nmOf (names.drop n1)))) := ⟨qc, _, rfl, upd_same, Rep.append (Tps.mono (TEx.of (s1214.trans s15)) hr3) (Tps.mono (TEx.of s15) hr4)⟩
      have s1215 := s1214.trans s15
      have t15 := t12.trans s1215
      have PL1 := PL1.same s1215
      have PL2 := PL2.same s1215
      have S15 := S12.same s1215
      have hqn15 := s1215 _ _ hqn12
      have hK := hK.mono s1215
      generalize upd G14 qc (.lst (us3 ++ us4)) = G15 at *
      -- the floor
      obtain ⟨vb1, vl1, vt1, hd1, hB1, ⟨f1, rfl, hf1⟩, hT1⟩ := PL1.get
      obtain ⟨vb2, vl2, vt2, hd2, hB2, ⟨f2, rfl, hf2⟩, hT2⟩ := PL2.get
      have ne1 : lo1.map V.int ≠ [] := fun z => by
        have := congrArg List.length z
        rw [List.length_map, O1.ll] at this
        simp at this
        omega
      have ne2 : lo2.map V.int ≠ [] := fun z => by
        have := congrArg List.length z
        rw [List.length_map, O2.ll] at this
        simp at this
        omega
      refine ⟨_, rfl, _, rfl, e1, _, rfl, dg_f hd1, _, rfl, e2, _, rfl, dg_f hd2, f1, f2, _, _, rfl, rfl, SqT.of hf1, SqT.of hf2, ne1, Nat.le_of_lt (small1000 (by rw [List.length_map, List.length_map, O1.ll, O2.ll]; omega)), fun z => absurd z ne2, fun _ qf nqf => ?_⟩
      rw [← List.map_append]
      have s16 : Same G15 (upd G15 qf (.tup ((lo1 ++ lo2).map V.int))) := same_new nqf
      refine ⟨qn, qf, toI names, lo1 ++ lo2, rfl, SqL.of (s16 _ _ hqn15), SqT.of upd_same, by rw [List.length_append, O1.ll, O2.ll]; simp [toI, lnm], by simp [toI, lnm]; omega, fun G17 lz ps1 usz s17 hps1 hsr1 hlz hRz => ?_⟩
      have s1517 := s16.trans s17
      have lps1 : ps1.length = n1 + n2 := by rw [hps1.length_eq, List.length_zip, List.length_append, O1.ll, O2.ll]; simp [toI, lnm]
      refine ⟨lz, rfl, ⟨_, SqL.of hlz⟩, ?_⟩
      refine lc_rep (walk_list (K := K) (a := lz) (xs := usz)) (δ := Int) (fun H v d => v = .int d) (fun _ _ _ _ e h => h) (fun H' s => s.seq (SqL.of hlz))
        (fun i => ps1[i]?.map Prod.snd) (by rw [hRz.len]; omega) (fun i x H4 H5 hi s4 y K1 K0 h1 h0 => ?_) (fun qfl ys G18 nqfl s18 hqfl hR2 => ?_)
      · obtain ⟨rfl, hx⟩ := y
        obtain ⟨e, he, c, rfl, hc⟩ := hRz.at_ i x hx
        have hc4 := s4 _ _ hc
        refine ⟨c, _, rfl, SqT.of hc4, rfl, .int e.1, _, rfl, .int e.2, _, rfl, rfl, rfl, tyes ?_⟩
        exact ⟨_, rfl, h1 _ e.2 _ (Same.refl _) (by rw [he]; rfl) rfl⟩
      rw [hRz.len, map_at] at hR2
      have eyf := rep_ints hR2
      rw [eyf] at hqfl
      have s1518 := s1517.trans s18
      have t18 := t15.trans s1518
      have PL1 := PL1.same s1518
      have PL2 := PL2.same s1518
      have S18 := S15.same s1518
      have hqn18 := s1518 _ _ hqn15
      have hK := hK.mono s1518
      have hKc := hKc.mono s1518
      -- the links, shuffled
      obtain ⟨ql', usl, eql, hql, hRl⟩ := hK
      cases eql
      refine ⟨_, rfl, _, rfl, _, rfl, ql, _, rfl, ⟨ql, usl, rfl, hql, hRl⟩, by rw [List.length_append, List.length_map, List.length_map]; omega, fun we G19 es s19 hE himp hes => ?_⟩
      obtain ⟨qe, use, rfl, hqe, hRe⟩ := hE
      refine ⟨ql, qe, _, _, rfl, rfl, s19 _ _ hql, hqe, Nat.le_of_lt (small1000 (by rw [hRl.len, hRe.len, List.length_append, List.length_map, List.length_map]; omega)), fun qx nqx => ?_⟩
      have s20 : Same G19 (upd G19 qx (.lst (usl ++ use))) := same_new nqx
      have hqx : upd G19 qx (.lst (usl ++ use)) qx = some (.lst (usl ++ use)) := upd_same
      have s1920 := s19.trans s20
      have hRx : Tps bdV (upd G19 qx (.lst (usl ++ use))) (usl ++ use) ((bs1.map (renB (nmOf names)) ++ bs2.map (renB (nmOf (names.drop n1)))) ++ es) := Rep.append (Tps.mono (TEx.of s1920) hRl) (Tps.mono (TEx.of s20) hRe)
      have t20 := t18.trans s1920
      have PL1 := PL1.same s1920
      have PL2 := PL2.same s1920
      have S20 := S18.same s1920
      have hqn20 := s1920 _ _ hqn18
      have hKc := hKc.mono s1920
      have hqfl20 := s1920 _ _ hqfl
      generalize upd G19 qx (.lst (usl ++ use)) = G20 at *
      have lenx : (usl ++ use).length ≤ 19 := by
        rw [hRx.len, List.length_append, List.length_append, List.length_map, List.length_map]
        omega
      refine ⟨p, qx, 450, _, rfl, S20, hqx, by omega, by omega, stD_tps hRx fun v d h => stD_bd h, fun qL usL G21 dqL s21 S21 hqL hpL => ?_⟩
      obtain ⟨bsB, hpB, hRB⟩ := rep_perm hpL hRx
      have S21 : Src G21 p 470 := S21.up (by omega)
      have t21 := same_x t20 s21 np
      have hRB : Tps bdV G21 usL bsB := Tps.mono (S20.tex s21) hRB
      have PL1 := PL1.stp S20 s21
      have PL2 := PL2.stp S20 s21
      have hqn21 := s21 _ _ dqn hqn20
      have hKc := hKc.stp S20 s21
      have dflp : qfl ≠ p := fun e => by
        obtain ⟨_, z⟩ := (S15.same s1517).some
        exact ne_new nqfl z e.symm
      have hqfl21 := s21 _ _ dflp hqfl20
      -- the dict of both
      refine fun d nd => ?_
      have s22 : Same G21 (upd G21 d (.dK [])) := same_new nd
      have hd22 : upd G21 d (.dK []) d = some (.dK []) := upd_same
      have t22 := t21.trans s22
      have ndG := fresh_of t21 nd
      have ddp : d ≠ p := fun e => by
        obtain ⟨_, z⟩ := S21.some
        exact ne_new nd z e.symm
      have hRB := Tps.mono (TEx.of s22) hRB
      have PL1 := PL1.same s22
      have PL2 := PL2.same s22
      have S22 := S21.same s22
      have hqn22 := s22 _ _ hqn21
      have hKc := hKc.mono s22
      have hqfl22 := s22 _ _ hqfl21
      have hqL22 := s22 _ _ hqL
      generalize upd G21 d (.dK []) = G22 at *
      refine ⟨_, rfl, _, rfl, qL, usL, rfl, .inl ⟨SqL.of hqL22, fun l1 nl1 => ?_⟩⟩
      have s23 := same_new (o := .tup usL) nl1
      have hl1 : upd G22 l1 (.tup usL) l1 = some (.tup usL) := upd_same
      refine ⟨_, rfl, qfl, _, rfl, .inl ⟨SqL.of (s23 _ _ hqfl22), fun l2 nl2 => ?_⟩⟩
      have s24 := same_new (o := .tup ((ps1.map Prod.snd).map V.int)) nl2
      have s2324 := s23.trans s24
      have hl2 : upd (upd G22 l1 (.tup usL)) l2 (.tup ((ps1.map Prod.snd).map V.int)) l2 = some (.tup ((ps1.map Prod.snd).map V.int)) := upd_same
      have hl1 := s24 _ _ hl1
      refine ⟨s2324 _ _ hd22, [(.inr ks, .int ((n1 : Int) + (n2 : Nat))), (.inr kl, .ref l1), (.inr kf, .ref l2)], rfl, (by show 3 ≤ 15; decide), ?_⟩
      rw [merge3]
      have hd24 := s2324 _ _ hd22
      have t24 := t22.trans s2324
      have hRB := Tps.mono (TEx.of s2324) hRB
      have PL1 := PL1.same s2324
      have PL2 := PL2.same s2324
      have S24 := S22.same s2324
      have hqn24 := s2324 _ _ hqn22
      have hKc := hKc.mono s2324
      generalize upd (upd G22 l1 (.tup usL)) l2 (.tup ((ps1.map Prod.snd).map V.int)) = G24 at *
      have t25 : Same G0' (upd G24 d (.dK [(.inr ks, .int ((n1 : Int) + (n2 : Nat))), (.inr kl, .ref l1), (.inr kf, .ref l2)])) := Same.mut t24 ndG
      have hd25 : upd G24 d (.dK [(.inr ks, .int ((n1 : Int) + (n2 : Nat))), (.inr kl, .ref l1), (.inr kf, .ref l2)]) d = some (.dK [(.inr ks, .int ((n1 : Int) + (n2 : Nat))), (.inr kl, .ref l1), (.inr kf, .ref l2)]) := upd_same
      have x25 : SameX d G24 (upd G24 d (.dK [(.inr ks, .int ((n1 : Int) + (n2 : Nat))), (.inr kl, .ref l1), (.inr kf, .ref l2)])) := SameX.upd _
      have tx25 : TEx G24 (upd G24 d (.dK [(.inr ks, .int ((n1 : Int) + (n2 : Nat))), (.inr kl, .ref l1), (.inr kf, .ref l2)])) := TEx.mut hd24 fun _ z => nomatch z
      have S25 := S24.upd (o := .dK [(.inr ks, .int ((n1 : Int) + (n2 : Nat))), (.inr kl, .ref l1), (.inr kf, .ref l2)]) ddp
      have plx : ∀ {H' : Hp} {e n bs lo ts}, SameX d G24 H' → TEx G24 H' → Plain G24 (.ref e) n bs lo ts → Plain H' (.ref e) n bs lo ts := fun x tx h => by
        obtain ⟨va, vb, vc, g1, g2, g3, g4⟩ := h.get
        refine ⟨_, va, vb, vc, rfl, x _ _ (fun z => ?_) g1, g2.mono tx, g3.mono tx, g4.mono tx⟩
        rw [z, hd24] at g1
        cases g1
      have PL1 := plx x25 tx25 PL1
      have PL2 := plx x25 tx25 PL2
      have hqn25 := x25 _ _ (fun z => by rw [z, hd24] at hqn24; cases hqn24) hqn24
      have hKc : LsT tmV (upd G24 d (.dK [(.inr ks, .int ((n1 : Int) + (n2 : Nat))), (.inr kl, .ref l1), (.inr kf, .ref l2)])) (.ref qc) (ts1.map (renT (nmOf names)) ++ ts2.map (renT (nmOf (names.drop n1)))) := by
        obtain ⟨g, vs, e, h1, h2⟩ := hKc
        exact ⟨g, vs, e, x25 _ _ (fun z => by rw [z, hd24] at h1; cases h1) h1, Tps.mono tx25 h2⟩
      have hRB := Tps.mono tx25 hRB
      have hl1 := tx25 _ _ hl1
      have hl2 := tx25 _ _ hl2
      generalize upd G24 d (.dK [(.inr ks, .int ((n1 : Int) + (n2 : Nat))), (.inr kl, .ref l1), (.inr kf, .ref l2)]) = G25 at *
      -- both['costs']
      obtain ⟨qc', usc, eqc, hqc, hRc⟩ := hKc
      cases eqc
      have lenc : usc.length ≤ 16 := by
        rw [hRc.len, List.length_append, List.length_map, List.length_map]
        omega
      refine ⟨_, rfl, _, rfl, p, qc, 470, _, rfl, S25, hqc, by omega, by omega, stD_tps hRc fun v d h => stD_tm h, fun qC usC G26 dqC s26 S26 hqC hpC => ?_⟩
      obtain ⟨tsB, hpT, hRT⟩ := rep_perm hpC hRc
      have t26 := same_x t25 s26 np
      have tx26 := S25.tex s26
      have hRT : Tps tmV G26 usC tsB := Tps.mono tx26 hRT
      have PL1 := PL1.stp S25 s26
      have PL2 := PL2.stp S25 s26
      have hqn26 := s26 _ _ dqn hqn25
      have hRB := Tps.mono tx26 hRB
      have hl1 := tx26 _ _ hl1
      have hl2 := tx26 _ _ hl2
      have hd26 := s26 _ _ ddp hd25
      refine ⟨qC, usC, rfl, .inl ⟨SqL.of hqC, fun l3 nl3 => ?_⟩⟩
      have s27 : Same G26 (upd G26 l3 (.tup usC)) := same_new nl3
      have hl3 : upd G26 l3 (.tup usC) l3 = some (.tup usC) := upd_same
      have hd27 := s27 _ _ hd26
      refine ⟨_, rfl, d, _, rfl, .inl ⟨_, .inr kc, hd27, rfl, (by show 3 < sizeLine; decide), rfl⟩, ?_⟩
      rw [put_c]
      have t27 := t26.trans s27
      have PL1 := PL1.same s27
      have PL2 := PL2.same s27
      have hqn27 := s27 _ _ hqn26
      have hRB := Tps.mono (TEx.of s27) hRB
      have hRT := Tps.mono (TEx.of s27) hRT
      have hl1 := s27 _ _ hl1
      have hl2 := s27 _ _ hl2
      generalize upd G26 l3 (.tup usC) = G27 at *
      have t28 : Same G0' (upd G27 d (.dK (pl4 (.int ((n1 : Int) + (n2 : Nat))) (.ref l1) (.ref l2) (.ref l3)))) := Same.mut t27 ndG
      have x28 : SameX d G27 (upd G27 d (.dK (pl4 (.int ((n1 : Int) + (n2 : Nat))) (.ref l1) (.ref l2) (.ref l3)))) := SameX.upd _
      have tx28 : TEx G27 (upd G27 d (.dK (pl4 (.int ((n1 : Int) + (n2 : Nat))) (.ref l1) (.ref l2) (.ref l3)))) := TEx.mut hd27 fun _ z => nomatch z
      have plx2 : ∀ {H' : Hp} {e n bs lo ts}, e ≠ d → SameX d G27 H' → TEx G27 H' → Plain G27 (.ref e) n bs lo ts → Plain H' (.ref e) n bs lo ts := fun hed x tx h => by
        obtain ⟨va, vb, vc, g1, g2, g3, g4⟩ := h.get
        exact ⟨_, va, vb, vc, rfl, x _ _ hed g1, g2.mono tx, g3.mono tx, g4.mono tx⟩
      have e1d : e1 ≠ d := fun z => by
        obtain ⟨va, vb, vc, g1, _⟩ := PL1.get
        rw [z, hd27] at g1
        have := HO.dK.inj (Option.some.inj g1)
        exact absurd (congrArg List.length this) (by show ¬ ((3 : Nat) = 4); decide)
      have e2d : e2 ≠ d := fun z => by
        obtain ⟨va, vb, vc, g1, _⟩ := PL2.get
        rw [z, hd27] at g1
        have := HO.dK.inj (Option.some.inj g1)
        exact absurd (congrArg List.length this) (by show ¬ ((3 : Nat) = 4); decide)
      have PL1 := plx2 e1d x28 tx28 PL1
      have PL2 := plx2 e2d x28 tx28 PL2
      have hqn28 := x28 _ _ (fun z => by rw [z, hd27] at hqn27; cases hqn27) hqn27
      have PLB : Plain (upd G27 d (.dK (pl4 (.int ((n1 : Int) + (n2 : Nat))) (.ref l1) (.ref l2) (.ref l3)))) (.ref d) (n1 + n2) bsB (ps1.map Prod.snd) tsB :=
        ⟨d, .ref l1, .ref l2, .ref l3, rfl, by rw [upd_same, eN], ⟨l1, usL, rfl, tx28 _ _ hl1, Tps.mono tx28 hRB⟩, ⟨l2, rfl, tx28 _ _ hl2⟩, ⟨l3, usC, rfl, tx28 _ _ hl3, Tps.mono tx28 hRT⟩⟩
      generalize upd G27 d (.dK (pl4 (.int ((n1 : Int) + (n2 : Nat))) (.ref l1) (.ref l2) (.ref l3))) = G28 at *
      have W : Whole n1 n2 bs1 bs2 lo1 lo2 ts1 ts2 names bsB (ps1.map Prod.snd) tsB := ⟨O1, O2, ⟨hn1, hn2⟩, d71, d72, ⟨lb1, lb2⟩, ⟨lt1, lt2⟩, hnm, ⟨es, hes, himp, hpB⟩, hpT, ⟨ps1, hps1, hsr1, rfl⟩⟩
      have OB := W.ok
      clear hl1 hl2 hl3 hRB hRT hd27 hd26 hRc hqc hqfl22 hqfl21 hqfl20 hqfl hKc
      -- three problems
      refine ⟨_, rfl, .ref e1, n1, bs1, lo1, ts1, rfl, PL1, O1, fun a1 G29 na1 s29 B1 => ?_⟩
      have t29 := t28.trans s29
      have na1G := fresh_of t28 na1
      have PL2 := PL2.same s29
      have PLB := PLB.same s29
      have hqn29 := s29 _ _ hqn28
      refine ⟨_, rfl, .ref e2, n2, bs2, lo2, ts2, rfl, PL2, O2, fun a2 G30 na2 s30 B2 => ?_⟩
      have t30 := t29.trans s30
      have na2G := fresh_of t29 na2
      have d12 : a2 ≠ a1 := fun e => by
        obtain ⟨dx, fs, z, _⟩ := B1.meth (m := "solve")
        exact ne_new na2 z e.symm
      have B1 := B1.same s30
      have PLB := PLB.same s30
      have hqn30 := s30 _ _ hqn29
      refine ⟨_, rfl, .ref d, n1 + n2, bsB, _, tsB, rfl, PLB, OB, fun a3 G31 na3 s31 B3 => ?_⟩
      have t31 := t30.trans s31
      have na3G := fresh_of t30 na3
      have d13 : a3 ≠ a1 := fun e => by
        obtain ⟨dx, fs, z, _⟩ := B1.meth (m := "solve")
        exact ne_new na3 z e.symm
      have d23 : a3 ≠ a2 := fun e => by
        obtain ⟨dx, fs, z, _⟩ := B2.meth (m := "solve")
        exact ne_new na3 z e.symm
      have B1 := B1.same s31
      have B2 := B2.same s31
      have PLB := PLB.same s31
      have hqn31 := s31 _ _ hqn30
      refine ⟨_, _, _, rfl, ?_⟩
      simp only [List.set_cons_succ, List.set_cons_zero]
      -- near.solve() + far.solve()
      obtain ⟨dx, fs, ha, hm⟩ := B1.meth (m := "solve")
      refine ⟨_, rfl, a1, dx, fs, rfl, ha, hm, a1, n1, bs1, lo1, ts1, rfl, B1, fun v1 G32 z1 s32 B1' hz1 lz1 Sol1 => ?_⟩
      have t32 := same_x t31 s32 na1G
      have B2 := B1.other B2 d12 s32
      have B3 := B1.other B3 d13 s32
      have PLB := PLB.ins B1 s32
      have hqn32 := s32 _ _ (B1.tup hqn31) hqn31
      obtain ⟨dx, fs, ha, hm⟩ := B2.meth (m := "solve")
      refine ⟨_, rfl, a2, dx, fs, rfl, ha, hm, a2, n2, bs2, lo2, ts2, rfl, B2, fun v2 G33 z2 s33 B2' hz2 lz2 Sol2 => ?_⟩
      have t33 := same_x t32 s33 na2G
      have B1 := B2.other B1' (fun z => d12 z.symm) s33
      have B3 := B2.other B3 d23 s33
      have PLB := PLB.ins B2 s33
      have hqn33 := s33 _ _ (B2.tup hqn32) hqn32
      have hz1 := hz1.mono (B2.tex s33)
      have B2 := B2'
      obtain ⟨g1, rfl, hg1⟩ := hz1
      obtain ⟨g2, rfl, hg2⟩ := hz2
      have nz1 : z1.map V.int ≠ [] := fun z => by
        have := congrArg List.length z
        rw [List.length_map, lz1] at this
        simp at this
        omega
      have nz2 : z2.map V.int ≠ [] := fun z => by
        have := congrArg List.length z
        rw [List.length_map, lz2] at this
        simp at this
        omega
      refine ⟨g1, g2, _, _, rfl, rfl, SqT.of hg1, SqT.of hg2, nz1, Nat.le_of_lt (small1000 (by rw [List.length_map, List.length_map, lz1, lz2]; omega)), fun z => absurd z nz2, fun _ qr nqr => ?_⟩
      rw [← List.map_append]
      have s34 : Same G33 (upd G33 qr (.tup ((z1 ++ z2).map V.int))) := same_new nqr
      have hqr : upd G33 qr (.tup ((z1 ++ z2).map V.int)) qr = some (.tup ((z1 ++ z2).map V.int)) := upd_same
      have t34 := t33.trans s34
      have B1 := B1.same s34
      have B2 := B2.same s34
      have B3 := B3.same s34
      have PLB := PLB.same s34
      have hqn34 := s34 _ _ hqn33
      generalize upd G33 qr (.tup ((z1 ++ z2).map V.int)) = G34 at *
      -- due
      refine ⟨_, rfl, _, rfl, qn, qr, toI names, z1 ++ z2, rfl, SqL.of hqn34, SqT.of hqr, by rw [List.length_append, lz1, lz2]; simp [toI, lnm], by simp [toI, lnm]; omega, fun G35 ly ps2 usy s35 hps2 hsr2 hly hRy => ?_⟩
      have lps2 : ps2.length = n1 + n2 := by rw [hps2.length_eq, List.length_zip, List.length_append, lz1, lz2]; simp [toI, lnm]
      refine ⟨ly, rfl, ⟨_, SqL.of hly⟩, ?_⟩
      refine lc_rep (walk_list (K := K) (a := ly) (xs := usy)) (δ := Int) (fun H v d => v = .int d) (fun _ _ _ _ e h => h) (fun H' s => s.seq (SqL.of hly))
        (fun i => ps2[i]?.map Prod.snd) (by rw [hRy.len]; omega) (fun i x H4 H5 hi s4 y K1 K0 h1 h0 => ?_) (fun qd ys2 G36 nqd s36 hqd hR3 => ?_)
      · obtain ⟨rfl, hx⟩ := y
        obtain ⟨e, he, c, rfl, hc⟩ := hRy.at_ i x hx
        have hc4 := s4 _ _ hc
        refine ⟨c, _, rfl, SqT.of hc4, rfl, .int e.1, _, rfl, .int e.2, _, rfl, rfl, rfl, tyes ?_⟩
        exact ⟨_, rfl, h1 _ e.2 _ (Same.refl _) (by rw [he]; rfl) rfl⟩
      rw [hRy.len, map_at] at hR3
      have eyd := rep_ints hR3
      rw [eyd] at hqd
      obtain ⟨ldue, SolB, hcost⟩ := W.sol lz1 lz2 Sol1 Sol2 hps2 hsr2
      generalize hdue : ps2.map Prod.snd = due at *
      refine ⟨qd, _, rfl, .inl ⟨SqL.of hqd, fun qt nqt => ?_⟩⟩
      have s37 : Same G36 (upd G36 qt (.tup (due.map V.int))) := same_new nqt
      have hqt : upd G36 qt (.tup (due.map V.int)) qt = some (.tup (due.map V.int)) := upd_same
      have s3437 := (s35.trans s36).trans s37
      have t37 := t34.trans s3437
      have B1 := B1.same s3437
      have B2 := B2.same s3437
      have B3 := B3.same s3437
      have PLB := PLB.same s3437
      generalize upd G36 qt (.tup (due.map V.int)) = G37 at *
      -- own
      simp only [List.set_cons_succ, List.set_cons_zero]
      obtain ⟨dx, fs, ha, hm⟩ := B1.meth (m := "cost_of_row")
      refine ⟨_, rfl, a1, dx, fs, rfl, ha, hm, ?_⟩
      obtain ⟨dx, fs, ha, hm⟩ := B1.meth (m := "solve")
      refine ⟨_, rfl, a1, dx, fs, rfl, ha, hm, a1, n1, bs1, lo1, ts1, rfl, B1, fun w1 G38 y1 s38 B1' hy1 ly1 Soy1 => ?_⟩
      have t38 := same_x t37 s38 na1G
      have B2 := B1.other B2 d12 s38
      have B3 := B1.other B3 d13 s38
      have PLB := PLB.ins B1 s38
      have hqt38 := (B1.tex s38) _ _ hqt
      have B1 := B1'
      have B1c := B1
      rw [← ly1] at B1c
      obtain ⟨fl1, PO1, _, OK1⟩ := B1c
      refine ⟨a1, w1, bs1, lo1, ts1, fl1, y1, rfl, PO1, OK1, hy1, fun G39 s39 => ?_⟩
      have t39 := t38.trans s39
      have B1 := B1.same s39
      have B2 := B2.same s39
      have B3 := B3.same s39
      have PLB := PLB.same s39
      have hqt39 := s39 _ _ hqt38
      obtain ⟨dx, fs, ha, hm⟩ := B2.meth (m := "cost_of_row")
      refine ⟨_, rfl, a2, dx, fs, rfl, ha, hm, ?_⟩
      obtain ⟨dx, fs, ha, hm⟩ := B2.meth (m := "solve")
      refine ⟨_, rfl, a2, dx, fs, rfl, ha, hm, a2, n2, bs2, lo2, ts2, rfl, B2, fun w2 G40 y2 s40 B2' hy2 ly2 Soy2 => ?_⟩
      have t40 := same_x t39 s40 na2G
      have B3 := B2.other B3 d23 s40
      have PLB := PLB.ins B2 s40
      have hqt40 := (B2.tex s40) _ _ hqt39
      have B2 := B2'
      have B2c := B2
      rw [← ly2] at B2c
      obtain ⟨fl2, PO2, _, OK2⟩ := B2c
      refine ⟨a2, w2, bs2, lo2, ts2, fl2, y2, rfl, PO2, OK2, hy2, fun G41 s41 => ?_⟩
      have t41 := t40.trans s41
      have B3 := B3.same s41
      have PLB := PLB.same s41
      have hqt41 := s41 _ _ hqt40
      refine ⟨_, _, rfl, rfl, ?_⟩
      have eown : cost ts1 (rowAt y1) + cost ts2 (rowAt y2) = cost tsB (rowAt due) := by
        rw [hcost, Soy1.cost_eq Sol1, Soy2.cost_eq Sol2]
      simp only [List.set_cons_succ, List.set_cons_zero]
      rw [eown]
      -- the whole's solution, cost
      have B3 : PB C G41 a3 due.length bsB (ps1.map Prod.snd) tsB := by rw [ldue]; exact B3
      have PLB : Plain G41 (.ref d) due.length bsB (ps1.map Prod.snd) tsB := by rw [ldue]; exact PLB
      rw [← ldue] at SolB OB
      obtain ⟨dx, fs, ha, hm⟩ := B3.meth (m := "solve")
      refine ⟨_, rfl, a3, dx, fs, rfl, ha, hm, a3, _, bsB, _, tsB, rfl, B3, fun w3 G42 z3 s42 B3' hz3 lz3 Sol3 => ?_⟩
      have ez : z3 = due := ext_row lz3 rfl (Sol3.eq SolB)
      subst ez
      have t42 := same_x t41 s42 na3G
      have PLB := PLB.ins B3 s42
      have hqt42 := (B3.tex s42) _ _ hqt41
      have B3 := B3'
      obtain ⟨dx, fs, ha, hm⟩ := B3.meth (m := "cost_of_row")
      obtain ⟨fl3, PO3, _, _⟩ := B3'
      refine ⟨_, rfl, a3, dx, fs, rfl, ha, hm, _, rfl, a3, .ref qt, bsB, _, tsB, fl3, z3, rfl, PO3, OB, ⟨qt, rfl, hqt42⟩, fun G43 s43 => ?_⟩
      have t43 := t42.trans s43
      have PLB := PLB.same s43
      have hqt43 := s43 _ _ hqt42
      have hz3 := hz3.mono (TEx.of s43)
      have B3 := B3.same s43
      obtain ⟨dx, fs, ha, hm⟩ := B3.meth (m := "is_solution")
      refine ⟨_, rfl, a3, dx, fs, rfl, ha, hm, _, rfl, a3, .ref qt, z3, bsB, _, tsB, rfl, B3, ⟨qt, rfl, hqt43⟩, SolB, fun G44 s44 B3' => ?_⟩
      have t44 := same_x t43 s44 na3G
      have PLB := PLB.ins B3 s44
      have hqt44 := (B3.tex s44) _ _ hqt43
      have hz3 := hz3.mono (B3.tex s44)
      have B3 := B3'
      obtain ⟨gz, rfl, hgz⟩ := hz3
      refine ⟨(by show 3 ≤ sizeLine; decide), fun m1 nm1 => ?_⟩
      have s45 : Same G44 (upd G44 m1 (.lst [.ref gz, .int (cost tsB (rowAt z3)), .bl true])) := same_new nm1
      have hm1 : upd G44 m1 (.lst [.ref gz, .int (cost tsB (rowAt z3)), .bl true]) m1 = some (.lst [.ref gz, .int (cost tsB (rowAt z3)), .bl true]) := upd_same
      refine ⟨_, rfl, _, rfl, (by show 3 ≤ sizeLine; decide), fun m2 nm2 => ?_⟩
      have s46 := same_new (o := .lst [.ref qt, .int (cost tsB (rowAt z3)), .bl true]) nm2
      have s4446 := s45.trans s46
      refine ⟨.list (cmpD z3 (cost tsB (rowAt z3))), .list (cmpD z3 (cost tsB (rowAt z3))), .lst (SqL.of (s46 _ _ hm1)) (.cons (.tup (SqT.of (s4446 _ _ hgz)) (intD_dp z3)) (.cons (.int _) (.cons (.bl _) .nil))), .lst (SqL.of upd_same) (.cons (.tup (SqT.of (s4446 _ _ hqt44)) (intD_dp z3)) (.cons (.int _) (.cons (.bl _) .nil))), cmpD_shaped _ _, cmpD_shaped _ _, ?_⟩
      rw [cmpD_eq]
      refine ⟨false, rfl, iteF ?_⟩
      have t46 := t44.trans s4446
      have PLB := PLB.same s4446
      have B3 := B3.same s4446
      have hqt46 := s4446 _ _ hqt44
      generalize upd (upd G44 m1 (.lst [.ref gz, .int (cost tsB (rowAt z3)), .bl true])) m2 (.lst [.ref qt, .int (cost tsB (rowAt z3)), .bl true]) = G46 at *
      -- the certificate
      obtain ⟨dx, fs, ha, hm⟩ := B3.meth (m := "certify")
      refine ⟨_, rfl, _, rfl, _, rfl, a3, dx, fs, rfl, ha, hm, a3, _, bsB, _, tsB, rfl, B3, fun tc p1 p2 G47 pls gls s47 B3' htc hp1 hp2 Be => ?_⟩
      have t47 := same_x t46 s47 na3G
      have PLB := PLB.ins B3 s47
      have hqt47 := (B3.tex s47) _ _ hqt46
      have B3 := B3'
      obtain ⟨Dp, hDp⟩ := Be.pot
      obtain ⟨yy, hy1', hy2'⟩ := row_of_potential hDp z3.length (rowAt (ps1.map Prod.snd))
      obtain ⟨_, hcw⟩ := sol_sat Be.ok SolB hy1' hy2'
      refine ⟨.ref d, .ref qt, tc, p1, p2, bsB, _, tsB, z3, pls, gls, rfl, PLB, OB, ⟨qt, rfl, hqt47⟩, htc, hp1, hp2, Be.ok, hcw.symm, fun G48 s48 => ?_⟩
      refine ⟨true, rfl, iteF ?_⟩
      have t48 := t47.trans s48
      have B3 := B3.same s48
      have hqt48 := s48 _ _ hqt47
      obtain ⟨dx, fs, ha, hm⟩ := B3.meth (m := "better")
      refine ⟨_, rfl, a3, dx, fs, rfl, ha, hm, _, rfl, a3, .ref qt, z3, bsB, _, tsB, rfl, B3, ⟨qt, rfl, hqt48⟩, SolB, fun G49 s49 _ => ?_⟩
      refine ⟨rfl, _, rfl, iteNS rfl ?_⟩
      exact ⟨_, _, _, _, _, _, _, _, _, _, _, _, _, _, _, _, rfl, t0.trans (same_x t48 s49 na3G)⟩
    · obtain ⟨x1, x2, x3, x4, x5, x6, x7, x8, x9, x10, x11, x12, x13, x14, x15, x16, rfl, t0⟩ := q
      exact kfin _
end
end Dt
end

section
set_option Elab.async false
set_option linter.all false
set_option maxRecDepth 100000
set_option maxHeartbeats 0

namespace Dt
open PySem PySem.Spec PyProof.Rows L2
/-! ### the text by places -/
def d_first_pulls : He.DefD := ⟨("first_pulls", none), "first_pulls", "first_pulls", defArgs s_first_pulls, defBody s_first_pulls, defScope s_first_pulls, [], []⟩
def d_residual_arcs : He.DefD := ⟨("residual_arcs", none), "residual_arcs", "residual_arcs", defArgs s_residual_arcs, defBody s_residual_arcs, defScope s_residual_arcs, [], []⟩
def d_walk_rows : He.DefD := ⟨("walk_rows", none), "walk_rows", "walk_rows", defArgs s_walk_rows, defBody s_walk_rows, defScope s_walk_rows, [], []⟩
def d_greatest_mean : He.DefD := ⟨("greatest_mean", none), "greatest_mean", "greatest_mean", defArgs s_greatest_mean, defBody s_greatest_mean, defScope s_greatest_mean, [], []⟩
def d_least_mean_node : He.DefD := ⟨("least_mean_node", none), "least_mean_node", "least_mean_node", defArgs s_least_mean_node, defBody s_least_mean_node, defScope s_least_mean_node, [], []⟩
def d_cycle_of : He.DefD := ⟨("cycle_of", none), "cycle_of", "cycle_of", defArgs s_cycle_of, defBody s_cycle_of, defScope s_cycle_of, [], []⟩
def d_best_flows : He.DefD := ⟨("best_flows", none), "best_flows", "best_flows", defArgs s_best_flows, defBody s_best_flows, defScope s_best_flows, [], []⟩
def d_implied_steps : He.DefD := ⟨("implied_steps", none), "implied_steps", "implied_steps", defArgs s_implied_steps, defBody s_implied_steps, defScope s_implied_steps, [], []⟩
def d_raised : He.DefD := ⟨("raised", none), "raised", "raised", defArgs s_raised, defBody s_raised, defScope s_raised, [], []⟩
def d_is_integer : He.DefD := ⟨("is_integer", none), "is_integer", "is_integer", defArgs s_is_integer, defBody s_is_integer, defScope s_is_integer, [], []⟩
def d_is_among : He.DefD := ⟨("is_among", none), "is_among", "is_among", defArgs s_is_among, defBody s_is_among, defScope s_is_among, [], []⟩
def d_is_row_of : He.DefD := ⟨("is_row_of", none), "is_row_of", "is_row_of", defArgs s_is_row_of, defBody s_is_row_of, defScope s_is_row_of, [], []⟩
def d_is_pair_of : He.DefD := ⟨("is_pair_of", none), "is_pair_of", "is_pair_of", defArgs s_is_pair_of, defBody s_is_pair_of, defScope s_is_pair_of, [], []⟩
def d_is_bound : He.DefD := ⟨("is_bound", none), "is_bound", "is_bound", defArgs s_is_bound, defBody s_is_bound, defScope s_is_bound, [], []⟩
def d_is_term : He.DefD := ⟨("is_term", none), "is_term", "is_term", defArgs s_is_term, defBody s_is_term, defScope s_is_term, [], []⟩
def d_has_ring : He.DefD := ⟨("has_ring", none), "has_ring", "has_ring", defArgs s_has_ring, defBody s_has_ring, defScope s_has_ring, [], []⟩
def d_are_rows : He.DefD := ⟨("are_rows", none), "are_rows", "are_rows", defArgs s_are_rows, defBody s_are_rows, defScope s_are_rows, [], []⟩
def d_need_problem : He.DefD := ⟨("need_problem", none), "need_problem", "need_problem", defArgs s_need_problem, defBody s_need_problem, defScope s_need_problem, [], []⟩
def d_cost_of_term : He.DefD := ⟨("cost_of_term", none), "cost_of_term", "cost_of_term", defArgs s_cost_of_term, defBody s_cost_of_term, defScope s_cost_of_term, [], []⟩
def d_bends_of : He.DefD := ⟨("bends_of", none), "bends_of", "bends_of", defArgs s_bends_of, defBody s_bends_of, defScope s_bends_of, [], []⟩
def d_P_init : He.DefD := ⟨("Problem", some "__init__"), "__init__", "Problem.__init__", defArgs s_P_init, defBody s_P_init, defScope s_P_init, [], [("lows", .non)]⟩
def d_P_is_feasible : He.DefD := ⟨("Problem", some "is_feasible"), "is_feasible", "Problem.is_feasible", defArgs s_P_is_feasible, defBody s_P_is_feasible, defScope s_P_is_feasible, [], []⟩
def d_P_cost_of_row : He.DefD := ⟨("Problem", some "cost_of_row"), "cost_of_row", "Problem.cost_of_row", defArgs s_P_cost_of_row, defBody s_P_cost_of_row, defScope s_P_cost_of_row, [], []⟩
def d_P_least_sum : He.DefD := ⟨("Problem", some "least_sum"), "least_sum", "Problem.least_sum", defArgs s_P_least_sum, defBody s_P_least_sum, defScope s_P_least_sum, [], []⟩
def d_P_flows : He.DefD := ⟨("Problem", some "flows"), "flows", "Problem.flows", defArgs s_P_flows, defBody s_P_flows, defScope s_P_flows, [], []⟩
def d_P_raised_from : He.DefD := ⟨("Problem", some "raised_from"), "raised_from", "Problem.raised_from", defArgs s_P_raised_from, defBody s_P_raised_from, defScope s_P_raised_from, [], []⟩
def d_P_solve : He.DefD := ⟨("Problem", some "solve"), "solve", "Problem.solve", defArgs s_P_solve, defBody s_P_solve, defScope s_P_solve, [], []⟩
def d_P_certify : He.DefD := ⟨("Problem", some "certify"), "certify", "Problem.certify", defArgs s_P_certify, defBody s_P_certify, defScope s_P_certify, [], []⟩
def d_P_is_solution : He.DefD := ⟨("Problem", some "is_solution"), "is_solution", "Problem.is_solution", defArgs s_P_is_solution, defBody s_P_is_solution, defScope s_P_is_solution, [], []⟩
def d_P_better : He.DefD := ⟨("Problem", some "better"), "better", "Problem.better", defArgs s_P_better, defBody s_P_better, defScope s_P_better, [], []⟩
def d_L_source : He.DefD := ⟨("_law_source", none), "_law_source", "_law_source", defArgs s_L_source, defBody s_L_source, defScope s_L_source, [], []⟩
def d_L_next : He.DefD := ⟨("_law_next", none), "_law_next", "_law_next", defArgs s_L_next, defBody s_L_next, defScope s_L_next, [], []⟩
def d_L_pair_drawn : He.DefD := ⟨("_law_pair_drawn", none), "_law_pair_drawn", "_law_pair_drawn", defArgs s_L_pair_drawn, defBody s_L_pair_drawn, defScope s_L_pair_drawn, [], []⟩
def d_L_drawn_problem : He.DefD := ⟨("_law_drawn_problem", none), "_law_drawn_problem", "_law_drawn_problem", defArgs s_L_drawn_problem, defBody s_L_drawn_problem, defScope s_L_drawn_problem, [], []⟩
def d_L_given : He.DefD := ⟨("_law_given", none), "_law_given", "_law_given", defArgs s_L_given, defBody s_L_given, defScope s_L_given, [], []⟩
def d_L_cost : He.DefD := ⟨("_law_cost", none), "_law_cost", "_law_cost", defArgs s_L_cost, defBody s_L_cost, defScope s_L_cost, [], []⟩
def d_L_bends : He.DefD := ⟨("_law_bends", none), "_law_bends", "_law_bends", defArgs s_L_bends, defBody s_L_bends, defScope s_L_bends, [], []⟩
def d_L_balance : He.DefD := ⟨("_law_balance", none), "_law_balance", "_law_balance", defArgs s_L_balance, defBody s_L_balance, defScope s_L_balance, [], []⟩
def d_L_worth : He.DefD := ⟨("_law_worth", none), "_law_worth", "_law_worth", defArgs s_L_worth, defBody s_L_worth, defScope s_L_worth, [], []⟩
def d_L_integers : He.DefD := ⟨("_law_integers", none), "_law_integers", "_law_integers", defArgs s_L_integers, defBody s_L_integers, defScope s_L_integers, [], []⟩
def d_L_certifies : He.DefD := ⟨("_law_certifies", none), "_law_certifies", "_law_certifies", defArgs s_L_certifies, defBody s_L_certifies, defScope s_L_certifies, [], []⟩
def d_L_numbered : He.DefD := ⟨("_law_numbered", none), "_law_numbered", "_law_numbered", defArgs s_L_numbered, defBody s_L_numbered, defScope s_L_numbered, [], []⟩
def d_L_shuffled : He.DefD := ⟨("_law_shuffled", none), "_law_shuffled", "_law_shuffled", defArgs s_L_shuffled, defBody s_L_shuffled, defScope s_L_shuffled, [], []⟩
def d_L_implied : He.DefD := ⟨("_law_implied", none), "_law_implied", "_law_implied", defArgs s_L_implied, defBody s_L_implied, defScope s_L_implied, [], []⟩
def d_law : He.DefD := ⟨("law", none), "law", "law", defArgs s_law, defBody s_law, defScope s_law, [], []⟩
def fns : List He.DefD := [d_first_pulls, d_residual_arcs, d_walk_rows, d_greatest_mean, d_least_mean_node, d_cycle_of, d_best_flows, d_implied_steps, d_raised, d_is_integer, d_is_among, d_is_row_of, d_is_pair_of, d_is_bound, d_is_term, d_has_ring, d_are_rows, d_need_problem, d_cost_of_term, d_bends_of, d_P_init, d_P_is_feasible, d_P_cost_of_row, d_P_least_sum, d_P_flows, d_P_raised_from, d_P_solve, d_P_certify, d_P_is_solution, d_P_better, d_L_source, d_L_next, d_L_pair_drawn, d_L_drawn_problem, d_L_given, d_L_cost, d_L_bends, d_L_balance, d_L_worth, d_L_integers, d_L_certifies, d_L_numbered, d_L_shuffled, d_L_implied, d_law]
def fa1 : List He.Fa := [.glo "first_pulls", .glo "residual_arcs", .glo "walk_rows", .glo "greatest_mean", .glo "least_mean_node", .glo "cycle_of", .glo "best_flows", .glo "implied_steps", .glo "raised", .glo "is_integer", .glo "is_among", .glo "is_row_of", .glo "is_pair_of", .glo "is_bound", .glo "is_term", .glo "has_ring", .glo "are_rows", .glo "need_problem", .glo "cost_of_term", .glo "bends_of", .glo "_law_source", .glo "_law_next", .glo "_law_pair_drawn", .glo "_law_drawn_problem", .glo "_law_given", .glo "_law_cost", .glo "_law_bends", .glo "_law_balance", .glo "_law_worth", .glo "_law_integers", .glo "_law_certifies", .glo "_law_numbered", .glo "_law_shuffled", .glo "_law_implied", .glo "law"]
def fa2 : List He.Fa := [.glo "Problem", .free "abs", .free "all", .free "bool", .free "enumerate", .free "int", .free "isinstance", .free "len", .free "list", .free "max", .free "min", .free "range", .free "sorted", .free "str", .free "sum", .free "tuple", .free "zip", .int "MAX_SIZE" 12, .int "MAX_ROWS" 40, .int "MAX_NUMBER" 1000000, .int "MAX_COST" 100, .cls "Problem", .mkr "Problem", .noat "Problem" "size", .noat "Problem" "bounds", .noat "Problem" "lows", .noat "Problem" "terms", .noat "Problem" "known_flows", .meth "Problem" "is_feasible", .meth "Problem" "cost_of_row", .meth "Problem" "least_sum", .meth "Problem" "flows", .meth "Problem" "raised_from", .meth "Problem" "solve", .meth "Problem" "certify", .meth "Problem" "is_solution", .meth "Problem" "better"]
def fas : List He.Fa := fa1 ++ fa2
abbrev R : PySem.W.OpenRow := PySem.W.OpenLaw.row PySem.Challenge.rw_diagramtext_k37_whole_put_together
abbrev hk : PySem.W.Hook := He.hookD 5 fas fns
def ob (s : PySem.W.SharedT) : He.AlD := He.obsDG 5 fas fns (HandSHeadRun.getT s)
theorem ob_eq (s : PySem.W.SharedT) : ob s = hk.obs s.abs := He.obsDG_eq (HandSHeadRun.getT_eq s)
def loose1 : List PySem.Str := ["_wall", "Invalid", "BadProblem", "BadRow", "first_pulls", "residual_arcs", "walk_rows", "greatest_mean", "least_mean_node", "cycle_of", "best_flows", "implied_steps", "raised", "is_integer", "is_among", "MAX_SIZE", "MAX_ROWS", "MAX_NUMBER", "MAX_COST", "is_row_of", "is_pair_of", "is_bound", "is_term", "has_ring", "are_rows"]
def loose2 : List PySem.Str := ["need_problem", "cost_of_term", "bends_of", "Problem", "_law_source", "_law_next", "_law_pair_drawn", "_law_drawn_problem", "_law_given", "_law_cost", "_law_bends", "_law_balance", "_law_worth", "_law_integers", "_law_certifies", "_law_numbered", "_law_shuffled", "_law_implied"]
def loose : List PySem.Str := loose1 ++ loose2
theorem run (w : World) : HandSHeadRun.RunEq R (PySem.W.view R.prog [48]) hk ob 4000 loose w := by
  intro os
  kernel_rfl
end Dt
end

section
set_option Elab.async false
set_option linter.all false
set_option maxRecDepth 100000
set_option maxHeartbeats 4000000
/-! the end -/
namespace Dt
open PySem PySem.Spec PyProof.Rows L2
theorem fun_ne {K : PySem.W.Frag} {x y q r : Str} {pa pb : Arguments} {ba bb : List Stmt} {sa sb : Scope} {da db : List V} {ka kb : List (Str × V)} {f g : Addr} {fd gd : FuncData} (F : FunD K x q pa ba sa da ka f fd) (G : FunD K y r pb bb sb db kb g gd) (h : x ≠ y) : f ≠ g := fun e => by
  obtain ⟨oc, od, dV, kV, doc, pm, an, cdv, ct, osl, e1, l1, _⟩ := F.ex
  obtain ⟨oc2, od2, dV2, kV2, doc2, pm2, an2, cdv2, ct2, osl2, e2, l2, _⟩ := G.ex
  rw [e, l2] at l1
  have q1 : (Obj.mk oc2 od2 (.func gd) osl2) = Obj.mk oc od (.func fd) osl := Option.some.inj l1
  have q2 : gd = fd := by
    injection q1 with _ _ q3 _
    injection q3
  rw [e1, e2] at q2
  exact h (congrArg FuncData.name q2).symm
theorem facts {P : Program} {w : World} {K : PySem.W.Frag} {h : Heap} {mg : Str → Option Value} {f : Addr} (X : K.In h) (G : h.Ns mainGlobals mg) (hfa : mg ("law" : Str) = some (.ref f)) (c : He.SaysD fas fns K) :
    ∃ fd : FuncData, (∀ (s : Shared) (v : Value), BindsTo s fd ⟨[v], []⟩ [("_law_script", v)]) ∧ ∀ base : Heap, K.In base → base.Ns mainGlobals mg → FnOk P w K mg base CX0 11 f fd p_law (sp_law K) := by
  obtain ⟨fd_is_integer, F_is_integer⟩ := c.def_ 9 (d := d_is_integer) rfl
  replace F_is_integer : FunD K "is_integer" "is_integer" (defArgs s_is_integer) (defBody s_is_integer) (defScope s_is_integer) [] [] (He.ga K "is_integer") fd_is_integer := F_is_integer
  obtain ⟨fd_is_among, F_is_among⟩ := c.def_ 10 (d := d_is_among) rfl
  replace F_is_among : FunD K "is_among" "is_among" (defArgs s_is_among) (defBody s_is_among) (defScope s_is_among) [] [] (He.ga K "is_among") fd_is_among := F_is_among
  obtain ⟨fd_is_row_of, F_is_row_of⟩ := c.def_ 11 (d := d_is_row_of) rfl
  replace F_is_row_of : FunD K "is_row_of" "is_row_of" (defArgs s_is_row_of) (defBody s_is_row_of) (defScope s_is_row_of) [] [] (He.ga K "is_row_of") fd_is_row_of := F_is_row_of
  obtain ⟨fd_is_pair_of, F_is_pair_of⟩ := c.def_ 12 (d := d_is_pair_of) rfl
  replace F_is_pair_of : FunD K "is_pair_of" "is_pair_of" (defArgs s_is_pair_of) (defBody s_is_pair_of) (defScope s_is_pair_of) [] [] (He.ga K "is_pair_of") fd_is_pair_of := F_is_pair_of
  obtain ⟨fd_is_bound, F_is_bound⟩ := c.def_ 13 (d := d_is_bound) rfl
  replace F_is_bound : FunD K "is_bound" "is_bound" (defArgs s_is_bound) (defBody s_is_bound) (defScope s_is_bound) [] [] (He.ga K "is_bound") fd_is_bound := F_is_bound
  obtain ⟨fd_is_term, F_is_term⟩ := c.def_ 14 (d := d_is_term) rfl
  replace F_is_term : FunD K "is_term" "is_term" (defArgs s_is_term) (defBody s_is_term) (defScope s_is_term) [] [] (He.ga K "is_term") fd_is_term := F_is_term
  obtain ⟨fd_has_ring, F_has_ring⟩ := c.def_ 15 (d := d_has_ring) rfl
  replace F_has_ring : FunD K "has_ring" "has_ring" (defArgs s_has_ring) (defBody s_has_ring) (defScope s_has_ring) [] [] (He.ga K "has_ring") fd_has_ring := F_has_ring
  obtain ⟨fd_are_rows, F_are_rows⟩ := c.def_ 16 (d := d_are_rows) rfl
  replace F_are_rows : FunD K "are_rows" "are_rows" (defArgs s_are_rows) (defBody s_are_rows) (defScope s_are_rows) [] [] (He.ga K "are_rows") fd_are_rows := F_are_rows
  obtain ⟨fd_need_problem, F_need_problem⟩ := c.def_ 17 (d := d_need_problem) rfl
  replace F_need_problem : FunD K "need_problem" "need_problem" (defArgs s_need_problem) (defBody s_need_problem) (defScope s_need_problem) [] [] (He.ga K "need_problem") fd_need_problem := F_need_problem
  obtain ⟨fd_cost_of_term, F_cost_of_term⟩ := c.def_ 18 (d := d_cost_of_term) rfl
  replace F_cost_of_term : FunD K "cost_of_term" "cost_of_term" (defArgs s_cost_of_term) (defBody s_cost_of_term) (defScope s_cost_of_term) [] [] (He.ga K "cost_of_term") fd_cost_of_term := F_cost_of_term
  obtain ⟨fd_bends_of, F_bends_of⟩ := c.def_ 19 (d := d_bends_of) rfl
  replace F_bends_of : FunD K "bends_of" "bends_of" (defArgs s_bends_of) (defBody s_bends_of) (defScope s_bends_of) [] [] (He.ga K "bends_of") fd_bends_of := F_bends_of
  obtain ⟨fd_first_pulls, F_first_pulls⟩ := c.def_ 0 (d := d_first_pulls) rfl
  replace F_first_pulls : FunD K "first_pulls" "first_pulls" (defArgs s_first_pulls) (defBody s_first_pulls) (defScope s_first_pulls) [] [] (He.ga K "first_pulls") fd_first_pulls := F_first_pulls
  obtain ⟨fd_residual_arcs, F_residual_arcs⟩ := c.def_ 1 (d := d_residual_arcs) rfl
  replace F_residual_arcs : FunD K "residual_arcs" "residual_arcs" (defArgs s_residual_arcs) (defBody s_residual_arcs) (defScope s_residual_arcs) [] [] (He.ga K "residual_arcs") fd_residual_arcs := F_residual_arcs
  obtain ⟨fd_implied_steps, F_implied_steps⟩ := c.def_ 7 (d := d_implied_steps) rfl
  replace F_implied_steps : FunD K "implied_steps" "implied_steps" (defArgs s_implied_steps) (defBody s_implied_steps) (defScope s_implied_steps) [] [] (He.ga K "implied_steps") fd_implied_steps := F_implied_steps
  obtain ⟨fd_raised, F_raised⟩ := c.def_ 8 (d := d_raised) rfl
  replace F_raised : FunD K "raised" "raised" (defArgs s_raised) (defBody s_raised) (defScope s_raised) [] [] (He.ga K "raised") fd_raised := F_raised
  obtain ⟨fd_walk_rows, F_walk_rows⟩ := c.def_ 2 (d := d_walk_rows) rfl
  replace F_walk_rows : FunD K "walk_rows" "walk_rows" (defArgs s_walk_rows) (defBody s_walk_rows) (defScope s_walk_rows) [] [] (He.ga K "walk_rows") fd_walk_rows := F_walk_rows
  obtain ⟨fd_greatest_mean, F_greatest_mean⟩ := c.def_ 3 (d := d_greatest_mean) rfl
  replace F_greatest_mean : FunD K "greatest_mean" "greatest_mean" (defArgs s_greatest_mean) (defBody s_greatest_mean) (defScope s_greatest_mean) [] [] (He.ga K "greatest_mean") fd_greatest_mean := F_greatest_mean
  obtain ⟨fd_least_mean_node, F_least_mean_node⟩ := c.def_ 4 (d := d_least_mean_node) rfl
  replace F_least_mean_node : FunD K "least_mean_node" "least_mean_node" (defArgs s_least_mean_node) (defBody s_least_mean_node) (defScope s_least_mean_node) [] [] (He.ga K "least_mean_node") fd_least_mean_node := F_least_mean_node
  obtain ⟨fd_cycle_of, F_cycle_of⟩ := c.def_ 5 (d := d_cycle_of) rfl
  replace F_cycle_of : FunD K "cycle_of" "cycle_of" (defArgs s_cycle_of) (defBody s_cycle_of) (defScope s_cycle_of) [] [] (He.ga K "cycle_of") fd_cycle_of := F_cycle_of
  obtain ⟨fd_best_flows, F_best_flows⟩ := c.def_ 6 (d := d_best_flows) rfl
  replace F_best_flows : FunD K "best_flows" "best_flows" (defArgs s_best_flows) (defBody s_best_flows) (defScope s_best_flows) [] [] (He.ga K "best_flows") fd_best_flows := F_best_flows
  obtain ⟨fd_P_init, F_P_init⟩ := c.def_ 20 (d := d_P_init) rfl
  replace F_P_init : FunD K "__init__" "Problem.__init__" (defArgs s_P_init) (defBody s_P_init) (defScope s_P_init) [] [("lows", .non)] (He.ma K (He.ga K "Problem") "__init__") fd_P_init := F_P_init
  obtain ⟨fd_P_is_feasible, F_P_is_feasible⟩ := c.def_ 21 (d := d_P_is_feasible) rfl
  replace F_P_is_feasible : FunD K "is_feasible" "Problem.is_feasible" (defArgs s_P_is_feasible) (defBody s_P_is_feasible) (defScope s_P_is_feasible) [] [] (He.ma K (He.ga K "Problem") "is_feasible") fd_P_is_feasible := F_P_is_feasible
  obtain ⟨fd_P_least_sum, F_P_least_sum⟩ := c.def_ 23 (d := d_P_least_sum) rfl
  replace F_P_least_sum : FunD K "least_sum" "Problem.least_sum" (defArgs s_P_least_sum) (defBody s_P_least_sum) (defScope s_P_least_sum) [] [] (He.ma K (He.ga K "Problem") "least_sum") fd_P_least_sum := F_P_least_sum
  obtain ⟨fd_P_cost_of_row, F_P_cost_of_row⟩ := c.def_ 22 (d := d_P_cost_of_row) rfl
  replace F_P_cost_of_row : FunD K "cost_of_row" "Problem.cost_of_row" (defArgs s_P_cost_of_row) (defBody s_P_cost_of_row) (defScope s_P_cost_of_row) [] [] (He.ma K (He.ga K "Problem") "cost_of_row") fd_P_cost_of_row := F_P_cost_of_row
  obtain ⟨fd_P_flows, F_P_flows⟩ := c.def_ 24 (d := d_P_flows) rfl
  replace F_P_flows : FunD K "flows" "Problem.flows" (defArgs s_P_flows) (defBody s_P_flows) (defScope s_P_flows) [] [] (He.ma K (He.ga K "Problem") "flows") fd_P_flows := F_P_flows
  obtain ⟨fd_P_raised_from, F_P_raised_from⟩ := c.def_ 25 (d := d_P_raised_from) rfl
  replace F_P_raised_from : FunD K "raised_from" "Problem.raised_from" (defArgs s_P_raised_from) (defBody s_P_raised_from) (defScope s_P_raised_from) [] [] (He.ma K (He.ga K "Problem") "raised_from") fd_P_raised_from := F_P_raised_from
  obtain ⟨fd_P_solve, F_P_solve⟩ := c.def_ 26 (d := d_P_solve) rfl
  replace F_P_solve : FunD K "solve" "Problem.solve" (defArgs s_P_solve) (defBody s_P_solve) (defScope s_P_solve) [] [] (He.ma K (He.ga K "Problem") "solve") fd_P_solve := F_P_solve
  obtain ⟨fd_P_certify, F_P_certify⟩ := c.def_ 27 (d := d_P_certify) rfl
  replace F_P_certify : FunD K "certify" "Problem.certify" (defArgs s_P_certify) (defBody s_P_certify) (defScope s_P_certify) [] [] (He.ma K (He.ga K "Problem") "certify") fd_P_certify := F_P_certify
  obtain ⟨fd_P_is_solution, F_P_is_solution⟩ := c.def_ 28 (d := d_P_is_solution) rfl
  replace F_P_is_solution : FunD K "is_solution" "Problem.is_solution" (defArgs s_P_is_solution) (defBody s_P_is_solution) (defScope s_P_is_solution) [] [] (He.ma K (He.ga K "Problem") "is_solution") fd_P_is_solution := F_P_is_solution
  obtain ⟨fd_P_better, F_P_better⟩ := c.def_ 29 (d := d_P_better) rfl
  replace F_P_better : FunD K "better" "Problem.better" (defArgs s_P_better) (defBody s_P_better) (defScope s_P_better) [] [] (He.ma K (He.ga K "Problem") "better") fd_P_better := F_P_better
  obtain ⟨fd_L_source, F_L_source⟩ := c.def_ 30 (d := d_L_source) rfl
  replace F_L_source : FunD K "_law_source" "_law_source" (defArgs s_L_source) (defBody s_L_source) (defScope s_L_source) [] [] (He.ga K "_law_source") fd_L_source := F_L_source
  obtain ⟨fd_L_next, F_L_next⟩ := c.def_ 31 (d := d_L_next) rfl
  replace F_L_next : FunD K "_law_next" "_law_next" (defArgs s_L_next) (defBody s_L_next) (defScope s_L_next) [] [] (He.ga K "_law_next") fd_L_next := F_L_next
  obtain ⟨fd_L_pair_drawn, F_L_pair_drawn⟩ := c.def_ 32 (d := d_L_pair_drawn) rfl
  replace F_L_pair_drawn : FunD K "_law_pair_drawn" "_law_pair_drawn" (defArgs s_L_pair_drawn) (defBody s_L_pair_drawn) (defScope s_L_pair_drawn) [] [] (He.ga K "_law_pair_drawn") fd_L_pair_drawn := F_L_pair_drawn
  obtain ⟨fd_L_drawn_problem, F_L_drawn_problem⟩ := c.def_ 33 (d := d_L_drawn_problem) rfl
  replace F_L_drawn_problem : FunD K "_law_drawn_problem" "_law_drawn_problem" (defArgs s_L_drawn_problem) (defBody s_L_drawn_problem) (defScope s_L_drawn_problem) [] [] (He.ga K "_law_drawn_problem") fd_L_drawn_problem := F_L_drawn_problem
  obtain ⟨fd_L_given, F_L_given⟩ := c.def_ 34 (d := d_L_given) rfl
  replace F_L_given : FunD K "_law_given" "_law_given" (defArgs s_L_given) (defBody s_L_given) (defScope s_L_given) [] [] (He.ga K "_law_given") fd_L_given := F_L_given
  obtain ⟨fd_L_cost, F_L_cost⟩ := c.def_ 35 (d := d_L_cost) rfl
  replace F_L_cost : FunD K "_law_cost" "_law_cost" (defArgs s_L_cost) (defBody s_L_cost) (defScope s_L_cost) [] [] (He.ga K "_law_cost") fd_L_cost := F_L_cost
  obtain ⟨fd_L_bends, F_L_bends⟩ := c.def_ 36 (d := d_L_bends) rfl
  replace F_L_bends : FunD K "_law_bends" "_law_bends" (defArgs s_L_bends) (defBody s_L_bends) (defScope s_L_bends) [] [] (He.ga K "_law_bends") fd_L_bends := F_L_bends
  obtain ⟨fd_L_balance, F_L_balance⟩ := c.def_ 37 (d := d_L_balance) rfl
  replace F_L_balance : FunD K "_law_balance" "_law_balance" (defArgs s_L_balance) (defBody s_L_balance) (defScope s_L_balance) [] [] (He.ga K "_law_balance") fd_L_balance := F_L_balance
  obtain ⟨fd_L_worth, F_L_worth⟩ := c.def_ 38 (d := d_L_worth) rfl
  replace F_L_worth : FunD K "_law_worth" "_law_worth" (defArgs s_L_worth) (defBody s_L_worth) (defScope s_L_worth) [] [] (He.ga K "_law_worth") fd_L_worth := F_L_worth
  obtain ⟨fd_L_integers, F_L_integers⟩ := c.def_ 39 (d := d_L_integers) rfl
  replace F_L_integers : FunD K "_law_integers" "_law_integers" (defArgs s_L_integers) (defBody s_L_integers) (defScope s_L_integers) [] [] (He.ga K "_law_integers") fd_L_integers := F_L_integers
  obtain ⟨fd_L_certifies, F_L_certifies⟩ := c.def_ 40 (d := d_L_certifies) rfl
  replace F_L_certifies : FunD K "_law_certifies" "_law_certifies" (defArgs s_L_certifies) (defBody s_L_certifies) (defScope s_L_certifies) [] [] (He.ga K "_law_certifies") fd_L_certifies := F_L_certifies
  obtain ⟨fd_L_numbered, F_L_numbered⟩ := c.def_ 41 (d := d_L_numbered) rfl
  replace F_L_numbered : FunD K "_law_numbered" "_law_numbered" (defArgs s_L_numbered) (defBody s_L_numbered) (defScope s_L_numbered) [] [] (He.ga K "_law_numbered") fd_L_numbered := F_L_numbered
  obtain ⟨fd_L_shuffled, F_L_shuffled⟩ := c.def_ 42 (d := d_L_shuffled) rfl
  replace F_L_shuffled : FunD K "_law_shuffled" "_law_shuffled" (defArgs s_L_shuffled) (defBody s_L_shuffled) (defScope s_L_shuffled) [] [] (He.ga K "_law_shuffled") fd_L_shuffled := F_L_shuffled
  obtain ⟨fd_L_implied, F_L_implied⟩ := c.def_ 43 (d := d_L_implied) rfl
  replace F_L_implied : FunD K "_law_implied" "_law_implied" (defArgs s_L_implied) (defBody s_L_implied) (defScope s_L_implied) [] [] (He.ga K "_law_implied") fd_L_implied := F_L_implied
  obtain ⟨fd_law, F_law⟩ := c.def_ 44 (d := d_law) rfl
  replace F_law : FunD K "law" "law" (defArgs s_law) (defBody s_law) (defScope s_law) [] [] (He.ga K "law") fd_law := F_law
  have e := hfa.symm.trans (He.glo_ok X G (x := "law") (c.fact 34 rfl))
  cases e
  have b := FunD.bindsA (ps := ["_law_script"]) F_law fun _ _ _ _ _ _ us hl => match us, hl with | [_], _ => rfl
  refine ⟨fd_law, fun s v => b s [v] rfl, fun base _ _ => ?_⟩
  have T : Txt K mg := ⟨He.free_ok X G (c.fact 36 rfl), He.free_ok X G (c.fact 37 rfl), He.free_ok X G (c.fact 38 rfl), He.free_ok X G (c.fact 39 rfl), He.free_ok X G (c.fact 40 rfl), He.free_ok X G (c.fact 41 rfl), He.free_ok X G (c.fact 42 rfl), He.free_ok X G (c.fact 43 rfl), He.free_ok X G (c.fact 44 rfl), He.free_ok X G (c.fact 45 rfl), He.free_ok X G (c.fact 46 rfl), He.free_ok X G (c.fact 47 rfl), He.free_ok X G (c.fact 48 rfl), He.free_ok X G (c.fact 49 rfl), He.free_ok X G (c.fact 50 rfl), He.free_ok X G (c.fact 51 rfl), He.int_ok X G (c.fact 52 rfl), He.int_ok X G (c.fact 53 rfl), He.int_ok X G (c.fact 54 rfl), He.int_ok X G (c.fact 55 rfl)⟩
  have Z : Zt K mg (He.ga K "Problem") := ⟨He.cls_ok (c.fact 56 rfl), He.noat_ok (c.fact 58 rfl), He.noat_ok (c.fact 59 rfl), He.noat_ok (c.fact 60 rfl), He.noat_ok (c.fact 61 rfl), He.noat_ok (c.fact 62 rfl)⟩
  have OK_is_integer : FnOk P w K mg base CX0 1 _ fd_is_integer p_is_integer sp_is_integer := ok_is_integer F_is_integer T 
  have C_is_integer : Cal P w K mg base "is_integer" 1 p_is_integer sp_is_integer := ⟨_, _, OK_is_integer, He.glo_ok X G (c.fact 9 rfl), F_is_integer.kp, F_is_integer.bindsN fun _ _ _ _ _ _ us hl => match us, hl with | [_], _ => rfl⟩
  have OK_is_among : FnOk P w K mg base CX0 2 _ fd_is_among p_is_among sp_is_among := ok_is_among F_is_among T C_is_integer
  have C_is_among : Cal P w K mg base "is_among" 2 p_is_among sp_is_among := ⟨_, _, OK_is_among, He.glo_ok X G (c.fact 10 rfl), F_is_among.kp, F_is_among.bindsN fun _ _ _ _ _ _ us hl => match us, hl with | [_, _, _], _ => rfl⟩
  have OK_is_row_of : FnOk P w K mg base CX0 2 _ fd_is_row_of p_is_row_of sp_is_row_of := ok_is_row_of F_is_row_of T C_is_integer
  have C_is_row_of : Cal P w K mg base "is_row_of" 2 p_is_row_of sp_is_row_of := ⟨_, _, OK_is_row_of, He.glo_ok X G (c.fact 11 rfl), F_is_row_of.kp, F_is_row_of.bindsN fun _ _ _ _ _ _ us hl => match us, hl with | [_, _], _ => rfl⟩
  have OK_is_pair_of : FnOk P w K mg base CX0 3 _ fd_is_pair_of p_is_pair_of sp_is_pair_of := ok_is_pair_of F_is_pair_of T C_is_among
  have C_is_pair_of : Cal P w K mg base "is_pair_of" 3 p_is_pair_of sp_is_pair_of := ⟨_, _, OK_is_pair_of, He.glo_ok X G (c.fact 12 rfl), F_is_pair_of.kp, F_is_pair_of.bindsN fun _ _ _ _ _ _ us hl => match us, hl with | [_, _, _], _ => rfl⟩
  have OK_is_bound : FnOk P w K mg base CX0 4 _ fd_is_bound p_is_bound sp_is_bound := ok_is_bound F_is_bound T C_is_among C_is_pair_of
  have C_is_bound : Cal P w K mg base "is_bound" 4 p_is_bound sp_is_bound := ⟨_, _, OK_is_bound, He.glo_ok X G (c.fact 13 rfl), F_is_bound.kp, F_is_bound.bindsN fun _ _ _ _ _ _ us hl => match us, hl with | [_, _], _ => rfl⟩
  have OK_is_term : FnOk P w K mg base CX0 4 _ fd_is_term p_is_term sp_is_term := ok_is_term F_is_term T C_is_among C_is_pair_of
  have C_is_term : Cal P w K mg base "is_term" 4 p_is_term sp_is_term := ⟨_, _, OK_is_term, He.glo_ok X G (c.fact 14 rfl), F_is_term.kp, F_is_term.bindsN fun _ _ _ _ _ _ us hl => match us, hl with | [_, _], _ => rfl⟩
  have OK_has_ring : FnOk P w K mg base CX0 1 _ fd_has_ring p_has_ring sp_has_ring := ok_has_ring F_has_ring T 
  have C_has_ring : Cal P w K mg base "has_ring" 1 p_has_ring sp_has_ring := ⟨_, _, OK_has_ring, He.glo_ok X G (c.fact 15 rfl), F_has_ring.kp, F_has_ring.bindsN fun _ _ _ _ _ _ us hl => match us, hl with | [_, _], _ => rfl⟩
  let S : Addr → Option Sp := fun a => if a = He.ga K "is_bound" then some sp_is_bound else if a = He.ga K "is_term" then some sp_is_term else none
  have hBT : He.ga K "is_term" ≠ He.ga K "is_bound" := fun_ne F_is_term F_is_bound (by decide)
  have hSB : S (He.ga K "is_bound") = some sp_is_bound := if_pos rfl
  have hST : S (He.ga K "is_term") = some sp_is_term := (if_neg hBT).trans (if_pos rfl)
  have AR : ∀ f sp, S f = some sp → Held P w K mg base 5 f sp := fun f sp e => by
    by_cases h1 : f = He.ga K "is_bound"
    · have e' : some sp_is_bound = some sp := (if_pos h1).symm.trans e
      rw [← Option.some.inj e', h1]
      exact ⟨_, _, OK_is_bound.mono (by decide), F_is_bound.kp, F_is_bound.bindsN fun _ _ _ _ _ _ us hl => match us, hl with | [_, _], _ => rfl⟩
    · by_cases h2 : f = He.ga K "is_term"
      · have e' : some sp_is_term = some sp := ((if_neg h1).trans (if_pos h2)).symm.trans e
        rw [← Option.some.inj e', h2]
        exact ⟨_, _, OK_is_term.mono (by decide), F_is_term.kp, F_is_term.bindsN fun _ _ _ _ _ _ us hl => match us, hl with | [_, _], _ => rfl⟩
      · have e' : none = some sp := ((if_neg h1).trans (if_neg h2)).symm.trans e
        cases e'
  have OK_are_rows : FnOk P w K mg base CX0 6 _ fd_are_rows p_are_rows (sp_are_rows S) := ok_are_rows F_are_rows T AR
  have C_are_rows : Cal P w K mg base "are_rows" 6 p_are_rows (sp_are_rows S) := ⟨_, _, OK_are_rows, He.glo_ok X G (c.fact 16 rfl), F_are_rows.kp, F_are_rows.bindsN fun _ _ _ _ _ _ us hl => match us, hl with | [_, _, _], _ => rfl⟩
  have OK_need_problem : FnOk P w K mg base CX0 7 _ fd_need_problem p_need_problem sp_need_problem := ok_need_problem (S := S) F_need_problem T hSB hST (He.glo_ok X G (c.fact 13 rfl)) (He.glo_ok X G (c.fact 14 rfl)) C_is_among C_are_rows C_is_row_of C_has_ring
  have C_need_problem : Cal P w K mg base "need_problem" 7 p_need_problem sp_need_problem := ⟨_, _, OK_need_problem, He.glo_ok X G (c.fact 17 rfl), F_need_problem.kp, F_need_problem.bindsN fun _ _ _ _ _ _ us hl => match us, hl with | [_, _, _, _], _ => rfl⟩
  have OK_cost_of_term : FnOk P w K mg base CX0 1 _ fd_cost_of_term p_cost_of_term sp_cost_of_term := ok_cost_of_term F_cost_of_term T 
  have C_cost_of_term : Cal P w K mg base "cost_of_term" 1 p_cost_of_term sp_cost_of_term := ⟨_, _, OK_cost_of_term, He.glo_ok X G (c.fact 18 rfl), F_cost_of_term.kp, F_cost_of_term.bindsN fun _ _ _ _ _ _ us hl => match us, hl with | [_, _], _ => rfl⟩
  have OK_bends_of : FnOk P w K mg base CX0 1 _ fd_bends_of p_bends_of sp_bends_of := ok_bends_of F_bends_of T 
  have C_bends_of : Cal P w K mg base "bends_of" 1 p_bends_of sp_bends_of := ⟨_, _, OK_bends_of, He.glo_ok X G (c.fact 19 rfl), F_bends_of.kp, F_bends_of.bindsN fun _ _ _ _ _ _ us hl => match us, hl with | [_], _ => rfl⟩
  have OK_first_pulls : FnOk P w K mg base CX0 1 _ fd_first_pulls p_first_pulls sp_first_pulls := ok_first_pulls F_first_pulls T 
  have C_first_pulls : Cal P w K mg base "first_pulls" 1 p_first_pulls sp_first_pulls := ⟨_, _, OK_first_pulls, He.glo_ok X G (c.fact 0 rfl), F_first_pulls.kp, F_first_pulls.bindsN fun _ _ _ _ _ _ us hl => match us, hl with | [_, _], _ => rfl⟩
  have OK_residual_arcs : FnOk P w K mg base CX0 1 _ fd_residual_arcs p_residual_arcs sp_residual_arcs := ok_residual_arcs F_residual_arcs T 
  have C_residual_arcs : Cal P w K mg base "residual_arcs" 1 p_residual_arcs sp_residual_arcs := ⟨_, _, OK_residual_arcs, He.glo_ok X G (c.fact 1 rfl), F_residual_arcs.kp, F_residual_arcs.bindsN fun _ _ _ _ _ _ us hl => match us, hl with | [_, _, _, _], _ => rfl⟩
  have OK_implied_steps : FnOk P w K mg base CX0 2 _ fd_implied_steps p_implied_steps sp_implied_steps := ok_implied_steps F_implied_steps T C_residual_arcs
  have C_implied_steps : Cal P w K mg base "implied_steps" 2 p_implied_steps sp_implied_steps := ⟨_, _, OK_implied_steps, He.glo_ok X G (c.fact 7 rfl), F_implied_steps.kp, F_implied_steps.bindsN fun _ _ _ _ _ _ us hl => match us, hl with | [_, _, _, _], _ => rfl⟩
  have OK_raised : FnOk P w K mg base CX0 1 _ fd_raised p_raised sp_raised := ok_raised F_raised T 
  have C_raised : Cal P w K mg base "raised" 1 p_raised sp_raised := ⟨_, _, OK_raised, He.glo_ok X G (c.fact 8 rfl), F_raised.kp, F_raised.bindsN fun _ _ _ _ _ _ us hl => match us, hl with | [_, _], _ => rfl⟩
  have OK_walk_rows : FnOk P w K mg base CX0 1 _ fd_walk_rows p_walk_rows sp_walk_rows := ok_walk_rows F_walk_rows T 
  have C_walk_rows : Cal P w K mg base "walk_rows" 1 p_walk_rows sp_walk_rows := ⟨_, _, OK_walk_rows, He.glo_ok X G (c.fact 2 rfl), F_walk_rows.kp, F_walk_rows.bindsN fun _ _ _ _ _ _ us hl => match us, hl with | [_, _], _ => rfl⟩
  have OK_greatest_mean : FnOk P w K mg base CX0 1 _ fd_greatest_mean p_greatest_mean sp_greatest_mean := ok_greatest_mean F_greatest_mean T 
  have C_greatest_mean : Cal P w K mg base "greatest_mean" 1 p_greatest_mean sp_greatest_mean := ⟨_, _, OK_greatest_mean, He.glo_ok X G (c.fact 3 rfl), F_greatest_mean.kp, F_greatest_mean.bindsN fun _ _ _ _ _ _ us hl => match us, hl with | [_, _, _], _ => rfl⟩
  have OK_least_mean_node : FnOk P w K mg base CX0 2 _ fd_least_mean_node p_least_mean_node sp_least_mean_node := ok_least_mean_node F_least_mean_node T C_greatest_mean
  have C_least_mean_node : Cal P w K mg base "least_mean_node" 2 p_least_mean_node sp_least_mean_node := ⟨_, _, OK_least_mean_node, He.glo_ok X G (c.fact 4 rfl), F_least_mean_node.kp, F_least_mean_node.bindsN fun _ _ _ _ _ _ us hl => match us, hl with | [_, _], _ => rfl⟩
  have OK_cycle_of : FnOk P w K mg base CX0 3 _ fd_cycle_of p_cycle_of sp_cycle_of := ok_cycle_of F_cycle_of T C_walk_rows C_least_mean_node
  have C_cycle_of : Cal P w K mg base "cycle_of" 3 p_cycle_of sp_cycle_of := ⟨_, _, OK_cycle_of, He.glo_ok X G (c.fact 5 rfl), F_cycle_of.kp, F_cycle_of.bindsN fun _ _ _ _ _ _ us hl => match us, hl with | [_, _], _ => rfl⟩
  have OK_best_flows : FnOk P w K mg base CX0 4 _ fd_best_flows p_best_flows sp_best_flows := ok_best_flows F_best_flows T C_first_pulls C_residual_arcs C_cycle_of
  have C_best_flows : Cal P w K mg base "best_flows" 4 p_best_flows sp_best_flows := ⟨_, _, OK_best_flows, He.glo_ok X G (c.fact 6 rfl), F_best_flows.kp, F_best_flows.bindsN fun _ _ _ _ _ _ us hl => match us, hl with | [_, _, _, _], _ => rfl⟩
  have OK_P_init : FnOk P w K mg base CX0 8 _ fd_P_init p_P_init (sp_P_init (He.ga K "Problem")) := ok_P_init F_P_init T Z C_need_problem
  have OK_P_is_feasible : FnOk P w K mg base CX0 3 _ fd_P_is_feasible p_P_is_feasible (sp_P_is_feasible (He.ga K "Problem")) := ok_P_is_feasible F_P_is_feasible T Z C_is_row_of
  have C_P_is_feasible : MCal P w K mg base (He.ga K "Problem") "is_feasible" 3 p_P_is_feasible (sp_P_is_feasible (He.ga K "Problem")) := ⟨_, _, OK_P_is_feasible, He.meth_ok (c.fact 63 rfl), F_P_is_feasible.bindsN fun _ _ _ _ _ _ us hl => match us, hl with | [_, _], _ => rfl⟩
  have OK_P_least_sum : FnOk P w K mg base CX0 2 _ fd_P_least_sum p_P_least_sum (sp_P_least_sum (He.ga K "Problem")) := ok_P_least_sum F_P_least_sum T Z C_cost_of_term
  have C_P_least_sum : MCal P w K mg base (He.ga K "Problem") "least_sum" 2 p_P_least_sum (sp_P_least_sum (He.ga K "Problem")) := ⟨_, _, OK_P_least_sum, He.meth_ok (c.fact 65 rfl), F_P_least_sum.bindsN fun _ _ _ _ _ _ us hl => match us, hl with | [_, _], _ => rfl⟩
  have OK_P_cost_of_row : FnOk P w K mg base CX0 3 _ fd_P_cost_of_row p_P_cost_of_row (sp_P_cost_of_row (He.ga K "Problem")) := ok_P_cost_of_row F_P_cost_of_row T Z C_is_row_of C_P_least_sum
  have C_P_cost_of_row : MCal P w K mg base (He.ga K "Problem") "cost_of_row" 3 p_P_cost_of_row (sp_P_cost_of_row (He.ga K "Problem")) := ⟨_, _, OK_P_cost_of_row, He.meth_ok (c.fact 64 rfl), F_P_cost_of_row.bindsN fun _ _ _ _ _ _ us hl => match us, hl with | [_, _], _ => rfl⟩
  have OK_P_flows : FnOk P w K mg base CX0 5 _ fd_P_flows p_P_flows (sp_P_flows (He.ga K "Problem")) := ok_P_flows F_P_flows T Z C_best_flows C_bends_of
  have C_P_flows : MCal P w K mg base (He.ga K "Problem") "flows" 5 p_P_flows (sp_P_flows (He.ga K "Problem")) := ⟨_, _, OK_P_flows, He.meth_ok (c.fact 66 rfl), F_P_flows.bindsN fun _ _ _ _ _ _ us hl => match us, hl with | [_], _ => rfl⟩
  have OK_P_raised_from : FnOk P w K mg base CX0 6 _ fd_P_raised_from p_P_raised_from (sp_P_raised_from (He.ga K "Problem")) := ok_P_raised_from F_P_raised_from T Z C_P_flows C_raised C_implied_steps C_bends_of
  have C_P_raised_from : MCal P w K mg base (He.ga K "Problem") "raised_from" 6 p_P_raised_from (sp_P_raised_from (He.ga K "Problem")) := ⟨_, _, OK_P_raised_from, He.meth_ok (c.fact 67 rfl), F_P_raised_from.bindsN fun _ _ _ _ _ _ us hl => match us, hl with | [_, _], _ => rfl⟩
  have OK_P_solve : FnOk P w K mg base CX0 7 _ fd_P_solve p_P_solve (sp_P_solve (He.ga K "Problem")) := ok_P_solve F_P_solve T Z C_P_raised_from
  have C_P_solve : MCal P w K mg base (He.ga K "Problem") "solve" 7 p_P_solve (sp_P_solve (He.ga K "Problem")) := ⟨_, _, OK_P_solve, He.meth_ok (c.fact 68 rfl), F_P_solve.bindsN fun _ _ _ _ _ _ us hl => match us, hl with | [_], _ => rfl⟩
  have OK_P_certify : FnOk P w K mg base CX0 6 _ fd_P_certify p_P_certify (sp_P_certify (He.ga K "Problem")) := ok_P_certify F_P_certify T Z C_P_flows
  have C_P_certify : MCal P w K mg base (He.ga K "Problem") "certify" 6 p_P_certify (sp_P_certify (He.ga K "Problem")) := ⟨_, _, OK_P_certify, He.meth_ok (c.fact 69 rfl), F_P_certify.bindsN fun _ _ _ _ _ _ us hl => match us, hl with | [_], _ => rfl⟩
  have OK_P_is_solution : FnOk P w K mg base CX0 8 _ fd_P_is_solution p_P_is_solution (sp_P_is_solution (He.ga K "Problem")) := ok_P_is_solution F_P_is_solution T Z C_P_is_feasible C_P_solve
  have C_P_is_solution : MCal P w K mg base (He.ga K "Problem") "is_solution" 8 p_P_is_solution (sp_P_is_solution (He.ga K "Problem")) := ⟨_, _, OK_P_is_solution, He.meth_ok (c.fact 70 rfl), F_P_is_solution.bindsN fun _ _ _ _ _ _ us hl => match us, hl with | [_, _], _ => rfl⟩
  have OK_P_better : FnOk P w K mg base CX0 7 _ fd_P_better p_P_better (sp_P_better (He.ga K "Problem")) := ok_P_better F_P_better T Z C_P_is_feasible C_P_raised_from
  have C_P_better : MCal P w K mg base (He.ga K "Problem") "better" 7 p_P_better (sp_P_better (He.ga K "Problem")) := ⟨_, _, OK_P_better, He.meth_ok (c.fact 71 rfl), F_P_better.bindsN fun _ _ _ _ _ _ us hl => match us, hl with | [_, _], _ => rfl⟩
  have OK_L_source : FnOk P w K mg base CX0 1 _ fd_L_source p_L_source (sp_L_source K) := ok_L_source F_L_source T 
  have C_L_source : Cal P w K mg base "_law_source" 1 p_L_source (sp_L_source K) := ⟨_, _, OK_L_source, He.glo_ok X G (c.fact 20 rfl), F_L_source.kp, F_L_source.bindsN fun _ _ _ _ _ _ us hl => match us, hl with | [_, _], _ => rfl⟩
  have OK_L_next : FnOk P w K mg base CX0 1 _ fd_L_next p_L_next sp_L_next := ok_L_next F_L_next T 
  have C_L_next : Cal P w K mg base "_law_next" 1 p_L_next sp_L_next := ⟨_, _, OK_L_next, He.glo_ok X G (c.fact 21 rfl), F_L_next.kp, F_L_next.bindsN fun _ _ _ _ _ _ us hl => match us, hl with | [_, _], _ => rfl⟩
  have OK_L_pair_drawn : FnOk P w K mg base CX0 2 _ fd_L_pair_drawn p_L_pair_drawn sp_L_pair_drawn := ok_L_pair_drawn F_L_pair_drawn T C_L_next
  have C_L_pair_drawn : Cal P w K mg base "_law_pair_drawn" 2 p_L_pair_drawn sp_L_pair_drawn := ⟨_, _, OK_L_pair_drawn, He.glo_ok X G (c.fact 22 rfl), F_L_pair_drawn.kp, F_L_pair_drawn.bindsN fun _ _ _ _ _ _ us hl => match us, hl with | [_, _], _ => rfl⟩
  have OK_L_drawn_problem : FnOk P w K mg base CX0 3 _ fd_L_drawn_problem p_L_drawn_problem sp_L_drawn_problem := ok_L_drawn_problem F_L_drawn_problem T C_L_next C_L_pair_drawn
  have C_L_drawn_problem : Cal P w K mg base "_law_drawn_problem" 3 p_L_drawn_problem sp_L_drawn_problem := ⟨_, _, OK_L_drawn_problem, He.glo_ok X G (c.fact 23 rfl), F_L_drawn_problem.kp, F_L_drawn_problem.bindsN fun _ _ _ _ _ _ us hl => match us, hl with | [_, _, _], _ => rfl⟩
  obtain ⟨mv, bK⟩ := FunD.kbinds0 F_P_init (ps := p_P_init) 2 ["bounds", "lows", "terms"] [] (fun us _ zs => us ++ zs) (fun z => by cases z) (fun q hq => by cases hq) (fun r1 _ r3 => Vals.append r1 r3) (fun D doc pm an cdv ct us mv ws h1 h2 h3 => match us, mv, ws, h1, h2, h3 with | [_, _], [], [_, _, _], _, _, _ => rfl)
  have OK_L_given : FnOk P w K mg base CX0 10 _ fd_L_given p_L_given (sp_L_given (He.ga K "Problem")) := ok_L_given F_L_given T (He.mkr_ok (c.fact 57 rfl)) (He.glo_ok X G (c.fact 35 rfl)) OK_P_init bK
  have C_L_given : Cal P w K mg base "_law_given" 10 p_L_given (sp_L_given (He.ga K "Problem")) := ⟨_, _, OK_L_given, He.glo_ok X G (c.fact 24 rfl), F_L_given.kp, F_L_given.bindsN fun _ _ _ _ _ _ us hl => match us, hl with | [_], _ => rfl⟩
  have OK_L_cost : FnOk P w K mg base CX0 1 _ fd_L_cost p_L_cost sp_L_cost := ok_L_cost F_L_cost T 
  have C_L_cost : Cal P w K mg base "_law_cost" 1 p_L_cost sp_L_cost := ⟨_, _, OK_L_cost, He.glo_ok X G (c.fact 25 rfl), F_L_cost.kp, F_L_cost.bindsN fun _ _ _ _ _ _ us hl => match us, hl with | [_, _], _ => rfl⟩
  have OK_L_bends : FnOk P w K mg base CX0 1 _ fd_L_bends p_L_bends sp_L_bends := ok_L_bends F_L_bends T 
  have C_L_bends : Cal P w K mg base "_law_bends" 1 p_L_bends sp_L_bends := ⟨_, _, OK_L_bends, He.glo_ok X G (c.fact 26 rfl), F_L_bends.kp, F_L_bends.bindsN fun _ _ _ _ _ _ us hl => match us, hl with | [_], _ => rfl⟩
  have OK_L_balance : FnOk P w K mg base CX0 2 _ fd_L_balance p_L_balance sp_L_balance := ok_L_balance F_L_balance T C_L_bends
  have C_L_balance : Cal P w K mg base "_law_balance" 2 p_L_balance sp_L_balance := ⟨_, _, OK_L_balance, He.glo_ok X G (c.fact 27 rfl), F_L_balance.kp, F_L_balance.bindsN fun _ _ _ _ _ _ us hl => match us, hl with | [_, _, _, _], _ => rfl⟩
  have OK_L_worth : FnOk P w K mg base CX0 2 _ fd_L_worth p_L_worth sp_L_worth := ok_L_worth F_L_worth T C_L_bends
  have C_L_worth : Cal P w K mg base "_law_worth" 2 p_L_worth sp_L_worth := ⟨_, _, OK_L_worth, He.glo_ok X G (c.fact 28 rfl), F_L_worth.kp, F_L_worth.bindsN fun _ _ _ _ _ _ us hl => match us, hl with | [_, _, _], _ => rfl⟩
  have OK_L_integers : FnOk P w K mg base CX0 1 _ fd_L_integers p_L_integers sp_L_integers := ok_L_integers F_L_integers T 
  have C_L_integers : Cal P w K mg base "_law_integers" 1 p_L_integers sp_L_integers := ⟨_, _, OK_L_integers, He.glo_ok X G (c.fact 29 rfl), F_L_integers.kp, F_L_integers.bindsN fun _ _ _ _ _ _ us hl => match us, hl with | [_, _], _ => rfl⟩
  have OK_L_certifies : FnOk P w K mg base CX0 3 _ fd_L_certifies p_L_certifies sp_L_certifies := ok_L_certifies F_L_certifies T C_L_bends C_L_integers C_L_balance C_L_worth C_L_cost
  have C_L_certifies : Cal P w K mg base "_law_certifies" 3 p_L_certifies sp_L_certifies := ⟨_, _, OK_L_certifies, He.glo_ok X G (c.fact 30 rfl), F_L_certifies.kp, F_L_certifies.bindsN fun _ _ _ _ _ _ us hl => match us, hl with | [_, _, _], _ => rfl⟩
  have OK_L_numbered : FnOk P w K mg base CX0 1 _ fd_L_numbered p_L_numbered sp_L_numbered := ok_L_numbered F_L_numbered T 
  have C_L_numbered : Cal P w K mg base "_law_numbered" 1 p_L_numbered sp_L_numbered := ⟨_, _, OK_L_numbered, He.glo_ok X G (c.fact 31 rfl), F_L_numbered.kp, F_L_numbered.bindsN fun _ _ _ _ _ _ us hl => match us, hl with | [_, _], _ => rfl⟩
  have OK_L_shuffled : FnOk P w K mg base CX0 2 _ fd_L_shuffled p_L_shuffled (sp_L_shuffled K) := ok_L_shuffled F_L_shuffled T C_L_next
  have C_L_shuffled : Cal P w K mg base "_law_shuffled" 2 p_L_shuffled (sp_L_shuffled K) := ⟨_, _, OK_L_shuffled, He.glo_ok X G (c.fact 32 rfl), F_L_shuffled.kp, F_L_shuffled.bindsN fun _ _ _ _ _ _ us hl => match us, hl with | [_, _], _ => rfl⟩
  have OK_L_implied : FnOk P w K mg base CX0 1 _ fd_L_implied p_L_implied sp_L_implied := ok_L_implied F_L_implied T 
  have C_L_implied : Cal P w K mg base "_law_implied" 1 p_L_implied sp_L_implied := ⟨_, _, OK_L_implied, He.glo_ok X G (c.fact 33 rfl), F_L_implied.kp, F_L_implied.bindsN fun _ _ _ _ _ _ us hl => match us, hl with | [_], _ => rfl⟩
  exact ok_law F_law T Z C_L_source C_L_next C_L_drawn_problem C_L_shuffled C_L_numbered C_L_implied C_L_given C_L_certifies C_P_solve C_P_cost_of_row C_P_is_solution C_P_certify C_P_better
end Dt
open PySem PySem.W PySem.Calls PyProof.Rows
theorem PySem.Challenge.cw_diagramtext_k37_whole_put_together_holds : PySem.Challenge.rw_diagramtext_k37_whole_put_together.Holds := by
  w_on; o_law
  refine HandSHeadRun.head_any (r := OpenLaw.row PySem.Challenge.rw_diagramtext_k37_whole_put_together) (q := view (OpenLaw.row PySem.Challenge.rw_diagramtext_k37_whole_put_together).prog [48]) (H := Dt.hk) (ob := Dt.ob) (M := 4000) (loose := Dt.loose) (d := HandSHeadRun.topDef (OpenLaw.row PySem.Challenge.rw_diagramtext_k37_whole_put_together).prog 48) (kwd := []) Dt.ob_eq
    (by kernel_rfl) (fun s => by kernel_rfl) Dt.run (by kernel_rfl) (by kernel_rfl) (by kernel_rfl) (by rfl) (by first | assumption | decide +kernel) (by decide +kernel) ⟨rfl, rfl, rfl, rfl, rfl, by decide +kernel⟩ ?hw ?hc
  case hw => w_witness2
  case hc =>
    refine L2.walk_ofE (l := PySem.Challenge.rw_diagramtext_k37_whole_put_together) (n := 63) (k := 11) (x := "_law_script") (CX := L2.CX0) rfl (by decide) (by kernel_rfl) ⟨rfl, by decide, by decide⟩ ?F (fun _ _ _ _ z => z)
    intro w mg fa h Y G hmg0
    obtain ⟨K, KX, c⟩ := Y
    have hmg : mg ("law" : PySem.Str) = some (.ref fa) := by
      have e : (HandSHeadRun.topDef (OpenLaw.row PySem.Challenge.rw_diagramtext_k37_whole_put_together).prog 48).name = ("law" : PySem.Str) := by kernel_rfl
      rw [← e]
      exact hmg0
    obtain ⟨fd, hb, hF⟩ := Dt.facts (P := (PySem.Challenge.rw_diagramtext_k37_whole_put_together).prog) (w := w) KX G hmg c
    exact ⟨K, fd, Dt.sp_law K, KX, hb, fun H a ns hl _ hS => ⟨a, ns, rfl, hS, fun _ => rfl⟩, hF⟩
end
