/- The combinations of a class of hands, as lists; no program in sight. -/
import Derived.Test.YtblfemlheolhoaaEv
namespace Go.Proofs.Ytblfemlheolhoaa.EvBase
open Go.RowKit Go.Proofs.YtblfemlheolhoaaW.PrintWords Go.Proofs.YtblfemlheolhoaaW.PrintLast Go.Proofs.YtblfemlheolhoaaW.PrintMore
set_option linter.unusedVariables false
set_option linter.unusedSimpArgs false
/-- The class of two cards, as a number. -/
def clsN (a b : Nat) : Nat := if a % 4 = b % 4 ∨ max (a / 4) (b / 4) = min (a / 4) (b / 4) then 13 * max (a / 4) (b / 4) + min (a / 4) (b / 4) else 13 * min (a / 4) (b / 4) + max (a / 4) (b / 4)
theorem clsN_lt {a b : Nat} (ha : a < 52) (hb : b < 52) : clsN a b < 169 := by
  unfold clsN
  split <;> omega
theorem tdiv_nat (a n : Nat) (h : a ≤ 1000000000000) : wrap64 (Int.tdiv (a : Int) (n : Int)) = ((a / n : Nat) : Int) := by
  rw [show Int.tdiv (a : Int) (n : Int) = ((a / n : Nat) : Int) from rfl]
  have hq : a / n ≤ a := Nat.div_le_self _ _
  generalize a / n = q at hq ⊢
  exact w64 (by omega) (by omega)
theorem tmod_nat (a n : Nat) : Int.tmod (a : Int) (n : Int) = ((a % n : Nat) : Int) := rfl
def pair (x y : Nat) : List Int := [(x : Int), (y : Int)]
def innerS (c x : Nat) : Nat → Nat → List (List Int)
  | 0, _ => []
  | d + 1, y => if clsN x y = c then pair x y :: innerS c x d (y + 1) else innerS c x d (y + 1)
def outerS (c : Nat) : Nat → Nat → List (List Int)
  | 0, _ => []
  | d + 1, x => innerS c x (51 - x) (x + 1) ++ outerS c d (x + 1)
def freeOf (dead : List Int) (p : List Int) : Bool := !(dead.contains (rd p 0)) && !(dead.contains (rd p 1))
def innerI (c : Nat) (dead : List Int) (x : Nat) : Nat → Nat → List (List Int)
  | 0, _ => []
  | d + 1, y => if x < y ∧ clsN x y = c ∧ dead.contains (x : Int) = false ∧ dead.contains (y : Int) = false then pair x y :: innerI c dead x d (y + 1) else innerI c dead x d (y + 1)
def outerI (c : Nat) (dead : List Int) (h : Nat) : Nat → Nat → List (List Int)
  | 0, _ => []
  | d + 1, x => innerI c dead x 4 h ++ outerI c dead h d (x + 1)
def combosM (c : Nat) (dead : List Int) : List (List Int) := (outerS c 52 0).filter (freeOf dead)
def lowOf (c : Nat) : Nat := min (c / 13) (c % 13) * 4
def highOf (c : Nat) : Nat := max (c / 13) (c % 13) * 4
theorem innerI_filter (c : Nat) (dead : List Int) (x : Nat) : ∀ d y, innerI c dead x d y = (innerI c [] x d y).filter (freeOf dead)
  | 0, y => rfl
  | d + 1, y => by
    simp only [innerI]
    rw [innerI_filter c dead x d (y + 1)]
    by_cases h : x < y ∧ clsN x y = c
    · by_cases h1 : dead.contains (x : Int) = false ∧ dead.contains (y : Int) = false
      · have hf : freeOf dead (pair x y) = true := by
          show (!(dead.contains (x : Int)) && !(dead.contains (y : Int))) = true
          rw [h1.1, h1.2]; rfl
        rw [if_pos ⟨h.1, h.2, h1.1, h1.2⟩, if_pos ⟨h.1, h.2, rfl, rfl⟩, List.filter_cons, hf, if_pos rfl]
      · have hf : freeOf dead (pair x y) = false := by
          show (!(dead.contains (x : Int)) && !(dead.contains (y : Int))) = false
          cases e1 : dead.contains (x : Int) <;> cases e2 : dead.contains (y : Int) <;> simp_all
        rw [if_neg (fun g => h1 ⟨g.2.2.1, g.2.2.2⟩), if_pos ⟨h.1, h.2, rfl, rfl⟩, List.filter_cons, hf]
        simp
    · rw [if_neg (fun g => h ⟨g.1, g.2.1⟩), if_neg (fun g => h ⟨g.1, g.2.1⟩)]
theorem outerI_filter (c : Nat) (dead : List Int) (h : Nat) : ∀ d x, outerI c dead h d x = (outerI c [] h d x).filter (freeOf dead)
  | 0, x => rfl
  | d + 1, x => by
    simp only [outerI]
    rw [innerI_filter c dead x 4 h, outerI_filter c dead h d (x + 1), List.filter_append]
theorem combos_alike : ∀ c : Nat, c < 169 → outerI c [] (highOf c) 4 (lowOf c) = outerS c 52 0 := by decide +kernel
theorem combos_both (c : Nat) (hc : c < 169) (dead : List Int) : outerI c dead (highOf c) 4 (lowOf c) = combosM c dead := by
  rw [outerI_filter, combos_alike c hc]; rfl
def sizeN (c : Nat) : Nat := if c / 13 = c % 13 then 6 else if c / 13 > c % 13 then 4 else 12
theorem combos_size : ∀ c : Nat, c < 169 → (outerS c 52 0).length = sizeN c := by decide +kernel
theorem combos_nil (c : Nat) : combosM c [] = outerS c 52 0 := by
  unfold combosM
  rw [List.filter_eq_self]
  intro p _
  rfl
theorem sizeN_le (c : Nat) : sizeN c ≤ 12 := by unfold sizeN; split <;> (try split) <;> omega
theorem combosM_len {c : Nat} (hc : c < 169) (dead : List Int) : (combosM c dead).length ≤ 12 :=
  Nat.le_trans (List.length_filter_le _ _) (by rw [combos_size c hc]; exact sizeN_le c)
/-- The combinations of a range. -/
def rangeM (dead : List Int) (r : List Int) : List (List Int) := r.flatMap (fun c => combosM c.toNat dead)
theorem mem_isRange {r : List Int} (h : isRangeB r = true) : ∀ c ∈ r, 0 ≤ c ∧ c ≤ 168 := by
  intro c hc
  simp only [isRangeB, Bool.and_eq_true, List.all_eq_true] at h
  exact inR_iff.1 (h.1 c hc)
def isRatioM (a d : Nat) : Bool := inR (-1000000000) 1000000000 (a : Int) && (inR 1 1000000000 (d : Int) && (((Nat.gcd d a : Nat) : Int) == 1))
def ratioM (n d : Nat) : Int × Int × Int := if isRatioM (n / Nat.gcd d n) (d / Nat.gcd d n) then (((n / Nat.gcd d n : Nat) : Int), ((d / Nat.gcd d n : Nat) : Int), 0) else (0, 0, 3)
def sizesM : List Int → Nat
  | [] => 0
  | c :: s => sizeN c.toNat + sizesM s
theorem sizesM_le : ∀ r : List Int, sizesM r ≤ 12 * r.length
  | [] => by simp [sizesM]
  | c :: s => by
    have := sizesM_le s
    have := sizeN_le c.toNat
    simp [sizesM]; omega
theorem rangeM_len : ∀ r : List Int, (∀ c ∈ r, 0 ≤ c ∧ c ≤ 168) → (rangeM [] r).length = sizesM r
  | [], _ => rfl
  | c :: s, h => by
    have hc := h c (by simp)
    have ih := rangeM_len s (fun x hx => h x (by simp [hx]))
    have e : rangeM [] (c :: s) = combosM c.toNat [] ++ rangeM [] s := by simp [rangeM]
    rw [e, List.length_append, ih, combos_nil, combos_size _ (by omega)]
    rfl
def combosOfM (c : Int) : List (List Int) × Int := if inR 0 168 c then (outerS c.toNat 52 0, 0) else ([], 2)
theorem innerS_pairs (c x : Nat) : ∀ d y, ∀ p ∈ innerS c x d y, p.length = 2
  | 0, y => by simp [innerS]
  | d + 1, y => by
    have ih := innerS_pairs c x d (y + 1)
    simp only [innerS]; split
    · intro p hp
      rcases List.mem_cons.1 hp with rfl | hp
      · rfl
      · exact ih p hp
    · exact ih
theorem outerS_pairs (c : Nat) : ∀ d x, ∀ p ∈ outerS c d x, p.length = 2
  | 0, x => by simp [outerS]
  | d + 1, x => by
    intro p hp
    simp only [outerS, List.mem_append] at hp
    rcases hp with hp | hp
    · exact innerS_pairs c x _ _ p hp
    · exact outerS_pairs c d (x + 1) p hp
theorem combosM_pairs (c : Nat) (dead : List Int) : ∀ p ∈ combosM c dead, p.length = 2 := fun _ hp => outerS_pairs c 52 0 _ (List.mem_filter.1 hp).1
theorem combosM_free (c : Nat) (dead : List Int) : ∀ p ∈ combosM c dead, freeOf dead p = true := fun _ hp => (List.mem_filter.1 hp).2
theorem combosOfM_pairs (c : Int) : ∀ p ∈ (combosOfM c).1, p.length = 2 := by
  unfold combosOfM; split
  · exact outerS_pairs _ _ _
  · simp
theorem combosOfM_len (c : Int) : (combosOfM c).1.length ≤ 12 := by
  unfold combosOfM; split
  · rename_i h
    have b := inR_iff.1 h
    show (outerS c.toNat 52 0).length ≤ 12
    rw [combos_size _ (by omega)]; exact sizeN_le _
  · simp
theorem clsN_comm (a b : Nat) : clsN a b = clsN b a := by
  unfold clsN
  rw [Nat.max_comm, Nat.min_comm]
  by_cases h : a % 4 = b % 4 ∨ max (b / 4) (a / 4) = min (b / 4) (a / 4)
  · rw [if_pos h, if_pos (by rcases h with h | h; exact .inl h.symm; exact .inr h)]
  · rw [if_neg h, if_neg (by intro g; exact h (by rcases g with g | g; exact .inl g.symm; exact .inr g))]
theorem mem_innerS (c x z : Nat) (hc : clsN x z = c) : ∀ d y, y ≤ z → z < y + d → pair x z ∈ innerS c x d y
  | 0, y, h1, h2 => by omega
  | d + 1, y, h1, h2 => by
    simp only [innerS]
    by_cases e : y = z
    · subst e; rw [if_pos hc]; simp
    · have ih := mem_innerS c x z hc d (y + 1) (by omega) (by omega)
      split
      · exact List.mem_cons_of_mem _ ih
      · exact ih
theorem mem_outerS (c x z : Nat) (hc : clsN x z = c) (hz : x < z) (hz2 : z < 52) : ∀ d y, y + d = 52 → y ≤ x → pair x z ∈ outerS c d y
  | 0, y, h1, h2 => by omega
  | d + 1, y, h1, h2 => by
    simp only [outerS, List.mem_append]
    by_cases e : y = x
    · subst e; exact .inl (mem_innerS c y z hc _ _ (by omega) (by omega))
    · exact .inr (mem_outerS c x z hc hz hz2 d (y + 1) (by omega) (by omega))
def classOfM (l : List Int) : Int × Int := if inR 2 2 (l.length : Int) && cardsB [] l then (((clsN (rd l 0).toNat (rd l 1).toNat : Nat) : Int), 0) else (0, 1)
theorem two_cards {l : List Int} (h2 : l.length = 2) (hc : cardsB [] l = true) : ∃ a b : Nat, l = [(a : Int), (b : Int)] ∧ a < 52 ∧ b < 52 ∧ a ≠ b := by
  obtain ⟨x, y, rfl⟩ : ∃ x y, l = [x, y] := by
    match l, h2 with
    | [x, y], _ => exact ⟨x, y, rfl⟩
  simp only [cardsB, Bool.and_eq_true, Bool.not_eq_true', List.contains_cons, Bool.or_eq_false_iff] at hc
  have bx := inR_iff.1 hc.1
  have by_ := inR_iff.1 hc.2.2.1
  obtain ⟨a, rfl⟩ := Int.eq_ofNat_of_zero_le bx.1
  obtain ⟨b, rfl⟩ := Int.eq_ofNat_of_zero_le by_.1
  refine ⟨a, b, rfl, by omega, by omega, fun e => ?_⟩
  subst e
  have := hc.2.2.2.1
  simp at this
def rangeCombosM (r dead : List Int) : List (List Int) × Int := if isRangeB r then (if cardsB [] dead then (rangeM dead r, 0) else ([], 2)) else ([], 1)
/-! ### A range and the others -/
theorem chain_lt : ∀ (s : List Int) (p : Int), chainB p s = true → ∀ y ∈ s, p < y
  | [], _, _, y, hy => by simp at hy
  | x :: s, p, h, y, hy => by
    simp only [chainB, Bool.and_eq_true, decide_eq_true_eq] at h
    rcases List.mem_cons.1 hy with rfl | hy
    · exact h.1
    · have := chain_lt s x h.2 y hy; omega
theorem chain_inc : ∀ (s : List Int) (p : Int), chainB p s = true → incB s = true
  | [], _, _ => rfl
  | x :: s, p, h => by
    simp only [chainB, Bool.and_eq_true] at h
    exact h.2
def inM (r : List Int) : Nat → List Int
  | 0 => []
  | d + 1 => (if r.contains (169 - ((d + 1 : Nat) : Int)) = true then [169 - ((d + 1 : Nat) : Int)] else []) ++ inM r d
def allM : Nat → List Int
  | 0 => []
  | d + 1 => (169 - ((d + 1 : Nat) : Int)) :: allM d
theorem sizesM_append : ∀ a b : List Int, sizesM (a ++ b) = sizesM a + sizesM b
  | [], b => by simp [sizesM]
  | x :: a, b => by simp only [List.cons_append, sizesM, sizesM_append a b]; omega
theorem sizes_split (r : List Int) : ∀ d, sizesM (inM r d) + sizesM (othersM r d) = sizesM (allM d)
  | 0 => rfl
  | d + 1 => by
    have ih := sizes_split r d
    simp only [inM, othersM_succ, sizesM_append, allM]
    by_cases h : r.contains (169 - ((d + 1 : Nat) : Int)) = true
    · rw [if_pos h, if_pos h]; simp only [sizesM]; omega
    · rw [if_neg h, if_neg h]; simp only [sizesM]; omega
theorem sizes_all : sizesM (allM 169) = 1326 := by decide +kernel
theorem inM_congr (r s : List Int) (d : Nat) : (∀ y : Int, 169 - (d : Int) ≤ y → r.contains y = s.contains y) → inM r d = inM s d := by
  induction d with
  | zero => intro _; rfl
  | succ d ih =>
    intro h
    have h1 := h (169 - ((d + 1 : Nat) : Int)) (by omega)
    have h2 := ih (fun y hy => h y (by omega))
    simp only [inM]
    rw [h1, h2]
theorem inM_self : ∀ (d : Nat) (r : List Int), incB r = true → (∀ c ∈ r, 169 - (d : Int) ≤ c ∧ c ≤ 168) → inM r d = r
  | 0, r, _, h => by
    cases r with
    | nil => rfl
    | cons x s => have := h x (by simp); omega
  | d + 1, r, hi, h => by
    cases r with
    | nil =>
      simp only [inM]
      rw [if_neg (by simp), inM_self d [] rfl (by simp)]; rfl
    | cons x s =>
      have hx := h x (by simp)
      have hs := chain_lt s x hi
      by_cases e : x = 169 - ((d + 1 : Nat) : Int)
      · have hc : (x :: s).contains (169 - ((d + 1 : Nat) : Int)) = true := by rw [← e]; simp
        have h2 : inM (x :: s) d = inM s d := inM_congr _ _ d (fun y hy => by
          rw [List.contains_cons]
          have : (y == x) = false := by simp; omega
          rw [this, Bool.false_or])
        simp only [inM]
        rw [if_pos hc, h2, inM_self d s (chain_inc s x hi) (fun c hc => ⟨by have := hs c hc; omega, (h c (by simp [hc])).2⟩), ← e]
        rfl
      · have hc : ¬ (x :: s).contains (169 - ((d + 1 : Nat) : Int)) = true := by
          rw [List.contains_iff_mem]
          intro hm
          rcases List.mem_cons.1 hm with hm | hm
          · exact e hm.symm
          · have := hs _ hm; omega
        simp only [inM]
        rw [if_neg hc, List.nil_append]
        exact inM_self d (x :: s) hi (fun c hc => ⟨by
          rcases List.mem_cons.1 hc with rfl | hc
          · omega
          · have := hs c hc; omega, (h c hc).2⟩)
theorem others_chain (r : List Int) (d : Nat) : ∀ p : Int, d ≤ 169 → p < 169 - (d : Int) → chainB p (othersM r d) = true ∧ (othersM r d).all (inR 0 168) = true := by
  induction d with
  | zero => intro p _ _; exact ⟨rfl, rfl⟩
  | succ d ih =>
    intro p hd hp
    rw [othersM_succ]
    by_cases h : r.contains (169 - ((d + 1 : Nat) : Int)) = true
    · rw [if_pos h, List.nil_append]
      exact ih p (by omega) (by omega)
    · rw [if_neg h, List.singleton_append]
      have q := ih (169 - ((d + 1 : Nat) : Int)) (by omega) (by omega)
      refine ⟨?_, ?_⟩
      · simp only [chainB, q.1, Bool.and_true, decide_eq_true_eq]; omega
      · simp only [List.all_cons, q.2, Bool.and_true]
        exact inR_iff.2 ⟨by omega, by omega⟩
theorem others_range (r : List Int) : isRangeB (othersM r 169) = true := by
  have h := others_chain r 169 (-1) (Nat.le_refl _) (by omega)
  unfold isRangeB
  rw [h.2, Bool.true_and]
  exact chain_inc _ _ h.1
theorem range_inM {r : List Int} (h : isRangeB r = true) : inM r 169 = r := by
  have h2 := h
  simp only [isRangeB, Bool.and_eq_true] at h2
  exact inM_self 169 r h2.2 (fun c hc => by have := mem_isRange h c hc; omega)
theorem sizes_both {r : List Int} (h : isRangeB r = true) : sizesM r + sizesM (othersM r 169) = 1326 := by
  have e := sizes_split r 169
  rw [range_inM h, sizes_all] at e
  exact e
theorem rangeM_le (dead : List Int) : ∀ r : List Int, (rangeM dead r).length ≤ (rangeM [] r).length
  | [] => by simp [rangeM]
  | c :: s => by
    have ih := rangeM_le dead s
    have e : ∀ q, rangeM q (c :: s) = combosM c.toNat q ++ rangeM q s := fun q => by simp [rangeM]
    rw [e, e, List.length_append, List.length_append, combos_nil]
    have : (combosM c.toNat dead).length ≤ (outerS c.toNat 52 0).length := List.length_filter_le _ _
    omega
theorem rangeM_pairs (dead : List Int) (r : List Int) : ∀ p ∈ rangeM dead r, p.length = 2 := by
  intro p hp
  simp only [rangeM, List.mem_flatMap] at hp
  obtain ⟨c, _, hc⟩ := hp
  exact combosM_pairs _ _ p hc
theorem rangeCombosM_pairs (r dead : List Int) : ∀ p ∈ (rangeCombosM r dead).1, p.length = 2 := by
  unfold rangeCombosM
  split
  · split
    · exact rangeM_pairs _ _
    · simp
  · simp
theorem rangeCombosM_len (r dead : List Int) (hr : r.length ≤ 100000) : (rangeCombosM r dead).1.length ≤ 1200000 := by
  unfold rangeCombosM
  by_cases h1 : isRangeB r = true
  rotate_left
  · simp [if_neg h1]
  by_cases h2 : cardsB [] dead = true
  rotate_left
  · simp [if_pos h1, if_neg h2]
  simp only [if_pos h1, if_pos h2]
  have := rangeM_le dead r
  have := rangeM_len r (mem_isRange h1)
  have := sizesM_le r
  omega
end Go.Proofs.Ytblfemlheolhoaa.EvBase
