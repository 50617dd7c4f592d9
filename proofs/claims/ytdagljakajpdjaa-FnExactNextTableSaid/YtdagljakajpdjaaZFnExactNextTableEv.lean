
import Derived.Test.YtdagljakajpdjaaZFnExactNextTableWMore
import Derived.Laws.BitsLemmas
namespace Go.Proofs.Ytdagljakajpdjaa.EvBase
open Go.RowKit Go.Proofs.YtdagljakajpdjaaW.PrintWords Go.Proofs.YtdagljakajpdjaaW.PrintLast Go.Proofs.YtdagljakajpdjaaW.PrintMore
set_option linter.unusedVariables false
set_option linter.unusedSimpArgs false
theorem w64 {n : Int} (h1 : -9223372036854775808 ≤ n) (h2 : n ≤ 9223372036854775807) : wrap64 n = n := by unfold wrap64; omega
theorem ev_pos {α : Type} {c : Prop} [Decidable c] {a b : Nat → Option α} {r : α} (h : c) (k : Ev a r) : Ev (fun n => if c then a n else b n) r := by
  simpa only [if_pos h] using k
theorem ev_neg {α : Type} {c : Prop} [Decidable c] {a b : Nat → Option α} {r : α} (h : ¬ c) (k : Ev b r) : Ev (fun n => if c then a n else b n) r := by
  simpa only [if_neg h] using k
theorem ev_bindc {α β : Type} {X : Option α} {f : Nat → α → Option β} {a : α} {r : β} (h : X = some a) (k : Ev (fun n => f n a) r) : Ev (fun n => X.bind (f n)) r := by
  simpa only [h, Option.bind_some] using k
theorem ev_const {α : Type} {X : Option α} {r : α} (h : X = some r) : Ev (fun _ => X) r := ⟨0, fun _ _ => h⟩
theorem ev_now {α : Type} {a r : α} (h : a = r) : Ev (fun _ => some a) r := ⟨0, fun _ _ => by rw [h]⟩
theorem rd_at (pre s : List Int) (x : Int) : rd (pre ++ x :: s) (pre.length : Int) = x := by
  simp [rd, List.getD_eq_getElem?_getD]
theorem rd_at' {α : Type} (d : α) (pre s : List α) (x : α) : rdOf d (pre ++ x :: s) (pre.length : Int) = x := by
  simp [rdOf, List.getD_eq_getElem?_getD]
theorem len_snoc {α : Type} (pre : List α) (x : α) : ((pre.length : Int) + 1) = (((pre ++ [x]).length : Nat) : Int) := by simp
theorem app_snoc {α : Type} (pre s : List α) (x : α) : pre ++ x :: s = (pre ++ [x]) ++ s := by simp
theorem set_at {α : Type} (pre s : List α) (x y : α) : (pre ++ x :: s).set ((pre.length : Int)).toNat y = (pre ++ [y]) ++ s := by
  simp
theorem rd_rep (n c : Nat) : rdOf false (List.replicate n false) (c : Int) = ([] : List Int).contains (c : Int) := by
  unfold rdOf
  simp only [Int.toNat_natCast, List.getD_eq_getElem?_getD, List.getElem?_replicate]
  split <;> rfl
def marks : Int → List Int → List Int
  | _, [] => []
  | m, _ :: s => m :: marks (m + 1) s
theorem marks_length (s : List Int) : ∀ m, (marks m s).length = s.length := by
  induction s with
  | nil => intro m; rfl
  | cons x s ih => intro m; simp [marks, ih]
def inR (lo hi x : Int) : Bool := decide (lo ≤ x ∧ x ≤ hi)
theorem inR_iff {lo hi x : Int} : inR lo hi x = true ↔ (lo ≤ x ∧ x ≤ hi) := by simp [inR]
def chainB : Int → List Int → Bool
  | _, [] => true
  | p, x :: s => decide (p < x) && chainB x s
def incB : List Int → Bool
  | [] => true
  | x :: s => chainB x s
def isRangeB (l : List Int) : Bool := l.all (inR 0 168) && incB l
theorem mx_max (a b : Int) : mx a b = max a b := by unfold mx; omega
theorem mn_min (a b : Int) : mn a b = min a b := by unfold mn; omega
def variantB (h l m b : Int) (hi : Bool) (lo : Int) : Bool :=
  inR 1 7 h && (inR 0 5 b && (inR 0 3 lo && (inR 0 (min h 5) m && (inR 0 m l && (decide (5 - m ≤ b) && (if lo = 0 then hi else if lo = 1 then true else !hi))))))
def cardsB : List Int → List Int → Bool
  | _, [] => true
  | seen, x :: s => inR 0 51 x && (!(seen.contains x) && cardsB (x :: seen) s)
theorem wraps_u64 (n : Int) (h₀ : 0 ≤ n) (h₁ : n < 2 ^ 53) : IntKind.u64.wrap n = n := by
  simp [IntKind.wrap, IntKind.bits, IntKind.signed]; omega
theorem bit_and (s c : Nat) (hs : s < 2 ^ 52) (hc : c < 52) : (Go.bits .and .u64 (shr .u64 (s : Int) (c : Int)) 1 = 1) ↔ s.testBit c = true := by
  have e : shr .u64 (s : Int) (c : Int) = ((s >>> c : Nat) : Int) := by
    unfold shr
    have hm : min ((c : Int).toNat) IntKind.u64.bits = c := by
      have : IntKind.u64.bits = 64 := rfl
      rw [this]; simp; omega
    rw [hm, Nat.shiftRight_eq_div_pow]
    simp
  have hlt : s >>> c < 2 ^ 53 := by
    rw [Nat.shiftRight_eq_div_pow]
    exact Nat.lt_of_le_of_lt (Nat.div_le_self _ _) (by omega)
  have h := (bits_nat .u64 53 (by decide) wraps_u64 (s >>> c) 1 hlt (by decide)).1
  rw [e]
  have h' : Go.bits .and .u64 ((s >>> c : Nat) : Int) 1 = ((s >>> c &&& 1 : Nat) : Int) := h
  rw [h']
  simp only [Nat.testBit, Nat.and_comm 1]
  have h2 : (s >>> c &&& 1) = (s >>> c) % 2 := Nat.and_one_is_mod _
  rw [h2]
  have h3 : (s >>> c) % 2 < 2 := Nat.mod_lt _ (by decide)
  generalize (s >>> c) % 2 = z at h3
  match z, h3 with
  | 0, _ => simp
  | 1, _ => simp
theorem bit_or (s c : Nat) (hs : s < 2 ^ 52) (hc : c < 52) : Go.bits .or .u64 (s : Int) (shl .u64 1 (c : Int)) = ((s ||| 2 ^ c : Nat) : Int) := by
  have hp : 2 ^ c < 2 ^ 53 := Nat.pow_lt_pow_right (by decide) (by omega)
  have e : shl .u64 1 (c : Int) = ((2 ^ c : Nat) : Int) := by
    unfold shl
    have hm : min ((c : Int).toNat) IntKind.u64.bits = c := by
      have : IntKind.u64.bits = 64 := rfl
      rw [this]; simp; omega
    rw [hm]
    have hpi : ((2 : Int) ^ c) < 2 ^ 53 := by exact_mod_cast hp
    have hp0 : (0 : Int) ≤ (2 : Int) ^ c := by exact_mod_cast Nat.zero_le (2 ^ c)
    rw [Int.one_mul, wraps_u64 _ hp0 hpi]
    simp
  rw [e]
  exact (bits_nat .u64 53 (by decide) wraps_u64 s (2 ^ c) (by omega) hp).2
def BitsOf (s : Nat) (seen : List Int) : Prop := s < 2 ^ 52 ∧ ∀ c : Nat, c < 52 → s.testBit c = seen.contains (c : Int)
theorem bits_nil : BitsOf 0 [] := ⟨by decide, fun c _ => by simp⟩
theorem bits_put {s : Nat} {seen : List Int} (h : BitsOf s seen) (c : Nat) (hc : c < 52) : BitsOf (s ||| 2 ^ c) ((c : Int) :: seen) := by
  refine ⟨Nat.or_lt_two_pow h.1 (Nat.pow_lt_pow_right (by decide) hc), fun d hd => ?_⟩
  rw [Nat.testBit_or, h.2 d hd, Nat.testBit_two_pow, List.contains_cons]
  by_cases e : c = d
  · subst e; simp
  · have e2 : ¬ (d : Int) = (c : Int) := by omega
    simp [e, e2]
def binM (n : Int) : Nat → Int → Int → Int
  | 0, x, _ => x
  | d + 1, x, i => binM n d (wrap64 (Int.tdiv (wrap64 (x * (wrap64 (n - i)))) (i + 1))) (i + 1)
def chooseM (n k : Int) : Int := if k < 0 ∨ k > n then 0 else binM n k.toNat 1 0
def cntM (h b : Int) : Nat → Int → Int → Int
  | 0, acc, _ => acc
  | d + 1, acc, k => cntM h b d (wrap64 (acc + wrap64 (chooseM h k * chooseM b (5 - k)))) (k + 1)
def tableB (l : List Int) (b s g a m : Int) : Bool :=
  inR 2 6 (l.length : Int) && (inR 0 ((l.length : Int) - 1) b && (inR 1 100000 g && (inR 0 g s && (inR 0 100000 a && (inR 0 2 m && l.all (inR 1 100000))))))
theorem table_bounds {l : List Int} {b s g a m : Int} (h : tableB l b s g a m = true) : 2 ≤ l.length ∧ l.length ≤ 6 ∧ 0 ≤ b ∧ b < l.length ∧ 1 ≤ g ∧ g ≤ 100000 ∧ 0 ≤ s ∧ s ≤ g ∧ 0 ≤ a ∧ a ≤ 100000 ∧ 0 ≤ m ∧ m ≤ 2 ∧ l.all (inR 1 100000) = true := by
  simp only [tableB, Bool.and_eq_true, inR_iff] at h
  obtain ⟨h1, h2, h3, h4, h5, h6, h7⟩ := h
  exact ⟨by omega, by omega, by omega, by omega, by omega, by omega, by omega, by omega, by omega, by omega, by omega, by omega, h7⟩
def leftM (s n : Int) : Int := Int.tmod (wrap64 (s + 1)) n
theorem leftM_range {s n : Int} (h0 : 0 ≤ s) (h1 : s < n) (h2 : n ≤ 1000) : 0 ≤ leftM s n ∧ leftM s n < n := by
  unfold leftM
  rw [w64 (by omega) (by omega)]
  exact ⟨Int.tmod_nonneg _ (by omega), Int.tmod_lt_of_pos _ (by omega)⟩
theorem leftM_eq {s n : Int} (h0 : 0 ≤ s) (h1 : s < n) (h2 : n ≤ 1000) : leftM s n = (s + 1) % n := by
  unfold leftM
  rw [w64 (by omega) (by omega), Int.tmod_eq_emod_of_nonneg (by omega)]
def blindsAt (n b : Int) : Int × Int := if n = 2 then (b, leftM b n) else (leftM b n, leftM (leftM b n) n)
theorem blindsAt_range {b n : Int} (h0 : 0 ≤ b) (h1 : b < n) (h2 : n ≤ 1000) : 0 ≤ (blindsAt n b).1 ∧ (blindsAt n b).1 < n ∧ 0 ≤ (blindsAt n b).2 ∧ (blindsAt n b).2 < n := by
  have l1 := leftM_range h0 h1 h2
  unfold blindsAt
  split
  · exact ⟨h0, h1, l1.1, l1.2⟩
  · exact ⟨l1.1, l1.2, leftM_range l1.1 l1.2 h2⟩
def sumM : Int → List Int → Int
  | acc, [] => acc
  | acc, x :: s => sumM (wrap64 (acc + x)) s
def antesM (l : List Int) (a : Int) : List Int := l.map (fun x => min x a)
def fromM (n seat : Int) : Nat → Int → List Int
  | 0, _ => []
  | d + 1, i => Int.tmod (wrap64 (seat + i)) n :: fromM n seat d (i + 1)
theorem fromM_len (n seat : Int) (d : Nat) : ∀ i, (fromM n seat d i).length = d := by
  induction d with
  | zero => intro i; rfl
  | succ d ih => intro i; simp [fromM, ih]
def firstM (n b street : Int) : Int := if street = 0 then leftM (blindsAt n b).2 n else leftM b n
def betsM (l : List Int) (b s g a : Int) : List Int :=
  ((List.replicate l.length (0 : Int)).set (blindsAt l.length b).1.toNat (mn s (wrap64 (rd l (blindsAt l.length b).1 - rd (antesM l a) (blindsAt l.length b).1)))).set (blindsAt l.length b).2.toNat (mn g (wrap64 (rd l (blindsAt l.length b).2 - rd (antesM l a) (blindsAt l.length b).2)))
theorem betsM_len (l : List Int) (b s g a : Int) : (betsM l b s g a).length = l.length := by simp [betsM]
def othersM (r : List Int) : Nat → List Int
  | 0 => []
  | d + 1 => (if r.contains (169 - ((d + 1 : Nat) : Int)) = true then [] else [169 - ((d + 1 : Nat) : Int)]) ++ othersM r d
theorem othersM_succ (r : List Int) (d : Nat) : othersM r (d + 1) = (if r.contains (169 - ((d + 1 : Nat) : Int)) = true then [] else [169 - ((d + 1 : Nat) : Int)]) ++ othersM r d := rfl
theorem othersM_len (r : List Int) : ∀ d : Nat, (othersM r d).length ≤ d
  | 0 => Nat.le_refl 0
  | d + 1 => by
    have := othersM_len r d
    rw [othersM_succ, List.length_append]
    split <;> simp <;> omega
def otherM (r : List Int) : List Int × Int := if isRangeB r then (othersM r 169, 0) else ([], 1)
theorem otherM_len (r : List Int) : (otherM r).1.length ≤ 169 := by
  unfold otherM; split
  · exact othersM_len r 169
  · simp
def ChipsAtM (l : List Int) (b s g a m : Int) : Int × Int := if tableB l b s g a m then (sumM 0 l, 0) else (0, 1)
def BlindSeatsM (l : List Int) (b s g a m : Int) : Int × Int × Int := if tableB l b s g a m then ((blindsAt l.length b).1, (blindsAt l.length b).2, 0) else (0, 0, 1)
def FirstSeatM (l : List Int) (b s g a m a1 : Int) : Int × Int := if tableB l b s g a m then (if inR 0 3 a1 then (firstM l.length b a1, 0) else (0, 2)) else (0, 1)
def AntesOfM (l : List Int) (b s g a m : Int) : List Int × Int := if tableB l b s g a m then (antesM l a, 0) else ([], 1)
theorem AntesOfM_len (l : List Int) (b s g a m : Int) (hl : l.length ≤ 1048576) : (AntesOfM l b s g a m).1.length ≤ 1048576 := by
  unfold AntesOfM
  split
  · simpa [antesM] using hl
  · simp
def BlindsOfM (l : List Int) (b s g a m : Int) : List Int × Int := if tableB l b s g a m then (betsM l b s g a, 0) else ([], 1)
theorem BlindsOfM_len (l : List Int) (b s g a m : Int) (hl : l.length ≤ 1048576) : (BlindsOfM l b s g a m).1.length ≤ 1048576 := by
  unfold BlindsOfM
  split
  · simpa [betsM_len] using hl
  · simp
def BytesOk (l : List Int) : Prop := l.length ≤ 1000000 ∧ ∀ x ∈ l, 0 ≤ x ∧ x ≤ 255
def SrcOk (code : List Int) (p seed : Int) : Prop := 0 ≤ p ∧ p ≤ code.length ∧ 0 ≤ seed ∧ seed < 2147483647
theorem rd_mem {l : List Int} {i : Int} (h0 : 0 ≤ i) (h1 : i < l.length) : rd l i ∈ l := by
  obtain ⟨n, rfl⟩ := Int.eq_ofNat_of_zero_le h0
  have hn : n < l.length := by omega
  simp only [rd, Int.toNat_natCast, List.getD_eq_getElem?_getD, List.getElem?_eq_getElem hn, Option.getD_some]
  exact List.getElem_mem hn
theorem tmod_range {y n : Int} (hy : 0 ≤ y) (hn : 0 < n) : 0 ≤ Int.tmod y n ∧ Int.tmod y n < n := ⟨Int.tmod_nonneg _ hy, Int.tmod_lt_of_pos _ hn⟩
theorem byte_wf {x : Int} (h : (Lit.int .u8 x).wf = true) : 0 ≤ x ∧ x ≤ 255 := by
  simp only [Lit.wf, Bool.and_eq_true, decide_eq_true_eq] at h
  have e1 : IntKind.u8.min = 0 := by decide
  have e2 : IntKind.u8.max = 255 := by decide
  rw [e1, e2] at h
  exact h
end Go.Proofs.Ytdagljakajpdjaa.EvBase
