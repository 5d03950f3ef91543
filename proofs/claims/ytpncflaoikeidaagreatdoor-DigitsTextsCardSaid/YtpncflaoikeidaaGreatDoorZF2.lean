/- TEXTS OF THIS CLAIM, GATHERED: words printed by the kit, functions printed over the translation, contracts and plain laws by hand. -/
import Derived.Shelf.Strings.Builder1
import Derived.Shelf.Strings.Builder2
import Derived.Shelf.Small.Bits
import Derived.Shelf.Strings.BuilderF
import Derived.Shelf.Strings.BuilderK
import Derived.Shelf.Utf8.RuneCount
import Derived.Shelf.Strings.Builder2Cap
import Derived.Shelf.Strconv.Itoa0
import Derived.Shelf.Strconv.Itoa1
import Derived.Shelf.LaysM
import Derived.Shelf.Strconv.Itoa2
import Derived.Shelf.Strconv.Itoa3
import Derived.Ground.MpProg
import Derived.Shelf.Pu.ParseUintPublic10
import Derived.Shelf.Pu.ErrVarParseUint
import Derived.Shelf.Strings.Search1
import Derived.Shelf.Strings.Search2
import Derived.Shelf.Strings.Search3
import Derived.Shelf.Strings.Cut
import Derived.Shelf.Strings.Count
import Derived.Shelf.Strings.Shaped
import Derived.Shelf.GgClosure.StringsIndexFunc
import Derived.Ground.GgwProg
import Derived.Shelf.GgClosure.StringsIndexFuncTop
import Derived.Shelf.GgClosure.StringsRunes
import Derived.Shelf.Strings.Prefix
import Derived.Shelf.Strings.Split
import Derived.Shelf.Strings.SplitShaped
import Derived.Shelf.Unicode.Decode
import Derived.Shelf.Strings.RuneCount
import Derived.Shelf.Strings.Explode
import Derived.Shelf.Bits.Mul64
import Derived.Shelf.Strings.Repeat
import Derived.Shelf.Unicode.DecodeSlow
import Derived.Shelf.Unicode.DecodeAny
import Derived.Shelf.Strings.FuncGrows
import Derived.Shelf.Strings.BuilderCap
import Derived.Test.YtpncflaoikeidaaGreatDoorProg
import Derived.Below
import Derived.Deep.Draws
import Derived.Deep.AppendLies
import Derived.Maps.AppendAt
import Derived.OwnWalk
import Derived.Laws.BytesArg
import Derived.Laws.MakeOwn
import Derived.Laws.OwnMore
import Derived.Deep.OwnRows
import Derived.Tactics
import Derived.Lib.ConvBytes
import Derived.Laws.Slices
import Derived.WalkKit
import Derived.KernelRfl
import Derived.RowKit3
import Derived.Deep.LoopGhost
import Derived.Deep.QuietTactic
import Derived.BigQuiet
import Derived.WideLaws
import Derived.Deep.DeepCutAuto
import Derived.Deep.CutBlock
import Derived.Deep.RegionHeld3
import Derived.Laws.Rows
import Derived.Lib.AppendStr
import Derived.ArgAppend
import Derived.Laws.IdiomCopy
import Derived.OrdersHeld
import Derived.Laws.BitsLemmas
import Derived.RowKit
import Derived.Lib.LaidTab
import Derived.Lib.ItoaMem
import Derived.ProofKit
import Derived.OpenShut
import Derived.ShutString
import Derived.ChangeOld
import Derived.Carry
import Derived.SizedLaws
import Derived.JoinedCond
import Derived.Lay
import Derived.LaidLaws
import Derived.Deep.DeepHandedRow
import Derived.Lib.SmallJoins
import Derived.Lib.LaidU8
import Derived.Test.YtpncflaoikeidaaGreatDoorRows
import Derived.Laws.RangeAny
import Derived.IntWalk
import Derived.Lib.LazyBuf
import Derived.Lib.BitFns
import Derived.Lib.ParseIntB
import Derived.Lib.ItoaNum
import Derived.Laws.BitsAllLaws
import Derived.WalkMore
import Derived.RangeFuncFrom
import Derived.RangeFuncNested
import Derived.RangeFuncBound
import Derived.RangeFuncCalls
import Derived.RangeFuncLeaves
import Derived.Shelf.Abstract
import Derived.Shelf.RegionOpen
import Derived.OwnWalkIn
import Derived.TacticsInMore
import Derived.LoopNIn
import Derived.LoopIn
import Derived.Test.YtpncflaoikeidaaGreatDoorZF1
namespace Go.Proofs.YtpncflaoikeidaaGreatDoor.H

def nval : List Int → Nat
  | [] => 0
  | x :: l => x.toNat + 4294967296 * nval l
def okl (l : List Int) : Prop := ∀ x ∈ l, 0 ≤ x ∧ x < 4294967296
instance (l : List Int) : Decidable (okl l) := by unfold okl; infer_instance
def limbsF : Nat → Nat → List Int
  | 0, _ => []
  | k + 1, n => if n = 0 then [] else ((n % 4294967296 : Nat) : Int) :: limbsF k (n / 4294967296)
def limbs (n : Nat) : List Int := limbsF (n.log2 / 32 + 1) n
def topN : List Int → Nat
  | [] => 0
  | x :: l => if topN l = 0 then (if x = 0 then 0 else 1) else topN l + 1

theorem limbsF_more : ∀ (k n : Nat), n < 4294967296 ^ k → ∀ j, limbsF (k + j) n = limbsF k n
  | 0, n, h, j => by
    have : n = 0 := by simpa using h
    subst this
    cases j <;> simp [limbsF]
  | k + 1, n, h, j => by
    rw [Nat.succ_add_eq_add_succ, Nat.add_succ]
    simp only [limbsF]
    split
    · rfl
    · congr 1
      exact limbsF_more k _ (by rw [Nat.pow_succ] at h; exact Nat.div_lt_of_lt_mul (by rw [Nat.mul_comm]; exact h)) j
theorem pow_big (n : Nat) : n < 4294967296 ^ (n.log2 / 32 + 1) := by
  have h1 : n < 2 ^ (n.log2 + 1) := by
    by_cases h : n = 0
    · subst h; decide
    · exact Nat.lt_log2_self
  have h2 : (4294967296 : Nat) ^ (n.log2 / 32 + 1) = 2 ^ (32 * (n.log2 / 32 + 1)) := by
    rw [Nat.pow_mul]
  rw [h2]
  exact Nat.lt_of_lt_of_le h1 (Nat.pow_le_pow_right (by decide) (by omega))
theorem limbs_of_F (k n : Nat) (h : n < 4294967296 ^ k) : limbsF k n = limbs n := by
  unfold limbs
  rcases Nat.le_total k (n.log2 / 32 + 1) with hk | hk
  · obtain ⟨j, hj⟩ := Nat.le.dest hk
    rw [← hj, limbsF_more k n h j]
  · obtain ⟨j, hj⟩ := Nat.le.dest hk
    rw [← hj, limbsF_more _ n (pow_big n) j]
theorem limbs_zero : limbs 0 = [] := by simp [limbs, limbsF]
theorem limbs_pos (n : Nat) (h : n ≠ 0) : limbs n = ((n % 4294967296 : Nat) : Int) :: limbs (n / 4294967296) := by
  have hp := pow_big n
  rw [← limbs_of_F (n.log2 / 32 + 1) n hp]
  simp only [limbsF, h, if_false]
  rw [limbs_of_F]
  rw [Nat.pow_succ] at hp
  exact Nat.div_lt_of_lt_mul (by rw [Nat.mul_comm]; exact hp)
theorem okl_nil : okl [] := fun _ h => by cases h
theorem okl_cons {x : Int} {l : List Int} : okl (x :: l) ↔ (0 ≤ x ∧ x < 4294967296) ∧ okl l := by simp [okl]
theorem okl_append {l m : List Int} : okl (l ++ m) ↔ okl l ∧ okl m := by
  simp only [okl, List.mem_append]
  exact ⟨fun h => ⟨fun x hx => h x (.inl hx), fun x hx => h x (.inr hx)⟩, fun h x hx => hx.elim (h.1 x) (h.2 x)⟩
theorem okl_limbs : ∀ n, okl (limbs n) := by
  intro n
  induction n using Nat.strongRecOn with
  | _ n ih =>
    by_cases h : n = 0
    · subst h; rw [limbs_zero]; exact okl_nil
    · rw [limbs_pos n h, okl_cons]
      exact ⟨by omega, ih _ (by omega)⟩
theorem nval_limbs : ∀ n, nval (limbs n) = n := by
  intro n
  induction n using Nat.strongRecOn with
  | _ n ih =>
    by_cases h : n = 0
    · subst h; rw [limbs_zero]; rfl
    · rw [limbs_pos n h, nval, ih _ (by omega)]
      simp only [Int.toNat_natCast]
      omega
theorem nval_append : ∀ (l m : List Int), nval (l ++ m) = nval l + 4294967296 ^ l.length * nval m
  | [], m => by simp [nval]
  | x :: l, m => by
    rw [List.cons_append, nval, nval, nval_append l m, List.length_cons, Nat.pow_succ, Nat.mul_add, Nat.add_assoc, Nat.mul_comm (4294967296 ^ l.length) 4294967296, Nat.mul_assoc]
theorem topN_le : ∀ l, topN l ≤ l.length
  | [] => Nat.le_refl _
  | x :: l => by
    have := topN_le l
    simp only [topN, List.length_cons]
    split
    · split <;> omega
    · omega
theorem topN_zero {l : List Int} (hl : okl l) : topN l = 0 ↔ nval l = 0 := by
  induction l with
  | nil => simp [topN, nval]
  | cons x l ih =>
    rw [okl_cons] at hl
    have ih := ih hl.2
    simp only [topN, nval]
    split
    · rename_i h
      have := ih.1 h
      split
      · rename_i hx; subst hx; simp [this]
      · constructor
        · intro h'; cases h'
        · intro h'; omega
    · rename_i h
      constructor
      · intro h'; omega
      · intro h'; exact absurd (ih.2 (by omega)) h
theorem trim_limbs {l : List Int} (hl : okl l) : l.take (topN l) = limbs (nval l) := by
  induction l with
  | nil => simp [topN, nval, limbs_zero]
  | cons x l ih =>
    have hl' := hl
    rw [okl_cons] at hl
    have ih := ih hl.2
    by_cases h : nval (x :: l) = 0
    · rw [(topN_zero hl').2 h, h, limbs_zero]; rfl
    · rw [limbs_pos _ h]
      simp only [topN, nval] at h ⊢
      have e1 : (x.toNat + 4294967296 * nval l) % 4294967296 = x.toNat := by omega
      have e2 : (x.toNat + 4294967296 * nval l) / 4294967296 = nval l := by omega
      have e3 : ((x.toNat : Nat) : Int) = x := by omega
      rw [e1, e2, e3, ← ih]
      split
      · rename_i h0
        have := (topN_zero hl.2).1 h0
        rw [if_neg (by intro hx; subst hx; simp [this] at h), h0]
        simp
      · rfl
theorem topN_snoc (x : Int) : ∀ l : List Int, topN (l ++ [x]) = if x = 0 then topN l else l.length + 1
  | [] => by simp [topN]
  | y :: l => by
    simp only [List.cons_append, topN, topN_snoc x l, List.length_cons]
    by_cases hx : x = 0 <;> simp [hx]
theorem nval_lt {l : List Int} (hl : okl l) : nval l < 4294967296 ^ l.length := by
  induction l with
  | nil => simp [nval]
  | cons x l ih =>
    rw [okl_cons] at hl
    have := ih hl.2
    rw [nval, List.length_cons, Nat.pow_succ]
    have h1 : nval l + 1 ≤ 4294967296 ^ l.length := this
    have h2 := Nat.mul_le_mul_left 4294967296 h1
    rw [Nat.mul_comm (4294967296 ^ l.length)]
    omega
theorem limbs_length_le : ∀ (k n : Nat), n < 4294967296 ^ k → (limbs n).length ≤ k
  | 0, n, h => by
    have : n = 0 := by simpa using h
    subst this; rw [limbs_zero]; exact Nat.le_refl _
  | k + 1, n, h => by
    by_cases h0 : n = 0
    · subst h0; rw [limbs_zero]; simp
    · rw [limbs_pos n h0, List.length_cons]
      have := limbs_length_le k (n / 4294967296) (by rw [Nat.pow_succ] at h; exact Nat.div_lt_of_lt_mul (by rw [Nat.mul_comm]; exact h))
      omega
theorem le_limbs_length (k n : Nat) (h : 4294967296 ^ k ≤ n) : k < (limbs n).length := by
  have h1 := nval_lt (okl_limbs n)
  rw [nval_limbs] at h1
  exact (Nat.pow_lt_pow_iff_right (by decide : 1 < 4294967296)).1 (Nat.lt_of_le_of_lt h h1)

def gcar (f : Nat → Nat) : Nat → Nat
  | 0 => 0
  | i + 1 => (f i + gcar f i) / 4294967296
def gout (f : Nat → Nat) : Nat → List Int
  | 0 => []
  | i + 1 => gout f i ++ [((f i + gcar f i : Nat) : Int) % 4294967296]
def gsum (f : Nat → Nat) : Nat → Nat
  | 0 => 0
  | i + 1 => gsum f i + 4294967296 ^ i * f i
def glast : Nat → Nat → List Int
  | 0, _ => []
  | k + 1, c => if 0 < c then ((c : Nat) : Int) % 4294967296 :: glast k (c / 4294967296) else []
theorem gout_length (f : Nat → Nat) : ∀ n, (gout f n).length = n
  | 0 => rfl
  | n + 1 => by simp [gout, gout_length f n]
theorem gout_ok (f : Nat → Nat) : ∀ n, okl (gout f n)
  | 0 => okl_nil
  | n + 1 => by
    rw [gout, okl_append, okl_cons]
    exact ⟨gout_ok f n, ⟨by omega, by omega⟩, okl_nil⟩
theorem gout_val (f : Nat → Nat) : ∀ n, nval (gout f n) + 4294967296 ^ n * gcar f n = gsum f n
  | 0 => rfl
  | n + 1 => by
    have ih := gout_val f n
    rw [gout, nval_append, gout_length, gsum, gcar, ← ih]
    simp only [nval]
    have e : ((((f n + gcar f n : Nat) : Int) % 4294967296).toNat) = (f n + gcar f n) % 4294967296 := by omega
    rw [e, Nat.mul_zero, Nat.add_zero, Nat.pow_succ, Nat.mul_assoc, Nat.add_assoc, ← Nat.mul_add, Nat.mod_add_div, Nat.mul_add]
    omega
theorem glast_ok : ∀ k c, okl (glast k c)
  | 0, _ => okl_nil
  | k + 1, c => by
    rw [glast]
    split
    · rw [okl_cons]; exact ⟨by omega, glast_ok k _⟩
    · exact okl_nil
theorem glast_val : ∀ k c, c < 4294967296 ^ k → nval (glast k c) = c
  | 0, c, h => by
    have : c = 0 := by simpa using h
    subst this; rfl
  | k + 1, c, h => by
    rw [glast]
    split
    · rw [nval, glast_val k _ (by rw [Nat.pow_succ] at h; exact Nat.div_lt_of_lt_mul (by rw [Nat.mul_comm]; exact h))]
      omega
    · simp only [nval]; omega
/-- All that gather lays, without the noughts at its end. -/
theorem gall (f : Nat → Nat) (n : Nat) (hc : gcar f n < 18446744073709551616) : (gout f n ++ glast 2 (gcar f n)).take (topN (gout f n ++ glast 2 (gcar f n))) = limbs (gsum f n) := by
  rw [trim_limbs (okl_append.2 ⟨gout_ok f n, glast_ok _ _⟩), nval_append, gout_length, glast_val 2 _ hc, gout_val]
end Go.Proofs.YtpncflaoikeidaaGreatDoor.H
namespace Go.Proofs.YtpncflaoikeidaaGreatDoor.H
def lim (l : List Int) (i : Nat) : Nat := (l.getD i 0).toNat
theorem lim_lt {l : List Int} (hl : okl l) (i : Nat) : lim l i < 4294967296 := by
  unfold lim
  rcases Nat.lt_or_ge i l.length with h | h
  · rw [List.getD_eq_getElem?_getD, List.getElem?_eq_getElem h]
    have := hl _ (List.getElem_mem h)
    simp only [Option.getD_some]
    omega
  · rw [List.getD_eq_getElem?_getD, List.getElem?_eq_none h]; decide
theorem lim_out {l : List Int} {i : Nat} (h : l.length ≤ i) : lim l i = 0 := by
  unfold lim; rw [List.getD_eq_getElem?_getD, List.getElem?_eq_none h]; rfl
theorem nval_snoc (l : List Int) (x : Int) : nval (l ++ [x]) = nval l + 4294967296 ^ l.length * x.toNat := by
  rw [nval_append]; simp [nval]
theorem nval_take (l : List Int) (n : Nat) : nval (l.take (n + 1)) = nval (l.take n) + 4294967296 ^ n * lim l n := by
  rcases Nat.lt_or_ge n l.length with h | h
  · rw [List.take_succ_eq_append_getElem h, nval_snoc, List.length_take, Nat.min_eq_left (by omega)]
    unfold lim
    rw [List.getD_eq_getElem?_getD, List.getElem?_eq_getElem h]; rfl
  · rw [List.take_of_length_le (by omega), List.take_of_length_le (by omega), lim_out h]; simp
theorem gsum_lim (l : List Int) : ∀ n, gsum (lim l) n = nval (l.take n)
  | 0 => rfl
  | n + 1 => by rw [gsum, gsum_lim l n, nval_take]
theorem gsum_add (f g : Nat → Nat) : ∀ n, gsum (fun i => f i + g i) n = gsum f n + gsum g n
  | 0 => rfl
  | n + 1 => by simp only [gsum]; rw [gsum_add f g n, Nat.mul_add]; omega
theorem gsum_congr {f g : Nat → Nat} : ∀ n, (∀ i, i < n → f i = g i) → gsum f n = gsum g n
  | 0, _ => rfl
  | n + 1, h => by simp only [gsum]; rw [gsum_congr n (fun i hi => h i (by omega)), h n (by omega)]
theorem gcar_lt {f : Nat → Nat} {n : Nat} (h : ∀ i, i < n → f i < 9223372036854775808) : ∀ i, i ≤ n → gcar f i < 4294967296
  | 0, _ => by simp [gcar]
  | i + 1, hi => by
    have h1 := gcar_lt h i (by omega)
    have h2 := h i (by omega)
    rw [gcar]; omega
theorem gcar_fits {f : Nat → Nat} {n : Nat} (h : ∀ i, i < n → f i < 9223372036854775808) : ∀ i, i < n → f i + gcar f i < 18446744073709551616 := fun i hi => by
  have h1 := gcar_lt h i (by omega)
  have h2 := h i hi
  omega
def rcar (a : List Int) (m : Nat) : Nat → Nat
  | 0 => 0
  | j + 1 => (lim a j * m + rcar a m j) / 4294967296
def rowf (a : List Int) (m up i : Nat) : Nat := if i < up then 0 else (lim a (i - up) * m + rcar a m (i - up)) % 4294967296
theorem rcar_lt {a : List Int} (ha : okl a) {m : Nat} (hm : m < 4294967296) : ∀ j, rcar a m j < 4294967296
  | 0 => by simp [rcar]
  | j + 1 => by
    have h1 := rcar_lt ha hm j
    have h2 := lim_lt ha j
    have h3 : lim a j * m ≤ 4294967295 * 4294967295 := Nat.mul_le_mul (by omega) (by omega)
    rw [rcar]; omega
theorem gsum_row0 (a : List Int) (m up : Nat) : ∀ n, n ≤ up → gsum (rowf a m up) n = 0
  | 0, _ => rfl
  | n + 1, h => by rw [gsum, gsum_row0 a m up n (by omega), rowf, if_pos (by omega)]; rfl
theorem gsum_row1 (a : List Int) (m up : Nat) : ∀ n, gsum (rowf a m up) (up + n) + 4294967296 ^ (up + n) * rcar a m n = 4294967296 ^ up * (nval (a.take n) * m)
  | 0 => by rw [Nat.add_zero, gsum_row0 a m up up (Nat.le_refl _)]; simp [rcar, nval]
  | n + 1 => by
    have ih := gsum_row1 a m up n
    rw [← Nat.add_assoc, gsum, rowf, if_neg (by omega), show up + n - up = n by omega, rcar, nval_take, Nat.add_mul, Nat.mul_add, ← ih, Nat.pow_succ, Nat.mul_assoc (4294967296 ^ (up + n)), Nat.add_assoc, ← Nat.mul_add, Nat.mod_add_div, Nat.mul_add, Nat.pow_add, Nat.mul_assoc (4294967296 ^ n) (lim a n), ← Nat.mul_assoc (4294967296 ^ up) (4294967296 ^ n)]
    omega
theorem gsum_row {a : List Int} (ha : okl a) {m : Nat} (hm : m < 4294967296) (up : Nat) : gsum (rowf a m up) (a.length + up + 1) = 4294967296 ^ up * (nval a * m) := by
  have h := gsum_row1 a m up (a.length + 1)
  have h1 : rcar a m (a.length + 1) = 0 := by
    have := rcar_lt ha hm a.length
    rw [rcar, lim_out (Nat.le_refl _)]
    omega
  rw [h1, List.take_of_length_le (by omega), Nat.mul_zero, Nat.add_zero] at h
  rw [show a.length + up + 1 = up + (a.length + 1) by omega]
  exact h
theorem rowf_lt (a : List Int) (m up i : Nat) : rowf a m up i < 4294967296 := by unfold rowf; split <;> omega
theorem gsum_digits (M : Nat) : ∀ n, gsum (fun i => M / 4294967296 ^ i % 4294967296) n = M % 4294967296 ^ n
  | 0 => by simp [gsum, Nat.mod_one]
  | n + 1 => by rw [gsum, gsum_digits M n, Nat.pow_succ, Nat.mod_mul]
theorem nval_tail (l : List Int) : nval l = lim l 0 + 4294967296 * nval l.tail := by cases l <;> simp [nval, lim]
theorem lim_tail (l : List Int) (j : Nat) : lim l (j + 1) = lim l.tail j := by cases l <;> simp [lim]
theorem okl_tail {l : List Int} (h : okl l) : okl l.tail := fun x hx => h x (List.mem_of_mem_tail hx)
theorem nval_eq {l m : List Int} (h : ∀ j, lim l j = lim m j) : nval l = nval m := by
  suffices ∀ n (l m : List Int), l.length ≤ n → m.length ≤ n → (∀ j, lim l j = lim m j) → nval l = nval m from this (max l.length m.length) l m (by omega) (by omega) h
  intro n
  induction n with
  | zero =>
    intro l m hl hm _
    rw [List.eq_nil_of_length_eq_zero (by omega : l.length = 0), List.eq_nil_of_length_eq_zero (by omega : m.length = 0)]
  | succ n ih =>
    intro l m hl hm h
    rw [nval_tail l, nval_tail m, h 0, ih l.tail m.tail (by simp; omega) (by simp; omega) (fun j => by rw [← lim_tail, ← lim_tail]; exact h _)]
theorem nval_less : ∀ (x : Nat) {l m : List Int}, okl l → okl m → (∀ j, x < j → lim l j = lim m j) → lim l x < lim m x → nval l < nval m
  | 0, l, m, _, _, h, hx => by
    rw [nval_tail l, nval_tail m, nval_eq (l := l.tail) (m := m.tail) (fun j => by rw [← lim_tail, ← lim_tail]; exact h _ (by omega))]
    omega
  | x + 1, l, m, hl, hm, h, hx => by
    have := nval_less x (okl_tail hl) (okl_tail hm) (fun j hj => by rw [← lim_tail, ← lim_tail]; exact h _ (by omega)) (by rw [← lim_tail, ← lim_tail]; exact hx)
    have := lim_lt hl 0
    rw [nval_tail l, nval_tail m]
    omega

end Go.Proofs.YtpncflaoikeidaaGreatDoor.H
namespace Go.Proofs.YtpncflaoikeidaaGreatDoor.H
theorem okl_set {l : List Int} (hl : okl l) (i : Nat) {d : Int} (h0 : 0 ≤ d) (h1 : d < 4294967296) : okl (l.set i d) := fun x hx => by
  rcases List.mem_or_eq_of_mem_set hx with h | rfl
  · exact hl x h
  · exact ⟨h0, h1⟩
theorem lim_set_ne (l : List Int) {i j : Nat} (d : Int) (h : i ≠ j) : lim (l.set i d) j = lim l j := by
  unfold lim; rw [List.getD_eq_getElem?_getD, List.getD_eq_getElem?_getD, List.getElem?_set_ne h]
theorem nval_set : ∀ (l : List Int) (i : Nat) (d : Int), i < l.length → nval (l.set i d) + 4294967296 ^ i * lim l i = nval l + 4294967296 ^ i * d.toNat
  | [], i, d, h => by simp at h
  | x :: l, 0, d, h => by simp [nval, lim]; omega
  | x :: l, i + 1, d, h => by
    have ih := nval_set l i d (by simpa using h)
    have e : lim (x :: l) (i + 1) = lim l i := rfl
    simp only [List.set_cons_succ, nval, e]
    have h2 : 4294967296 * (nval (l.set i d) + 4294967296 ^ i * lim l i) = 4294967296 * (nval l + 4294967296 ^ i * d.toNat) := by rw [ih]
    rw [Nat.mul_add, Nat.mul_add] at h2
    rw [show 4294967296 ^ (i + 1) = 4294967296 * 4294967296 ^ i from Nat.pow_succ', Nat.mul_assoc, Nat.mul_assoc]
    omega
def takeU (q : Nat) (us vs : List Int) (j : Nat) : Nat → List Int × Nat × Nat
  | 0 => (us, 0, 0)
  | k + 1 =>
    let s := takeU q us vs j k
    let t := q * lim vs k + s.2.1
    (s.1.set (j + k) (((lim s.1 (j + k) : Int) - (t % 4294967296 : Nat) - (s.2.2 : Nat)) % 4294967296), t / 4294967296, if lim s.1 (j + k) < t % 4294967296 + s.2.2 then 1 else 0)
structure TakeOk (q : Nat) (us vs : List Int) (j k : Nat) (s : List Int × Nat × Nat) : Prop where
  len : s.1.length = us.length
  ok : okl s.1
  c : s.2.1 < 4294967296
  b : s.2.2 ≤ 1
  far : ∀ i, (i < j ∨ j + k ≤ i) → lim s.1 i = lim us i
  val : nval s.1 + 4294967296 ^ j * (q * nval (vs.take k)) = nval us + 4294967296 ^ (j + k) * (s.2.2 + s.2.1)
theorem take_ok {q : Nat} (hq : q < 4294967296) {us vs : List Int} (hu : okl us) (hv : okl vs) {j : Nat} : ∀ k, j + k ≤ us.length → TakeOk q us vs j k (takeU q us vs j k)
  | 0, _ => ⟨rfl, hu, by simp [takeU], by simp [takeU], fun _ _ => rfl, by simp [takeU, nval]⟩
  | k + 1, hk => by
    have ih := take_ok hq hu hv (j := j) k (by omega)
    have hlv := lim_lt hv k
    obtain ⟨s, hs⟩ : ∃ s, takeU q us vs j k = s := ⟨_, rfl⟩
    rw [hs] at ih
    have hmul : q * lim vs k ≤ 4294967295 * 4294967295 := Nat.mul_le_mul (by omega) (by omega)
    have hc := ih.c
    have hb := ih.b
    have hx := lim_lt ih.ok (j + k)
    have hv2 := ih.val
    simp only [takeU, hs]
    obtain ⟨t, ht⟩ : ∃ t, q * lim vs k + s.2.1 = t := ⟨_, rfl⟩
    obtain ⟨x, hxe⟩ : ∃ x, lim s.1 (j + k) = x := ⟨_, rfl⟩
    rw [ht, hxe]
    rw [hxe] at hx
    obtain ⟨d, hd⟩ : ∃ d : Int, ((x : Int) - (t % 4294967296 : Nat) - (s.2.2 : Nat)) % 4294967296 = d := ⟨_, rfl⟩
    rw [hd]
    obtain ⟨b', hb'⟩ : ∃ b', (if x < t % 4294967296 + s.2.2 then 1 else 0 : Nat) = b' := ⟨_, rfl⟩
    rw [hb']
    have hd0 : 0 ≤ d ∧ d < 4294967296 := by omega
    have key : d.toNat + q * lim vs k + s.2.1 + s.2.2 = x + 4294967296 * (b' + t / 4294967296) := by
      rw [← hb']; split <;> omega
    have hset := nval_set s.1 (j + k) d (by rw [ih.len]; omega)
    rw [hxe] at hset
    refine ⟨by rw [List.length_set]; exact ih.len, okl_set ih.ok _ hd0.1 hd0.2, by show t / 4294967296 < _; omega, by show b' ≤ 1; rw [← hb']; split <;> omega, fun i hi => ?_, ?_⟩
    · show lim (s.1.set (j + k) d) i = _
      rw [lim_set_ne _ _ (by omega)]
      exact ih.far i (by omega)
    · show nval (s.1.set (j + k) d) + _ = _ + _ * (b' + t / 4294967296)
      rw [nval_take, ← Nat.add_assoc, Nat.pow_succ, Nat.mul_assoc (4294967296 ^ (j + k)), Nat.mul_add q, Nat.mul_add (4294967296 ^ j), ← Nat.mul_assoc q, Nat.mul_comm q (4294967296 ^ k), Nat.mul_assoc (4294967296 ^ k), ← Nat.mul_assoc (4294967296 ^ j) (4294967296 ^ k), ← Nat.pow_add]
      have h3 : 4294967296 ^ (j + k) * (d.toNat + q * lim vs k + s.2.1 + s.2.2) = 4294967296 ^ (j + k) * (x + 4294967296 * (b' + t / 4294967296)) := by rw [key]
      simp only [Nat.mul_add] at h3 hv2 ⊢
      omega
/-- .. and the limb behind the last -/
def takeF (q : Nat) (us vs : List Int) (j : Nat) : List Int × Nat :=
  let s := takeU q us vs j vs.length
  (s.1.set (j + vs.length) (((lim s.1 (j + vs.length) : Int) - (s.2.1 : Nat) - (s.2.2 : Nat)) % 4294967296), if lim s.1 (j + vs.length) < s.2.1 + s.2.2 then 1 else 0)
structure TakenOk (q : Nat) (us vs : List Int) (j : Nat) (s : List Int × Nat) : Prop where
  len : s.1.length = us.length
  ok : okl s.1
  b : s.2 ≤ 1
  far : ∀ i, (i < j ∨ j + vs.length + 1 ≤ i) → lim s.1 i = lim us i
  val : nval s.1 + 4294967296 ^ j * (q * nval vs) = nval us + 4294967296 ^ (j + vs.length + 1) * s.2
theorem taken_ok {q : Nat} (hq : q < 4294967296) {us vs : List Int} (hu : okl us) (hv : okl vs) {j : Nat} (hj : j + vs.length < us.length) : TakenOk q us vs j (takeF q us vs j) := by
  have ih := take_ok hq hu hv (j := j) vs.length (by omega)
  obtain ⟨s, hs⟩ : ∃ s, takeU q us vs j vs.length = s := ⟨_, rfl⟩
  rw [hs] at ih
  have hc := ih.c
  have hb := ih.b
  have hx := lim_lt ih.ok (j + vs.length)
  have hv2 := ih.val
  simp only [takeF, hs]
  obtain ⟨x, hxe⟩ : ∃ x, lim s.1 (j + vs.length) = x := ⟨_, rfl⟩
  rw [hxe]
  rw [hxe] at hx
  obtain ⟨d, hd⟩ : ∃ d : Int, ((x : Int) - (s.2.1 : Nat) - (s.2.2 : Nat)) % 4294967296 = d := ⟨_, rfl⟩
  rw [hd]
  obtain ⟨b', hb'⟩ : ∃ b', (if x < s.2.1 + s.2.2 then 1 else 0 : Nat) = b' := ⟨_, rfl⟩
  rw [hb']
  have hd0 : 0 ≤ d ∧ d < 4294967296 := by omega
  have key : d.toNat + s.2.1 + s.2.2 = x + 4294967296 * b' := by rw [← hb']; split <;> omega
  have hset := nval_set s.1 (j + vs.length) d (by rw [ih.len]; omega)
  rw [hxe] at hset
  refine ⟨by rw [List.length_set]; exact ih.len, okl_set ih.ok _ hd0.1 hd0.2, by show b' ≤ 1; rw [← hb']; split <;> omega, fun i hi => ?_, ?_⟩
  · show lim (s.1.set (j + vs.length) d) i = _
    rw [lim_set_ne _ _ (by omega)]
    exact ih.far i (by omega)
  · show nval (s.1.set (j + vs.length) d) + _ = _ + _ * b'
    rw [List.take_length] at hv2
    rw [Nat.pow_succ, Nat.mul_assoc (4294967296 ^ (j + vs.length))]
    have h3 : 4294967296 ^ (j + vs.length) * (d.toNat + s.2.1 + s.2.2) = 4294967296 ^ (j + vs.length) * (x + 4294967296 * b') := by rw [key]
    simp only [Nat.mul_add] at h3 hv2 ⊢
    omega
def backU (us vs : List Int) (j : Nat) : Nat → List Int × Nat
  | 0 => (us, 0)
  | k + 1 =>
    let s := backU us vs j k
    let t := lim s.1 (j + k) + lim vs k + s.2
    (s.1.set (j + k) ((t % 4294967296 : Nat) : Int), t / 4294967296)
structure BackOk (us vs : List Int) (j k : Nat) (s : List Int × Nat) : Prop where
  len : s.1.length = us.length
  ok : okl s.1
  c : s.2 ≤ 1
  far : ∀ i, (i < j ∨ j + k ≤ i) → lim s.1 i = lim us i
  val : nval s.1 + 4294967296 ^ (j + k) * s.2 = nval us + 4294967296 ^ j * nval (vs.take k)
theorem back_ok {us vs : List Int} (hu : okl us) (hv : okl vs) {j : Nat} : ∀ k, j + k ≤ us.length → BackOk us vs j k (backU us vs j k)
  | 0, _ => ⟨rfl, hu, by simp [backU], fun _ _ => rfl, by simp [backU, nval]⟩
  | k + 1, hk => by
    have ih := back_ok hu hv (j := j) k (by omega)
    have hlv := lim_lt hv k
    obtain ⟨s, hs⟩ : ∃ s, backU us vs j k = s := ⟨_, rfl⟩
    rw [hs] at ih
    have hc := ih.c
    have hx := lim_lt ih.ok (j + k)
    have hv2 := ih.val
    simp only [backU, hs]
    obtain ⟨x, hxe⟩ : ∃ x, lim s.1 (j + k) = x := ⟨_, rfl⟩
    rw [hxe]
    rw [hxe] at hx
    obtain ⟨t, ht⟩ : ∃ t, x + lim vs k + s.2 = t := ⟨_, rfl⟩
    rw [ht]
    have hset := nval_set s.1 (j + k) ((t % 4294967296 : Nat) : Int) (by rw [ih.len]; omega)
    rw [hxe, Int.toNat_natCast] at hset
    refine ⟨by rw [List.length_set]; exact ih.len, okl_set ih.ok _ (by omega) (by omega), by show t / 4294967296 ≤ 1; omega, fun i hi => ?_, ?_⟩
    · show lim (s.1.set (j + k) _) i = _
      rw [lim_set_ne _ _ (by omega)]
      exact ih.far i (by omega)
    · show nval (s.1.set (j + k) _) + _ * (t / 4294967296) = _
      rw [nval_take, ← Nat.add_assoc, Nat.pow_succ, Nat.mul_assoc (4294967296 ^ (j + k)), Nat.mul_add (4294967296 ^ j), ← Nat.mul_assoc (4294967296 ^ j) (4294967296 ^ k), ← Nat.pow_add]
      have h3 : 4294967296 ^ (j + k) * (x + lim vs k + s.2) = 4294967296 ^ (j + k) * (t % 4294967296 + 4294967296 * (t / 4294967296)) := by rw [ht, Nat.mod_add_div]
      simp only [Nat.mul_add] at h3 hv2 ⊢
      omega
def backF (us vs : List Int) (j : Nat) : List Int :=
  let s := backU us vs j vs.length
  s.1.set (j + vs.length) (((lim s.1 (j + vs.length) + s.2) % 4294967296 : Nat) : Int)
structure GivenOk (us vs : List Int) (j : Nat) (s : List Int) : Prop where
  len : s.length = us.length
  ok : okl s
  far : ∀ i, (i < j ∨ j + vs.length + 1 ≤ i) → lim s i = lim us i
  val : ∃ c, nval s + 4294967296 ^ (j + vs.length + 1) * c = nval us + 4294967296 ^ j * nval vs
theorem given_ok {us vs : List Int} (hu : okl us) (hv : okl vs) {j : Nat} (hj : j + vs.length < us.length) : GivenOk us vs j (backF us vs j) := by
  have ih := back_ok hu hv (j := j) vs.length (by omega)
  obtain ⟨s, hs⟩ : ∃ s, backU us vs j vs.length = s := ⟨_, rfl⟩
  rw [hs] at ih
  have hv2 := ih.val
  simp only [backF, hs]
  obtain ⟨t, ht⟩ : ∃ t, lim s.1 (j + vs.length) + s.2 = t := ⟨_, rfl⟩
  rw [ht]
  have hset := nval_set s.1 (j + vs.length) ((t % 4294967296 : Nat) : Int) (by rw [ih.len]; omega)
  rw [Int.toNat_natCast] at hset
  refine ⟨by rw [List.length_set]; exact ih.len, okl_set ih.ok _ (by omega) (by omega), fun i hi => ?_, t / 4294967296, ?_⟩
  · rw [lim_set_ne _ _ (by omega)]
    exact ih.far i (by omega)
  · rw [List.take_length] at hv2
    rw [Nat.pow_succ, Nat.mul_assoc (4294967296 ^ (j + vs.length))]
    have h3 : 4294967296 ^ (j + vs.length) * (lim s.1 (j + vs.length) + s.2) = 4294967296 ^ (j + vs.length) * (t % 4294967296 + 4294967296 * (t / 4294967296)) := by rw [ht, Nat.mod_add_div]
    simp only [Nat.mul_add] at h3 hv2 ⊢
    omega
structure GuessOk (u2 u1 u0 v1 v0 q : Nat) : Prop where
  lt : q < 4294967296
  le : q * (v1 * 4294967296 + v0) ≤ (u2 * 4294967296 + u1) * 4294967296 + u0
  most : ∀ t, t < 4294967296 → t * (v1 * 4294967296 + v0) ≤ (u2 * 4294967296 + u1) * 4294967296 + u0 → t ≤ q
theorem nval_cut : ∀ (l : List Int) (j : Nat), nval l = nval (l.take j) + 4294967296 ^ (min j l.length) * nval (l.drop j)
  | [], j => by simp [nval]
  | x :: l, 0 => by simp [nval]
  | x :: l, j + 1 => by
    have ih := nval_cut l j
    rw [List.take_succ_cons, List.drop_succ_cons, nval, nval, List.length_cons, Nat.succ_min_succ, Nat.pow_succ']
    rw [Nat.mul_assoc]
    omega
theorem nval_cut' {l : List Int} {j : Nat} (h : j ≤ l.length) : nval l = nval (l.take j) + 4294967296 ^ j * nval (l.drop j) := by
  have := nval_cut l j
  rwa [Nat.min_eq_left h] at this
theorem okl_take {l : List Int} (h : okl l) (j : Nat) : okl (l.take j) := fun x hx => h x (List.mem_of_mem_take hx)
theorem okl_drop {l : List Int} (h : okl l) (j : Nat) : okl (l.drop j) := fun x hx => h x (List.mem_of_mem_drop hx)
theorem lim_drop (l : List Int) (j i : Nat) : lim (l.drop j) i = lim l (j + i) := by
  unfold lim; simp [List.getD_eq_getElem?_getD, List.getElem?_drop]
theorem lim_take {l : List Int} {j i : Nat} (h : i < j) : lim (l.take j) i = lim l i := by
  unfold lim; simp [List.getD_eq_getElem?_getD, List.getElem?_take, h]
theorem lim_take_out {l : List Int} {j i : Nat} (h : j ≤ i) : lim (l.take j) i = 0 := lim_out (by rw [List.length_take]; omega)
theorem nval_take_lt {l : List Int} (h : okl l) (j : Nat) : nval (l.take j) < 4294967296 ^ j := by
  have h1 := nval_lt (okl_take h j)
  exact Nat.lt_of_lt_of_le h1 (Nat.pow_le_pow_right (by decide) (by rw [List.length_take]; omega))
theorem nval_drop_succ (l : List Int) (j : Nat) : nval (l.drop j) = lim l j + 4294967296 * nval (l.drop (j + 1)) := by
  rw [nval_tail (l.drop j), lim_drop, Nat.add_zero, List.tail_drop]
/-- limbs are as big as they say -/
theorem lim_le_nval (l : List Int) : ∀ i, 4294967296 ^ i * lim l i ≤ nval l
  | 0 => by rw [nval_tail l]; omega
  | i + 1 => by
    have := lim_le_nval l.tail i
    rw [nval_tail l, lim_tail, Nat.pow_succ', Nat.mul_assoc]
    omega
structure Div1 (n : Nat) (us vs : List Int) (j : Nat) : Prop where
  ou : okl us
  ov : okl vs
  lv : vs.length = n + 2
  lu : j + n + 2 < us.length
  top : 2147483648 ≤ lim vs (n + 1)
  less : nval (us.drop (j + 1)) < nval vs
theorem Div1.small {n j : Nat} {us vs : List Int} (h : Div1 n us vs j) : nval (us.drop j) < 4294967296 * nval vs := by
  rw [nval_drop_succ]; have := lim_lt h.ou j; have := h.less; omega
theorem Div1.vlt {n j : Nat} {us vs : List Int} (h : Div1 n us vs j) : nval vs < 4294967296 ^ (n + 2) := by
  have := nval_lt h.ov; rwa [h.lv] at this
theorem Div1.ule {n j : Nat} {us vs : List Int} (h : Div1 n us vs j) : lim us (j + n + 2) ≤ lim vs (n + 1) := by
  have h1 := lim_le_nval (us.drop (j + 1)) (n + 1)
  rw [lim_drop, show j + 1 + (n + 1) = j + n + 2 by omega] at h1
  have h2 := nval_cut' (l := vs) (j := n + 1) (by rw [h.lv]; omega)
  have h3 := nval_take_lt h.ov (n + 1)
  have h4 : nval (vs.drop (n + 1)) = lim vs (n + 1) := by
    rw [nval_drop_succ, List.drop_of_length_le (by rw [h.lv]; omega)]; simp [nval]
  rw [h4] at h2
  have h5 := h.less
  rcases Nat.lt_or_ge (lim vs (n + 1)) (lim us (j + n + 2)) with h6 | h6
  · exfalso
    have h7 : 4294967296 ^ (n + 1) * (lim vs (n + 1) + 1) ≤ 4294967296 ^ (n + 1) * lim us (j + n + 2) := Nat.mul_le_mul_left _ h6
    rw [Nat.mul_add, Nat.mul_one] at h7
    omega
  · exact h6
/-- above the part all is nought -/
theorem Div1.high {n j : Nat} {us vs : List Int} (h : Div1 n us vs j) : nval (us.drop (j + n + 3)) = 0 := by
  have h1 := h.small
  have h2 := h.vlt
  have h3 := nval_cut' (l := us.drop j) (j := n + 3) (by rw [List.length_drop]; have := h.lu; omega)
  rw [List.drop_drop, show j + (n + 3) = j + n + 3 by omega] at h3
  have h4 : 4294967296 * nval vs < 4294967296 ^ (n + 3) := by
    rw [Nat.pow_succ' (n := n + 2)]; exact Nat.mul_lt_mul_of_pos_left h2 (by decide)
  rcases Nat.eq_zero_or_pos (nval (us.drop (j + n + 3))) with h5 | h5
  · exact h5
  · exfalso
    have : 4294967296 ^ (n + 3) * 1 ≤ 4294967296 ^ (n + 3) * nval (us.drop (j + n + 3)) := Nat.mul_le_mul_left _ h5
    omega
/-- what the guess looks at, and what it doesn't -/
theorem Div1.split {n j : Nat} {us vs : List Int} (h : Div1 n us vs j) : ∃ low vlow, low < 4294967296 ^ n ∧ vlow < 4294967296 ^ n ∧
    nval (us.drop j) = 4294967296 ^ n * ((lim us (j + n + 2) * 4294967296 + lim us (j + n + 1)) * 4294967296 + lim us (j + n)) + low ∧
    nval vs = 4294967296 ^ n * (lim vs (n + 1) * 4294967296 + lim vs n) + vlow := by
  have h0 := h.high
  have hu : nval (us.drop (j + n)) = (lim us (j + n + 2) * 4294967296 + lim us (j + n + 1)) * 4294967296 + lim us (j + n) := by
    rw [nval_drop_succ us (j + n), nval_drop_succ us (j + n + 1), nval_drop_succ us (j + n + 1 + 1), show j + n + 1 + 1 + 1 = j + n + 3 by omega, h0, show j + n + 1 + 1 = j + n + 2 by omega]
    omega
  have hv : nval (vs.drop n) = lim vs (n + 1) * 4294967296 + lim vs n := by
    rw [nval_drop_succ vs n, nval_drop_succ vs (n + 1), List.drop_of_length_le (by rw [h.lv]; omega)]
    simp only [nval]; omega
  have h3 := nval_cut' (l := us.drop j) (j := n) (by rw [List.length_drop]; have := h.lu; omega)
  have h4 := nval_cut' (l := vs) (j := n) (by rw [h.lv]; omega)
  rw [List.drop_drop, hu] at h3
  rw [hv] at h4
  exact ⟨_, _, nval_take_lt (okl_drop h.ou j) n, nval_take_lt h.ov n, by omega, by omega⟩
/-- one round's outcome: t times vs taken at j -/
structure Round (us vs : List Int) (j t : Nat) (us' : List Int) : Prop where
  len : us'.length = us.length
  ok : okl us'
  lt : t < 4294967296
  eq : nval us' + 4294967296 ^ j * (t * nval vs) = nval us
  less : nval (us'.drop j) < nval vs
theorem take_same {us us' : List Int} {j : Nat} (h : ∀ i, i < j → lim us' i = lim us i) : nval (us'.take j) = nval (us.take j) :=
  nval_eq (fun i => by
    rcases Nat.lt_or_ge i j with hi | hi
    · rw [lim_take hi, lim_take hi, h i hi]
    · rw [lim_take_out hi, lim_take_out hi])
theorem drop_same {us us' : List Int} {j : Nat} (h : ∀ i, j ≤ i → lim us' i = lim us i) : nval (us'.drop j) = nval (us.drop j) :=
  nval_eq (fun i => by rw [lim_drop, lim_drop, h _ (by omega)])
/-- a part of n + 3 limbs at j, the rest the same -/
theorem part_eq {n j : Nat} {us us' : List Int} (hok : okl us') (hl : us'.length = us.length) (hj : j + n + 2 < us.length) (hh : nval (us.drop (j + n + 3)) = 0)
    (hf : ∀ i, (i < j ∨ j + n + 3 ≤ i) → lim us' i = lim us i) {x y : Nat} (he : nval us' + 4294967296 ^ j * x = nval us + 4294967296 ^ j * y) :
    nval (us'.drop j) + x = nval (us.drop j) + y ∧ nval (us'.drop j) < 4294967296 ^ (n + 3) ∧ nval (us'.drop (j + n + 3)) = 0 := by
  have h1 := nval_cut' (l := us) (j := j) (by omega)
  have h2 := nval_cut' (l := us') (j := j) (by omega)
  have h3 := take_same (us := us) (us' := us') (j := j) (fun i hi => hf i (.inl hi))
  have h4 := drop_same (us := us) (us' := us') (j := j + n + 3) (fun i hi => hf i (.inr hi))
  rw [hh] at h4
  have h5 := nval_cut' (l := us'.drop j) (j := n + 3) (by rw [List.length_drop]; omega)
  rw [List.drop_drop, show j + (n + 3) = j + n + 3 by omega, h4, Nat.mul_zero, Nat.add_zero] at h5
  have h6 := nval_take_lt (okl_drop hok j) (n + 3)
  refine ⟨?_, by omega, h4⟩
  have h7 : 4294967296 ^ j * (nval (us'.drop j) + x) = 4294967296 ^ j * (nval (us.drop j) + y) := by
    rw [Nat.mul_add, Nat.mul_add]; omega
  exact Nat.eq_of_mul_eq_mul_left (Nat.pow_pos (by decide)) h7
theorem round_nums {P V U W low vlow Bn g : Nat} (e1 : P = Bn * U + low) (e2 : V = Bn * W + vlow) (_l1 : low < Bn) (_l2 : vlow < Bn) (htop : Bn * 4294967296 ≤ V) (hm : P < 4294967296 * V)
    (hle : g * W ≤ U) (hmost : ∀ t, t < 4294967296 → t * W ≤ U → t ≤ g) (hglt : g < 4294967296) : g * V < P + V ∧ ∀ t, t * V ≤ P → t ≤ g := by
  constructor
  · have a1 : g * V = Bn * (g * W) + g * vlow := by rw [e2, Nat.mul_add, Nat.mul_left_comm]
    have a2 : Bn * (g * W) ≤ Bn * U := Nat.mul_le_mul_left _ hle
    have a3 : g * vlow ≤ 4294967295 * vlow := Nat.mul_le_mul_right _ (by omega)
    omega
  · intro t ht
    refine hmost t ?_ ?_
    · refine Nat.lt_of_not_le fun hc => ?_
      have := Nat.mul_le_mul_right V hc
      omega
    · refine Nat.lt_succ_iff.1 (Nat.lt_of_mul_lt_mul_left (a := Bn) ?_)
      have a1 : t * V = Bn * (t * W) + t * vlow := by rw [e2, Nat.mul_add, Nat.mul_left_comm]
      rw [Nat.succ_eq_add_one, Nat.mul_add]
      omega
/-- no borrow -/
theorem round_fit {P V g P1 : Nat} (h2 : ∀ t, t * V ≤ P → t ≤ g) (q1 : P1 + g * V = P) : P1 < V := by
  refine Nat.lt_of_not_le fun hc => ?_
  have := h2 (g + 1) (by rw [Nat.add_mul]; omega)
  omega
/-- a borrow -/
theorem round_back {P V g P1 P2 c B3 : Nat} (h1 : g * V < P + V) (q1 : P1 + g * V = P + B3) (q2 : P1 < B3) (r1 : P2 + B3 * c = P1 + V) (r2 : P2 < B3) (hV : V < B3) : 1 ≤ g ∧ P2 < V ∧ c = 1 ∧ (g - 1) * V + V = g * V := by
  have g3 : P < g * V := by omega
  have g0 : 1 ≤ g := by
    rcases Nat.eq_zero_or_pos g with h5 | h5
    · subst h5; omega
    · exact h5
  have g4 : (g - 1) * V + V = g * V := by
    conv => rhs; rw [show g = g - 1 + 1 by omega, Nat.add_mul, Nat.one_mul]
  have c1 : c = 1 := by
    rcases Nat.lt_trichotomy c 1 with h6 | h6 | h6
    · exfalso
      have : c = 0 := by omega
      subst this; omega
    · exact h6
    · exfalso
      have h7 : B3 * 2 ≤ B3 * c := Nat.mul_le_mul_left B3 h6
      omega
  subst c1
  refine ⟨g0, by omega, rfl, g4⟩
theorem round_ok {n j g : Nat} {us vs : List Int} (h : Div1 n us vs j) (hg : GuessOk (lim us (j + n + 2)) (lim us (j + n + 1)) (lim us (j + n)) (lim vs (n + 1)) (lim vs n) g) :
    ((takeF g us vs j).2 = 0 → Round us vs j g (takeF g us vs j).1) ∧ ((takeF g us vs j).2 ≠ 0 → 1 ≤ g ∧ Round us vs j (g - 1) (backF (takeF g us vs j).1 vs j)) := by
  have hjl := h.lu
  have ht := taken_ok hg.lt h.ou h.ov (j := j) (by rw [h.lv]; omega)
  obtain ⟨s, hs⟩ : ∃ s, takeF g us vs j = s := ⟨_, rfl⟩
  rw [hs] at ht
  rw [hs]
  have hb := given_ok ht.ok h.ov (j := j) (by rw [h.lv, ht.len]; omega)
  have hfar := ht.far
  have hval := ht.val
  obtain ⟨us2, hs2⟩ : ∃ us2, backF s.1 vs j = us2 := ⟨_, rfl⟩
  rw [hs2] at hb
  rw [hs2]
  have hfar2 := hb.far
  obtain ⟨c, hval2⟩ := hb.val
  rw [h.lv] at hfar hval hfar2 hval2
  have hh := h.high
  have e3 : j + (n + 2) + 1 = j + n + 3 := by omega
  have p3 : 4294967296 ^ (j + n + 3) = 4294967296 ^ j * 4294967296 ^ (n + 3) := by rw [Nat.add_assoc, Nat.pow_add]
  rw [e3] at hfar hval hfar2 hval2
  rw [p3, Nat.mul_assoc] at hval hval2
  obtain ⟨q1, q2, q3⟩ := part_eq ht.ok ht.len (by omega) hh hfar hval
  obtain ⟨low, vlow, l1, l2, e1, e2⟩ := h.split
  have htop : 4294967296 ^ n * 4294967296 ≤ nval vs := by
    rw [e2]
    have := Nat.mul_le_mul_left (4294967296 ^ n) (show 4294967296 ≤ lim vs (n + 1) * 4294967296 + lim vs n by have := h.top; omega)
    omega
  obtain ⟨g1, g2⟩ := round_nums e1 e2 l1 l2 htop h.small hg.le hg.most hg.lt
  have hb1 := ht.b
  constructor
  · intro h0
    rw [h0, Nat.mul_zero, Nat.add_zero] at q1
    rw [h0, Nat.mul_zero, Nat.mul_zero, Nat.add_zero] at hval
    exact ⟨ht.len, ht.ok, hg.lt, hval, round_fit g2 q1⟩
  · intro h0
    have h1 : s.2 = 1 := by omega
    rw [h1, Nat.mul_one] at q1 hval
    obtain ⟨r1, r2, _⟩ := part_eq (us := s.1) hb.ok hb.len (by rw [ht.len]; omega) q3 hfar2 hval2
    obtain ⟨g0, hl, c1, g4⟩ := round_back g1 q1 q2 r1 r2 (Nat.lt_of_lt_of_le h.vlt (Nat.pow_le_pow_right (by decide) (by omega)))
    have hglt := hg.lt
    refine ⟨g0, ⟨hb.len.trans ht.len, hb.ok, by omega, ?_, hl⟩⟩
    have h7 : 4294967296 ^ j * ((g - 1) * nval vs) + 4294967296 ^ j * nval vs = 4294967296 ^ j * (g * nval vs) := by rw [← Nat.mul_add, g4]
    rw [c1, Nat.mul_one] at hval2
    omega
/-- the state of the division with k rounds to go -/
structure DivInv (n la : Nat) (vs : List Int) (X : Nat) (k : Nat) (us qs : List Int) : Prop where
  ou : okl us
  oq : okl qs
  lu : us.length = la + 1
  lq : qs.length + (n + 2) = la + 1
  kq : k ≤ qs.length
  eq : nval us + nval vs * nval qs = X
  less : nval (us.drop k) < nval vs
  zero : ∀ i, i < k → lim qs i = 0
theorem DivInv.next {n la X k t : Nat} {vs us qs us' : List Int} (h : DivInv n la vs X (k + 1) us qs) (r : Round us vs k t us') : DivInv n la vs X k us' (qs.set k ((t : Nat) : Int)) := by
  have hs := nval_set qs k ((t : Nat) : Int) (by have := h.kq; omega)
  rw [h.zero k (by omega), Nat.mul_zero, Nat.add_zero, Int.toNat_natCast] at hs
  refine ⟨r.ok, okl_set h.oq _ (by omega) (by have := r.lt; omega), by rw [r.len, h.lu], by rw [List.length_set, h.lq], by rw [List.length_set]; have := h.kq; omega, ?_, r.less, fun i hi => ?_⟩
  · rw [hs, Nat.mul_add, ← h.eq, ← r.eq, Nat.mul_left_comm (nval vs), Nat.mul_comm (nval vs) t]
    omega
  · rw [lim_set_ne _ _ (by omega)]
    exact h.zero i (by omega)
theorem DivInv.done {n la X : Nat} {vs us qs : List Int} (h : DivInv n la vs X 0 us qs) : nval qs = X / nval vs ∧ nval us = X % nval vs := by
  have h1 := h.less
  rw [List.drop_zero] at h1
  rw [← h.eq]
  constructor
  · rw [Nat.add_mul_div_left _ _ (by omega), Nat.div_eq_of_lt h1, Nat.zero_add]
  · rw [Nat.add_mul_mod_self_left, Nat.mod_eq_of_lt h1]
/-- noughts -/
theorem nval_zeros : ∀ m, nval (List.replicate m 0) = 0
  | 0 => rfl
  | m + 1 => by rw [List.replicate_succ, nval, nval_zeros m]; rfl
theorem lim_zeros (m i : Nat) : lim (List.replicate m 0) i = 0 := by
  unfold lim; rw [List.getD_eq_getElem?_getD, List.getElem?_replicate]; split <;> rfl
theorem okl_zeros (m : Nat) : okl (List.replicate m 0) := fun x hx => by rw [List.eq_of_mem_replicate hx]; omega
theorem DivInv.start {n s a b : Nat} {vs us : List Int} {M : Nat} (hla : (limbs a).length + 1 = M + (n + 2)) (ou : okl us) (hlu : us.length = (limbs a).length + 1) (hu : nval us = a * 2 ^ s) (hs : s ≤ 31)
    (hv : vs = limbs (b * 2 ^ s)) (htop : 2147483648 * 4294967296 ^ (n + 1) ≤ b * 2 ^ s) : DivInv n (limbs a).length vs (a * 2 ^ s) M us (List.replicate M 0) := by
  have ha := nval_lt (okl_limbs a)
  rw [nval_limbs] at ha
  refine ⟨ou, okl_zeros M, hlu, by rw [List.length_replicate]; omega, by rw [List.length_replicate]; omega, by rw [nval_zeros, hu]; omega, ?_, fun i _ => lim_zeros M i⟩
  have h1 := nval_cut' (l := us) (j := M) (by omega)
  rw [hv, nval_limbs]
  refine Nat.lt_of_lt_of_le ?_ htop
  have h2 : a * 2 ^ s < 4294967296 ^ (limbs a).length * 2 ^ s := Nat.mul_lt_mul_of_pos_right ha (Nat.two_pow_pos s)
  have h3 : 4294967296 ^ (limbs a).length * 2 ^ s ≤ 4294967296 ^ (limbs a).length * 2147483648 := Nat.mul_le_mul_left _ (Nat.pow_le_pow_right (by decide : 0 < 2) hs)
  have h4 : 4294967296 ^ (limbs a).length = 4294967296 ^ M * 4294967296 ^ (n + 1) := by rw [← Nat.pow_add]; congr 1; omega
  have h5 : 4294967296 ^ (limbs a).length * 2147483648 = 4294967296 ^ M * (2147483648 * 4294967296 ^ (n + 1)) := by rw [h4, Nat.mul_assoc, Nat.mul_comm (4294967296 ^ (n + 1)) 2147483648]
  exact Nat.lt_of_mul_lt_mul_left (a := 4294967296 ^ M) (by omega)
theorem limbs_pad {x m : Nat} (_h : (limbs x).length ≤ m) : okl (limbs x ++ List.replicate (m - (limbs x).length) 0) ∧ nval (limbs x ++ List.replicate (m - (limbs x).length) 0) = x := by
  refine ⟨okl_append.2 ⟨okl_limbs x, okl_zeros _⟩, ?_⟩
  rw [nval_append, nval_zeros, nval_limbs]; omega
end Go.Proofs.YtpncflaoikeidaaGreatDoor.H
namespace Go.Proofs
open Go.Shelf
def Tryz.lays169_ren : Go.Shelf.Ren := ⟨fun | 169 => 48 | n => n, fun | 70 => 74 | 9 => 9 | 0 => 0 | 72 => 77 | 37 => 75 | 127 => 125 | 3 => 3 | 5 => 5 | n => n, fun | n => n⟩
theorem Tryz.lays169 : Go.Proofs.Lays.n169 Tryz.prog Tryz.lays169_ren := {
  mixed := by kernel_rfl
  f169 := Tryz.func48.trans (congrArg some (by kernel_rfl))
  t0 := Tryz.underlying0
  a0 := Tryz.isAgg0
  z0 := Tryz.sizeOf0
  v0 := Tryz.zeroValue0
  t3 := Tryz.underlying3
  a3 := Tryz.isAgg3
  z3 := Tryz.sizeOf3
  v3 := Tryz.zeroValue3
  t9 := Tryz.underlying9
  a9 := Tryz.isAgg9
  z9 := Tryz.sizeOf9
  v9 := Tryz.zeroValue9
  t37 := Tryz.underlying75
  a37 := Tryz.isAgg75
  z37 := Tryz.sizeOf75
  v37 := Tryz.zeroValue75
  t70 := Tryz.underlying74
  a70 := Tryz.isAgg74
  z70 := Tryz.sizeOf74
  v70 := Tryz.zeroValue74
  t72 := Tryz.underlying77
  a72 := Tryz.isAgg77
  z72 := Tryz.sizeOf77
  v72 := Tryz.zeroValue77
  t127 := Tryz.underlying125
  a127 := Tryz.isAgg125
  z127 := Tryz.sizeOf125
  v127 := Tryz.zeroValue125 }
theorem Tryz.Builder_Extra_169 : Builder.Extra Tryz.prog Tryz.lays169_ren := {
  sizeBuilder := by kernel_rfl
  liesBuilder := by kernel_rfl
  t5 := Tryz.underlying5
  a5 := Tryz.isAgg5
  z5 := Tryz.sizeOf5
  v5 := Tryz.zeroValue5
  infoByte := by kernel_rfl
  cellsByte := by kernel_rfl
  sizeByte := by kernel_rfl
  neB5 := by decide }
def Tryz.lays128_ren : Go.Shelf.Ren := ⟨fun | 128 => 123 | n => n, fun | 51 => 56 | 3 => 3 | 4 => 4 | 46 => 118 | 5 => 5 | 9 => 9 | n => n, fun | n => n⟩
theorem Tryz.lays128 : Go.Proofs.Lays.n128 Tryz.prog Tryz.lays128_ren := {
  mixed := by kernel_rfl
  f128 := Tryz.func123.trans (congrArg some (by kernel_rfl))
  t3 := Tryz.underlying3
  a3 := Tryz.isAgg3
  z3 := Tryz.sizeOf3
  v3 := Tryz.zeroValue3
  t4 := Tryz.underlying4
  a4 := Tryz.isAgg4
  z4 := Tryz.sizeOf4
  v4 := Tryz.zeroValue4
  t5 := Tryz.underlying5
  a5 := Tryz.isAgg5
  z5 := Tryz.sizeOf5
  v5 := Tryz.zeroValue5
  t9 := Tryz.underlying9
  a9 := Tryz.isAgg9
  z9 := Tryz.sizeOf9
  v9 := Tryz.zeroValue9
  t46 := Tryz.underlying118
  a46 := Tryz.isAgg118
  z46 := Tryz.sizeOf118
  v46 := Tryz.zeroValue118
  t51 := Tryz.underlying56
  a51 := Tryz.isAgg56
  z51 := Tryz.sizeOf56
  v51 := Tryz.zeroValue56 }
/-- bits.Len32: "Len32 returns the minimum number of bits required to represent x; the result is 0 for x == 0.": IT RETURNS 'Lib.bitLen x'; the world is as it was. ('h0', 'h1': x is a uint32.) (LAID: no walk: one application.) -/
theorem Tryz.bits_Len32 (x : Int) (w : World) (h0 : 0 ≤ x) (h1 : x ≤ 4294967295) :
    Calls Tryz.prog 123 #[.int .u32 x] w fun e w' => e = .returned (.int .i64 (Lib.bitLen x.toNat)) ∧ w' = w := Any.bits_Len32 Tryz.lays128 x w h0 h1
def Tryz.lays133_ren : Go.Shelf.Ren := ⟨fun | 133 => 147 | 128 => 123 | n => n, fun | 51 => 56 | 3 => 3 | 4 => 4 | 46 => 118 | 5 => 5 | 9 => 9 | n => n, fun | n => n⟩
theorem Tryz.lays133 : Go.Proofs.Lays.n133 Tryz.prog Tryz.lays133_ren := {
  mixed := by kernel_rfl
  f128 := Tryz.func123.trans (congrArg some (by kernel_rfl))
  f133 := Tryz.func147.trans (congrArg some (by kernel_rfl))
  t3 := Tryz.underlying3
  a3 := Tryz.isAgg3
  z3 := Tryz.sizeOf3
  v3 := Tryz.zeroValue3
  t4 := Tryz.underlying4
  a4 := Tryz.isAgg4
  z4 := Tryz.sizeOf4
  v4 := Tryz.zeroValue4
  t5 := Tryz.underlying5
  a5 := Tryz.isAgg5
  z5 := Tryz.sizeOf5
  v5 := Tryz.zeroValue5
  t9 := Tryz.underlying9
  a9 := Tryz.isAgg9
  z9 := Tryz.sizeOf9
  v9 := Tryz.zeroValue9
  t46 := Tryz.underlying118
  a46 := Tryz.isAgg118
  z46 := Tryz.sizeOf118
  v46 := Tryz.zeroValue118
  t51 := Tryz.underlying56
  a51 := Tryz.isAgg56
  z51 := Tryz.sizeOf56
  v51 := Tryz.zeroValue56 }
/-- bits.LeadingZeros32: "LeadingZeros32 returns the number of leading zero bits in x; the result is 32 for x == 0.": IT RETURNS '32 - Lib.bitLen x'; the world is as it was. ITS CALLEE bits.Len32 IS MET BY ITS OWN CONTRACT OFF THE SHELF (lay that first): entered in place it sends the kernel out of memory. (LAID: no walk: one application.) -/
theorem Tryz.bits_LeadingZeros32 (x : Int) (w : World) (h0 : 0 ≤ x) (h1 : x ≤ 4294967295) :
    Calls Tryz.prog 147 #[.int .u32 x] w fun e w' => e = .returned (.int .i64 (32 - (Lib.bitLen x.toNat : Int))) ∧ w' = w := Any.bits_LeadingZeros32 Tryz.lays133 x w h0 h1
open Go.RowKit in
/-- (*strings.Builder).String: "String returns the accumulated string.": OF A BUILDER THAT HOLDS AT LEAST ONE BYTE. ✋ THE MODEL FREEZES THOSE BYTES IN THE BUFFER (unsafe.String): a later write INTO them ends the model's run without an answer; a later append BEHIND them goes on. The statement's order of evaluation is drawn: one draw. THE FORM '_k': OVER 'Lib.IsBuilderF' (a builder that 'String()' may have read), AND WITH THE FRAME THAT REACHES ABOVE THE BUILDER: 'Lib.OthersKept': every block that is not b and is no row of uint8's stands as it stood: the iterator of a range among them. (LAID: no walk: one application.) -/
theorem Tryz.Builder_String_k (B b : Nat) (l : List UInt8) (w : World) (h : Lib.IsBuilderF 77 5 B b (Lib.byteCells l) w) (h0 : l ≠ []) :
    Calls Tryz.prog 48 #[.pointer (some ⟨b, 0, none⟩)] w fun e w' => e = .returned (.string ⟨l.toArray⟩) ∧ (Lib.IsBuilderF 77 5 B b (Lib.byteCells l) w' ∧ Below B w w' ∧ Lib.OthersKept 5 (some b) w w') := Any.Builder_String_k Tryz.lays169 Tryz.Builder_Extra_169 B b l w h h0
def Tryz.lays283_ren : Go.Shelf.Ren := ⟨fun | 283 => 112 | n => n, fun | 3 => 3 | 9 => 9 | 4 => 4 | n => n, fun | n => n⟩
theorem Tryz.lays283 : Go.Proofs.Lays.n283 Tryz.prog Tryz.lays283_ren := {
  mixed := by kernel_rfl
  f283 := Tryz.func112.trans (congrArg some (by kernel_rfl))
  t3 := Tryz.underlying3
  a3 := Tryz.isAgg3
  z3 := Tryz.sizeOf3
  v3 := Tryz.zeroValue3
  t4 := Tryz.underlying4
  a4 := Tryz.isAgg4
  z4 := Tryz.sizeOf4
  v4 := Tryz.zeroValue4
  t9 := Tryz.underlying9
  a9 := Tryz.isAgg9
  z9 := Tryz.sizeOf9
  v9 := Tryz.zeroValue9 }
open Go.Lib in
/-- internal/strconv.small: "small returns the string for an i with 0 <= i < nSmalls.": i's decimal numeral. The world is as it was. (LAID: no walk: one application.) -/
theorem Tryz.internal_strconv_small (i : Nat) (h : i < 100) (w : World) :
    Calls Tryz.prog 112 #[.int .i64 i] w fun e w' => e = .returned (.string ⟨(Lib.decDigits i).toArray⟩) ∧ w' = w := Any.internal_strconv_small Tryz.lays283 i h w
def Tryz.laysM284_ren : Go.Shelf.Ren := ⟨fun | 284 => 113 | 129 => 138 | 317 => 137 | 318 => 139 | n => n, fun | 53 => 60 | 3 => 3 | 212 => 165 | 0 => 0 | 4 => 4 | 46 => 118 | 5 => 5 | 9 => 9 | n => n, fun | 17 => 1 | n => n⟩
theorem Tryz.laysM284 : Go.Proofs.LaysM.n284 Tryz.prog Tryz.laysM284_ren := {
  mixed := by kernel_rfl
  f129 := Tryz.func138.trans (congrArg some (by kernel_rfl))
  f284 := Tryz.func113.trans (congrArg some (by kernel_rfl))
  f317 := Tryz.func137.trans (congrArg some (by kernel_rfl))
  f318 := Tryz.func139.trans (congrArg some (by kernel_rfl))
  t0 := Tryz.underlying0
  a0 := Tryz.isAgg0
  z0 := Tryz.sizeOf0
  v0 := Tryz.zeroValue0
  t3 := Tryz.underlying3
  a3 := Tryz.isAgg3
  z3 := Tryz.sizeOf3
  v3 := Tryz.zeroValue3
  t4 := Tryz.underlying4
  a4 := Tryz.isAgg4
  z4 := Tryz.sizeOf4
  v4 := Tryz.zeroValue4
  t5 := Tryz.underlying5
  a5 := Tryz.isAgg5
  z5 := Tryz.sizeOf5
  v5 := Tryz.zeroValue5
  t9 := Tryz.underlying9
  a9 := Tryz.isAgg9
  z9 := Tryz.sizeOf9
  v9 := Tryz.zeroValue9
  t46 := Tryz.underlying118
  a46 := Tryz.isAgg118
  z46 := Tryz.sizeOf118
  v46 := Tryz.zeroValue118
  t53 := Tryz.underlying60
  a53 := Tryz.isAgg60
  z53 := Tryz.sizeOf60
  v53 := Tryz.zeroValue60
  t212 := Tryz.underlying165
  a212 := Tryz.isAgg165
  z212 := Tryz.sizeOf165
  v212 := Tryz.zeroValue165
  g17 := by kernel_rfl
  i0 := by kernel_rfl
  i3 := by kernel_rfl
  i4 := by kernel_rfl
  i5 := by kernel_rfl
  i9 := by kernel_rfl
  i46 := by kernel_rfl
  i53 := by kernel_rfl
  i212 := by kernel_rfl
  m17 := by kernel_rfl }
open Go.Lib in
/-- internal/strconv.numDigits, at a d that is not 0: THE NUMBER OF d's DECIMAL DIGITS. The world is as it was. (LAID: no walk: one application.) -/
theorem Tryz.internal_strconv_numDigits (u : Nat) (h1 : 1 ≤ u) (h2 : u < 18446744073709551616) (w : World) (htab : Lib.TabIs Tryz.prog w "internal/strconv.uint64pow10" .u64 Lib.pow10Tab) :
    Calls Tryz.prog 113 #[.int .u64 u] w fun e w' => e = .returned (.int .i64 (Lib.nDigits u)) ∧ w' = w := Any.internal_strconv_numDigits Tryz.laysM284 u h1 h2 w htab
def Tryz.lays285_ren : Go.Shelf.Ren := ⟨fun | 285 => 114 | n => n, fun | 37 => 75 | 53 => 60 | 3 => 3 | 4 => 4 | 51 => 56 | 9 => 9 | 5 => 5 | 0 => 0 | n => n, fun | n => n⟩
theorem Tryz.lays285 : Go.Proofs.Lays.n285 Tryz.prog Tryz.lays285_ren := {
  mixed := by kernel_rfl
  f285 := Tryz.func114.trans (congrArg some (by kernel_rfl))
  t0 := Tryz.underlying0
  a0 := Tryz.isAgg0
  z0 := Tryz.sizeOf0
  v0 := Tryz.zeroValue0
  t3 := Tryz.underlying3
  a3 := Tryz.isAgg3
  z3 := Tryz.sizeOf3
  v3 := Tryz.zeroValue3
  t4 := Tryz.underlying4
  a4 := Tryz.isAgg4
  z4 := Tryz.sizeOf4
  v4 := Tryz.zeroValue4
  t5 := Tryz.underlying5
  a5 := Tryz.isAgg5
  z5 := Tryz.sizeOf5
  v5 := Tryz.zeroValue5
  t9 := Tryz.underlying9
  a9 := Tryz.isAgg9
  z9 := Tryz.sizeOf9
  v9 := Tryz.zeroValue9
  t37 := Tryz.underlying75
  a37 := Tryz.isAgg75
  z37 := Tryz.sizeOf75
  v37 := Tryz.zeroValue75
  t51 := Tryz.underlying56
  a51 := Tryz.isAgg56
  z51 := Tryz.sizeOf56
  v51 := Tryz.zeroValue56
  t53 := Tryz.underlying60
  a53 := Tryz.isAgg60
  z53 := Tryz.sizeOf60
  v53 := Tryz.zeroValue60 }
open Go.RowKit Go.Sort Go.Lib in
/-- internal/strconv.formatBase10: "formatBase10 formats the decimal representation of u into a. The caller is responsible for ensuring that a is big enough to hold u. If a is too big, leading zeros will be filled in as needed.": THE ROW HOLDS u's DIGITS ('FmtInv .. 0 ..': every place t holds 'dg u (len - 1 - t)'); all else is as it was but for the count of draws. (LAID: no walk: one application.) -/
theorem Tryz.internal_strconv_formatBase10 (blk off cap : Nat) (u : Nat) (d : Array UInt8) (w : World) (hH : Holds (fun (b : UInt8) => Value.int .u8 (b.toNat : Int)) w blk off d) (hu : u < 10 ^ d.size) (hu64 : u < 18446744073709551616) (hsz : d.size < 4611686018427387904) :
    Calls Tryz.prog 114 #[.slice (some ⟨blk, off, none⟩) d.size cap, .int .u64 u] w fun e w' =>
      e = .returned (.tuple #[]) ∧ ∃ (n v' : Nat) (dk : Array UInt8), w' = (putRow (fun (b : UInt8) => Value.int .u8 (b.toNat : Int)) w blk off dk).drewN n ∧ FmtInv d.size u 0 v' dk := Any.internal_strconv_formatBase10 Tryz.lays285 blk off cap u d w hH hu hu64 hsz
def Tryz.laysPu14_ren : Go.Shelf.Ren := ⟨fun | 14 => 74 | 16 => 108 | 17 => 109 | 19 => 130 | 20 => 131 | 21 => 132 | 22 => 133 | 23 => 134 | 24 => 135 | 25 => 155 | 27 => 157 | 26 => 156 | 28 => 167 | 29 => 169 | 30 => 112 | 31 => 113 | 32 => 114 | 33 => 115 | 35 => 138 | 34 => 137 | 36 => 139 | 37 => 140 | 38 => 141 | 39 => 158 | 40 => 159 | n => n, fun | 9 => 9 | 3 => 3 | 22 => 60 | 24 => 83 | 25 => 112 | 4 => 4 | 34 => 159 | 5 => 5 | 36 => 118 | 37 => 75 | 0 => 0 | 39 => 161 | 21 => 21 | 44 => 178 | 47 => 125 | 50 => 186 | 48 => 184 | 2 => 2 | 52 => 138 | 55 => 141 | 59 => 165 | 60 => 56 | 20 => 20 | 61 => 166 | 65 => 187 | 66 => 188 | 67 => 87 | n => n, fun | 0 => 2 | 1 => 3 | 2 => 1 | 3 => 4 | 4 => 5 | n => n⟩
theorem Tryz.laysPu14 : Go.Proofs.LaysPu.n14 Tryz.prog Tryz.laysPu14_ren := {
  mixed := by kernel_rfl
  f14 := Tryz.func74.trans (congrArg some (by kernel_rfl))
  f16 := Tryz.func108.trans (congrArg some (by kernel_rfl))
  f17 := Tryz.func109.trans (congrArg some (by kernel_rfl))
  f19 := Tryz.func130.trans (congrArg some (by kernel_rfl))
  f20 := Tryz.func131.trans (congrArg some (by kernel_rfl))
  f21 := Tryz.func132.trans (congrArg some (by kernel_rfl))
  f22 := Tryz.func133.trans (congrArg some (by kernel_rfl))
  f23 := Tryz.func134.trans (congrArg some (by kernel_rfl))
  f24 := Tryz.func135.trans (congrArg some (by kernel_rfl))
  f25 := Tryz.func155.trans (congrArg some (by kernel_rfl))
  f26 := Tryz.func156.trans (congrArg some (by kernel_rfl))
  f27 := Tryz.func157.trans (congrArg some (by kernel_rfl))
  f28 := Tryz.func167.trans (congrArg some (by kernel_rfl))
  f29 := Tryz.func169.trans (congrArg some (by kernel_rfl))
  f30 := Tryz.func112.trans (congrArg some (by kernel_rfl))
  f31 := Tryz.func113.trans (congrArg some (by kernel_rfl))
  f32 := Tryz.func114.trans (congrArg some (by kernel_rfl))
  f33 := Tryz.func115.trans (congrArg some (by kernel_rfl))
  f34 := Tryz.func137.trans (congrArg some (by kernel_rfl))
  f35 := Tryz.func138.trans (congrArg some (by kernel_rfl))
  f36 := Tryz.func139.trans (congrArg some (by kernel_rfl))
  f37 := Tryz.func140.trans (congrArg some (by kernel_rfl))
  f38 := Tryz.func141.trans (congrArg some (by kernel_rfl))
  f39 := Tryz.func158.trans (congrArg some (by kernel_rfl))
  f40 := Tryz.func159.trans (congrArg some (by kernel_rfl))
  t0 := Tryz.underlying0
  a0 := Tryz.isAgg0
  z0 := Tryz.sizeOf0
  v0 := Tryz.zeroValue0
  i0 := by kernel_rfl
  t2 := Tryz.underlying2
  a2 := Tryz.isAgg2
  z2 := Tryz.sizeOf2
  v2 := Tryz.zeroValue2
  i2 := by kernel_rfl
  t3 := Tryz.underlying3
  a3 := Tryz.isAgg3
  z3 := Tryz.sizeOf3
  v3 := Tryz.zeroValue3
  i3 := by kernel_rfl
  t4 := Tryz.underlying4
  a4 := Tryz.isAgg4
  z4 := Tryz.sizeOf4
  v4 := Tryz.zeroValue4
  i4 := by kernel_rfl
  t5 := Tryz.underlying5
  a5 := Tryz.isAgg5
  z5 := Tryz.sizeOf5
  v5 := Tryz.zeroValue5
  i5 := by kernel_rfl
  t9 := Tryz.underlying9
  a9 := Tryz.isAgg9
  z9 := Tryz.sizeOf9
  v9 := Tryz.zeroValue9
  i9 := by kernel_rfl
  t20 := Tryz.underlying20
  a20 := Tryz.isAgg20
  z20 := Tryz.sizeOf20
  v20 := Tryz.zeroValue20
  i20 := by kernel_rfl
  t21 := Tryz.underlying21
  a21 := Tryz.isAgg21
  z21 := Tryz.sizeOf21
  v21 := Tryz.zeroValue21
  i21 := by kernel_rfl
  t22 := Tryz.underlying60
  a22 := Tryz.isAgg60
  z22 := Tryz.sizeOf60
  v22 := Tryz.zeroValue60
  i22 := by kernel_rfl
  t24 := Tryz.underlying83
  a24 := Tryz.isAgg83
  z24 := Tryz.sizeOf83
  v24 := Tryz.zeroValue83
  i24 := by kernel_rfl
  t25 := Tryz.underlying112
  a25 := Tryz.isAgg112
  z25 := Tryz.sizeOf112
  v25 := Tryz.zeroValue112
  i25 := by kernel_rfl
  t34 := Tryz.underlying159
  a34 := Tryz.isAgg159
  z34 := Tryz.sizeOf159
  v34 := Tryz.zeroValue159
  i34 := by kernel_rfl
  c34 := by kernel_rfl
  t36 := Tryz.underlying118
  a36 := Tryz.isAgg118
  z36 := Tryz.sizeOf118
  v36 := Tryz.zeroValue118
  i36 := by kernel_rfl
  t37 := Tryz.underlying75
  a37 := Tryz.isAgg75
  z37 := Tryz.sizeOf75
  v37 := Tryz.zeroValue75
  i37 := by kernel_rfl
  t39 := Tryz.underlying161
  a39 := Tryz.isAgg161
  z39 := Tryz.sizeOf161
  v39 := Tryz.zeroValue161
  i39 := by kernel_rfl
  t44 := Tryz.underlying178
  a44 := Tryz.isAgg178
  z44 := Tryz.sizeOf178
  v44 := Tryz.zeroValue178
  i44 := by kernel_rfl
  t47 := Tryz.underlying125
  a47 := Tryz.isAgg125
  z47 := Tryz.sizeOf125
  v47 := Tryz.zeroValue125
  i47 := by kernel_rfl
  t48 := Tryz.underlying184
  a48 := Tryz.isAgg184
  z48 := Tryz.sizeOf184
  v48 := Tryz.zeroValue184
  i48 := by kernel_rfl
  t50 := Tryz.underlying186
  a50 := Tryz.isAgg186
  z50 := Tryz.sizeOf186
  v50 := Tryz.zeroValue186
  i50 := by kernel_rfl
  t52 := Tryz.underlying138
  a52 := Tryz.isAgg138
  z52 := Tryz.sizeOf138
  v52 := Tryz.zeroValue138
  i52 := by kernel_rfl
  t55 := Tryz.underlying141
  a55 := Tryz.isAgg141
  z55 := Tryz.sizeOf141
  v55 := Tryz.zeroValue141
  i55 := by kernel_rfl
  t59 := Tryz.underlying165
  a59 := Tryz.isAgg165
  z59 := Tryz.sizeOf165
  v59 := Tryz.zeroValue165
  i59 := by kernel_rfl
  t60 := Tryz.underlying56
  a60 := Tryz.isAgg56
  z60 := Tryz.sizeOf56
  v60 := Tryz.zeroValue56
  i60 := by kernel_rfl
  t61 := Tryz.underlying166
  a61 := Tryz.isAgg166
  z61 := Tryz.sizeOf166
  t65 := Tryz.underlying187
  a65 := Tryz.isAgg187
  z65 := Tryz.sizeOf187
  v65 := Tryz.zeroValue187
  i65 := by kernel_rfl
  t66 := Tryz.underlying188
  a66 := Tryz.isAgg188
  z66 := Tryz.sizeOf188
  v66 := Tryz.zeroValue188
  i66 := by kernel_rfl
  t67 := Tryz.underlying87
  a67 := Tryz.isAgg87
  z67 := Tryz.sizeOf87
  v67 := Tryz.zeroValue87
  i67 := by kernel_rfl
  g0 := by kernel_rfl
  m0 := by kernel_rfl
  g1 := by kernel_rfl
  m1 := by kernel_rfl
  g2 := by kernel_rfl
  m2 := by kernel_rfl
  g3 := by kernel_rfl
  m3 := by kernel_rfl
  g4 := by kernel_rfl
  m4 := by kernel_rfl }
open Go.RowKit in
/-- strconv.ParseUint(s, 10, 32), AT EVERY STRING THAT SPELLS A uint32 ('Lib.parseUintB 32 s.data.toList = .ok u'): u, AND NO ERROR. (LAID: no walk: one application.) -/
theorem Tryz.strconv_ParseUint_10_at32_ok (s : ByteArray) (hmax : s.size ≤ 9223372036854775806) (u : Nat) (h : Lib.parseUintB 32 s.data.toList = .ok u) (w : World) :
    Calls Tryz.prog 74 #[.string s, .int .i64 10, .int .i64 32] w fun e w' => e = .returned (.tuple #[.int .u64 u, .nilIface]) ∧ (w' = w ∨ w' = Lib.bytesWorld w 5 s) := Any.strconv_ParseUint_10_at32_ok Tryz.laysPu14 s hmax u h w
def Tryz.lays219_ren : Go.Shelf.Ren := ⟨fun | 219 => 106 | 217 => 125 | 225 => 126 | 224 => 127 | 267 => 128 | 266 => 153 | 314 => 154 | n => n, fun | 9 => 9 | 3 => 3 | 4 => 4 | 5 => 5 | 46 => 118 | 146 => 145 | 51 => 56 | n => n, fun | 1 => 0 | n => n⟩
theorem Tryz.lays219 : Go.Proofs.Lays.n219 Tryz.prog Tryz.lays219_ren := {
  mixed := by kernel_rfl
  f217 := Tryz.func125.trans (congrArg some (by kernel_rfl))
  f219 := Tryz.func106.trans (congrArg some (by kernel_rfl))
  f224 := Tryz.func127.trans (congrArg some (by kernel_rfl))
  f225 := Tryz.func126.trans (congrArg some (by kernel_rfl))
  f266 := Tryz.func153.trans (congrArg some (by kernel_rfl))
  f267 := Tryz.func128.trans (congrArg some (by kernel_rfl))
  f314 := Tryz.func154.trans (congrArg some (by kernel_rfl))
  t3 := Tryz.underlying3
  a3 := Tryz.isAgg3
  z3 := Tryz.sizeOf3
  v3 := Tryz.zeroValue3
  t4 := Tryz.underlying4
  a4 := Tryz.isAgg4
  z4 := Tryz.sizeOf4
  v4 := Tryz.zeroValue4
  t5 := Tryz.underlying5
  a5 := Tryz.isAgg5
  z5 := Tryz.sizeOf5
  v5 := Tryz.zeroValue5
  t9 := Tryz.underlying9
  a9 := Tryz.isAgg9
  z9 := Tryz.sizeOf9
  v9 := Tryz.zeroValue9
  t46 := Tryz.underlying118
  a46 := Tryz.isAgg118
  z46 := Tryz.sizeOf118
  v46 := Tryz.zeroValue118
  t51 := Tryz.underlying56
  a51 := Tryz.isAgg56
  z51 := Tryz.sizeOf56
  v51 := Tryz.zeroValue56
  t146 := Tryz.underlying145
  a146 := Tryz.isAgg145
  z146 := Tryz.sizeOf145
  v146 := Tryz.zeroValue145
  g1 := by kernel_rfl }
def Tryz.lays144_ren : Go.Shelf.Ren := ⟨fun | 144 => 93 | 143 => 122 | 219 => 106 | 217 => 125 | 225 => 126 | 224 => 127 | 267 => 128 | 266 => 153 | 314 => 154 | n => n, fun | 9 => 9 | 4 => 4 | 3 => 3 | 5 => 5 | 46 => 118 | 146 => 145 | 51 => 56 | n => n, fun | 1 => 0 | n => n⟩
def Tryz.lays145_ren : Go.Shelf.Ren := ⟨fun | 145 => 35 | 220 => 71 | 219 => 106 | 217 => 125 | 225 => 126 | 224 => 127 | 267 => 128 | 266 => 153 | 314 => 154 | n => n, fun | 9 => 9 | 4 => 4 | 59 => 65 | 3 => 3 | 5 => 5 | 46 => 118 | 146 => 145 | 51 => 56 | n => n, fun | 1 => 0 | n => n⟩
theorem Tryz.lays145 : Go.Proofs.Lays.n145 Tryz.prog Tryz.lays145_ren := {
  mixed := by kernel_rfl
  f145 := Tryz.func35.trans (congrArg some (by kernel_rfl))
  f217 := Tryz.func125.trans (congrArg some (by kernel_rfl))
  f219 := Tryz.func106.trans (congrArg some (by kernel_rfl))
  f220 := Tryz.func71.trans (congrArg some (by kernel_rfl))
  f224 := Tryz.func127.trans (congrArg some (by kernel_rfl))
  f225 := Tryz.func126.trans (congrArg some (by kernel_rfl))
  f266 := Tryz.func153.trans (congrArg some (by kernel_rfl))
  f267 := Tryz.func128.trans (congrArg some (by kernel_rfl))
  f314 := Tryz.func154.trans (congrArg some (by kernel_rfl))
  t3 := Tryz.underlying3
  a3 := Tryz.isAgg3
  z3 := Tryz.sizeOf3
  v3 := Tryz.zeroValue3
  t4 := Tryz.underlying4
  a4 := Tryz.isAgg4
  z4 := Tryz.sizeOf4
  v4 := Tryz.zeroValue4
  t5 := Tryz.underlying5
  a5 := Tryz.isAgg5
  z5 := Tryz.sizeOf5
  v5 := Tryz.zeroValue5
  t9 := Tryz.underlying9
  a9 := Tryz.isAgg9
  z9 := Tryz.sizeOf9
  v9 := Tryz.zeroValue9
  t46 := Tryz.underlying118
  a46 := Tryz.isAgg118
  z46 := Tryz.sizeOf118
  v46 := Tryz.zeroValue118
  t51 := Tryz.underlying56
  a51 := Tryz.isAgg56
  z51 := Tryz.sizeOf56
  v51 := Tryz.zeroValue56
  t59 := Tryz.underlying65
  a59 := Tryz.isAgg65
  z59 := Tryz.sizeOf65
  v59 := Tryz.zeroValue65
  t146 := Tryz.underlying145
  a146 := Tryz.isAgg145
  z146 := Tryz.sizeOf145
  v146 := Tryz.zeroValue145
  g1 := by kernel_rfl }
open Go.RowKit Go.Lib in
/-- strings.Cut: "Cut slices s around the first instance of sep, returning the text before and after sep. The found result reports whether sep appears in s. If sep does not appear in s, cut returns s, "", false.": IT RETURNS 'Lib.cut s sep'; the world is as it was but for the count of draws. (LAID: no walk: one application.) -/
theorem Tryz.strings_Cut (s sep : ByteArray) (m : Int) (w : World) (hs : s.size < 4294967281) (hm : w.cell? ⟨0, 0, none⟩ = some (.int .i64 m)) :
    Calls Tryz.prog 35 #[.string s, .string sep] w fun e w' => e = .returned (.tuple #[.string ⟨(Lib.cut s.data.toList sep.data.toList).1.toArray⟩, .string ⟨(Lib.cut s.data.toList sep.data.toList).2.1.toArray⟩, .bool (Lib.cut s.data.toList sep.data.toList).2.2]) ∧ ∃ n, w' = w.drewN n := Any.strings_Cut Tryz.lays145 s sep m w hs hm
def Tryz.laysM144_ren : Go.Shelf.Ren := ⟨fun | 144 => 93 | 143 => 122 | 219 => 106 | 217 => 125 | 225 => 126 | 224 => 127 | 267 => 128 | 266 => 153 | 314 => 154 | n => n, fun | 9 => 9 | 4 => 4 | 3 => 3 | 5 => 5 | 46 => 118 | 146 => 145 | 51 => 56 | n => n, fun | 1 => 0 | n => n⟩
theorem Tryz.laysM144 : Go.Proofs.LaysM.n144 Tryz.prog Tryz.laysM144_ren := {
  mixed := by kernel_rfl
  f143 := Tryz.func122.trans (congrArg some (by kernel_rfl))
  f144 := Tryz.func93.trans (congrArg some (by kernel_rfl))
  f217 := Tryz.func125.trans (congrArg some (by kernel_rfl))
  f219 := Tryz.func106.trans (congrArg some (by kernel_rfl))
  f224 := Tryz.func127.trans (congrArg some (by kernel_rfl))
  f225 := Tryz.func126.trans (congrArg some (by kernel_rfl))
  f266 := Tryz.func153.trans (congrArg some (by kernel_rfl))
  f267 := Tryz.func128.trans (congrArg some (by kernel_rfl))
  f314 := Tryz.func154.trans (congrArg some (by kernel_rfl))
  t3 := Tryz.underlying3
  a3 := Tryz.isAgg3
  z3 := Tryz.sizeOf3
  v3 := Tryz.zeroValue3
  t4 := Tryz.underlying4
  a4 := Tryz.isAgg4
  z4 := Tryz.sizeOf4
  v4 := Tryz.zeroValue4
  t5 := Tryz.underlying5
  a5 := Tryz.isAgg5
  z5 := Tryz.sizeOf5
  v5 := Tryz.zeroValue5
  t9 := Tryz.underlying9
  a9 := Tryz.isAgg9
  z9 := Tryz.sizeOf9
  v9 := Tryz.zeroValue9
  t46 := Tryz.underlying118
  a46 := Tryz.isAgg118
  z46 := Tryz.sizeOf118
  v46 := Tryz.zeroValue118
  t51 := Tryz.underlying56
  a51 := Tryz.isAgg56
  z51 := Tryz.sizeOf56
  v51 := Tryz.zeroValue56
  t146 := Tryz.underlying145
  a146 := Tryz.isAgg145
  z146 := Tryz.sizeOf145
  v146 := Tryz.zeroValue145
  g1 := by kernel_rfl
  i3 := by kernel_rfl
  i4 := by kernel_rfl
  i5 := by kernel_rfl
  i9 := by kernel_rfl
  i46 := by kernel_rfl
  i51 := by kernel_rfl
  i146 := by kernel_rfl
  m1 := by kernel_rfl
  s1_3 := fun w h => Go.Proofs.cell_of_shapedOpen_int (zero := #[.int .i64 0]) (t := 3) h (of_decide_eq_true (by kernel_rfl)) (by kernel_rfl) rfl (by kernel_rfl) (by kernel_rfl) Tryz.underlying3 }
def Tryz.laysGw17_ren : Go.Shelf.Ren := ⟨fun | 17 => 72 | 15 => 107 | 20 => 129 | n => n, fun | 9 => 9 | 23 => 111 | 4 => 4 | 3 => 3 | 0 => 0 | 21 => 21 | n => n, fun | n => n⟩
theorem Tryz.laysGw17 : Go.Proofs.LaysGw.n17 Tryz.prog Tryz.laysGw17_ren := {
  mixed := by kernel_rfl
  f15 := Tryz.func107.trans (congrArg some (by kernel_rfl))
  f17 := Tryz.func72.trans (congrArg some (by kernel_rfl))
  f20 := Tryz.func129.trans (congrArg some (by kernel_rfl))
  t0 := Tryz.underlying0
  a0 := Tryz.isAgg0
  z0 := Tryz.sizeOf0
  v0 := Tryz.zeroValue0
  i0 := by kernel_rfl
  t3 := Tryz.underlying3
  a3 := Tryz.isAgg3
  z3 := Tryz.sizeOf3
  v3 := Tryz.zeroValue3
  i3 := by kernel_rfl
  t4 := Tryz.underlying4
  a4 := Tryz.isAgg4
  z4 := Tryz.sizeOf4
  v4 := Tryz.zeroValue4
  i4 := by kernel_rfl
  t9 := Tryz.underlying9
  a9 := Tryz.isAgg9
  z9 := Tryz.sizeOf9
  v9 := Tryz.zeroValue9
  i9 := by kernel_rfl
  t21 := Tryz.underlying21
  a21 := Tryz.isAgg21
  z21 := Tryz.sizeOf21
  v21 := Tryz.zeroValue21
  i21 := by kernel_rfl
  t23 := Tryz.underlying111
  a23 := Tryz.isAgg111
  z23 := Tryz.sizeOf111
  v23 := Tryz.zeroValue111
  i23 := by kernel_rfl }
open Go.RowKit Go.Lib in
theorem Tryz.strings_ContainsFunc_runes (g : Nat) (lb : Array Value) (eg : ∀ args w, (callFunc g args).run Tryz.prog w = .ok (.enter g args) w) (p : Nat → Bool) (s : ByteArray) (w : World) (hp : PredAtRunes Tryz.prog g lb p w) :
    Calls Tryz.prog 72 #[.string s, .func (.func g) #[] lb] w fun e w' => e = .returned (.bool (decide (0 ≤ Lib.idxFunc p true s))) ∧ Below w.heap.size w w' := Any.strings_ContainsFunc_runes Tryz.laysGw17 g lb eg p s w hp
def Tryz.lays105_ren : Go.Shelf.Ren := ⟨fun | 105 => 47 | 212 => 84 | 99 => 85 | 165 => 86 | 166 => 46 | 170 => 87 | 169 => 48 | 263 => 117 | 264 => 118 | 206 => 105 | 240 => 83 | 241 => 119 | 276 => 116 | 277 => 142 | n => n, fun | 9 => 9 | 3 => 3 | 4 => 4 | 20 => 20 | 0 => 0 | 46 => 118 | 109 => 120 | 5 => 5 | 72 => 77 | 76 => 84 | 51 => 56 | 146 => 145 | 53 => 60 | 148 => 147 | 70 => 74 | 37 => 75 | 75 => 83 | 127 => 125 | 164 => 143 | 80 => 87 | n => n, fun | n => n⟩
theorem Tryz.lays105 : Go.Proofs.Lays.n105 Tryz.prog Tryz.lays105_ren := {
  mixed := by kernel_rfl
  f99 := Tryz.func85.trans (congrArg some (by kernel_rfl))
  f105 := Tryz.func47.trans (congrArg some (by kernel_rfl))
  f165 := Tryz.func86.trans (congrArg some (by kernel_rfl))
  f166 := Tryz.func46.trans (congrArg some (by kernel_rfl))
  f169 := Tryz.func48.trans (congrArg some (by kernel_rfl))
  f170 := Tryz.func87.trans (congrArg some (by kernel_rfl))
  f206 := Tryz.func105.trans (congrArg some (by kernel_rfl))
  f212 := Tryz.func84.trans (congrArg some (by kernel_rfl))
  f240 := Tryz.func83.trans (congrArg some (by kernel_rfl))
  f241 := Tryz.func119.trans (congrArg some (by kernel_rfl))
  f263 := Tryz.func117.trans (congrArg some (by kernel_rfl))
  f264 := Tryz.func118.trans (congrArg some (by kernel_rfl))
  f276 := Tryz.func116.trans (congrArg some (by kernel_rfl))
  f277 := Tryz.func142.trans (congrArg some (by kernel_rfl))
  t0 := Tryz.underlying0
  a0 := Tryz.isAgg0
  z0 := Tryz.sizeOf0
  v0 := Tryz.zeroValue0
  t3 := Tryz.underlying3
  a3 := Tryz.isAgg3
  z3 := Tryz.sizeOf3
  v3 := Tryz.zeroValue3
  t4 := Tryz.underlying4
  a4 := Tryz.isAgg4
  z4 := Tryz.sizeOf4
  v4 := Tryz.zeroValue4
  t5 := Tryz.underlying5
  a5 := Tryz.isAgg5
  z5 := Tryz.sizeOf5
  v5 := Tryz.zeroValue5
  t9 := Tryz.underlying9
  a9 := Tryz.isAgg9
  z9 := Tryz.sizeOf9
  v9 := Tryz.zeroValue9
  t20 := Tryz.underlying20
  a20 := Tryz.isAgg20
  z20 := Tryz.sizeOf20
  v20 := Tryz.zeroValue20
  t37 := Tryz.underlying75
  a37 := Tryz.isAgg75
  z37 := Tryz.sizeOf75
  v37 := Tryz.zeroValue75
  t46 := Tryz.underlying118
  a46 := Tryz.isAgg118
  z46 := Tryz.sizeOf118
  v46 := Tryz.zeroValue118
  t51 := Tryz.underlying56
  a51 := Tryz.isAgg56
  z51 := Tryz.sizeOf56
  v51 := Tryz.zeroValue56
  t53 := Tryz.underlying60
  a53 := Tryz.isAgg60
  z53 := Tryz.sizeOf60
  v53 := Tryz.zeroValue60
  t70 := Tryz.underlying74
  a70 := Tryz.isAgg74
  z70 := Tryz.sizeOf74
  v70 := Tryz.zeroValue74
  t72 := Tryz.underlying77
  a72 := Tryz.isAgg77
  z72 := Tryz.sizeOf77
  v72 := Tryz.zeroValue77
  t75 := Tryz.underlying83
  a75 := Tryz.isAgg83
  z75 := Tryz.sizeOf83
  v75 := Tryz.zeroValue83
  t76 := Tryz.underlying84
  a76 := Tryz.isAgg84
  z76 := Tryz.sizeOf84
  v76 := Tryz.zeroValue84
  t109 := Tryz.underlying120
  a109 := Tryz.isAgg120
  z109 := Tryz.sizeOf120
  v109 := Tryz.zeroValue120
  t127 := Tryz.underlying125
  a127 := Tryz.isAgg125
  z127 := Tryz.sizeOf125
  v127 := Tryz.zeroValue125
  t146 := Tryz.underlying145
  a146 := Tryz.isAgg145
  z146 := Tryz.sizeOf145
  v146 := Tryz.zeroValue145
  t148 := Tryz.underlying147
  a148 := Tryz.isAgg147
  z148 := Tryz.sizeOf147
  v148 := Tryz.zeroValue147
  t164 := Tryz.underlying143
  a164 := Tryz.isAgg143
  z164 := Tryz.sizeOf143
  v164 := Tryz.zeroValue143 }
theorem Tryz.Builder_Extra_105 : Builder.Extra Tryz.prog Tryz.lays105_ren := {
  sizeBuilder := by kernel_rfl
  liesBuilder := by kernel_rfl
  t5 := Tryz.underlying5
  a5 := Tryz.isAgg5
  z5 := Tryz.sizeOf5
  v5 := Tryz.zeroValue5
  infoByte := by kernel_rfl
  cellsByte := by kernel_rfl
  sizeByte := by kernel_rfl
  neB5 := by decide }
open Go.RowKit Go.Lib in
/-- **strings.Repeat: count ≥ 0, the result within one allocation: count copies of s.** (LAID: no walk: one application.) -/
theorem Tryz.strings_Repeat (s : ByteArray) (c : Nat) (w : World) (hc : c ≤ 9223372036854775807) (hlen : s.size * c ≤ 140737488355328) :
    Calls Tryz.prog 47 #[.string s, .int .i64 c] w fun e w' => e = .returned (.string ⟨(Lib.repeatL s.data.toList c).toArray⟩) ∧ Below w.heap.size w w' := Any.strings_Repeat Tryz.lays105 Tryz.Builder_Extra_105 s c w hc hlen
end Go.Proofs
namespace Go.Proofs.YtpncflaoikeidaaGreatDoor.P
open Go.RowKit Go.Proofs.YtpncflaoikeidaaGreatDoorW.PrintWords Go.Proofs.YtpncflaoikeidaaGreatDoorW.PrintLast Go.Proofs.YtpncflaoikeidaaGreatDoorW.PrintMore
attribute [local go_sem] max2_int max_two
set_option linter.unusedVariables false
set_option linter.unusedSimpArgs false
def errW : Option Int → Value
  | none => .nilIface
  | some c => .iface 159 (.int .i64 c)
theorem errW_none : errW none = .nilIface := rfl
theorem errW_some (c : Int) : errW (some c) = .iface 159 (.int .i64 c) := rfl

theorem info3 : (Tryz.prog.info? 3).map (fun i => (i.zero, i.size, i.bytes)) = some (some (.int .i64 0), 1, 8) := by kernel_rfl
theorem info56 : (Tryz.prog.info? 56).map (fun i => (i.zero, i.size, i.bytes)) = some (some (.int .u32 0), 1, 4) := by kernel_rfl
end Go.Proofs.YtpncflaoikeidaaGreatDoor.P
namespace Go.Proofs.YtpncflaoikeidaaGreatDoor.P
open Go.RowKit
/-- what start-up has laid, and no call changes -/
structure LaidT (w : World) : Prop where
  len : ∃ m, w.cell? ⟨0, 0, none⟩ = some (.int .i64 m)
  tab : Lib.TabIs Tryz.prog w "internal/strconv.uint64pow10" .u64 Lib.pow10Tab
  syn : ∃ ev, w.cell? ⟨2, 0, none⟩ = some ev ∧ (ev = .nilIface ∨ ∃ te pe, ev = .iface te pe)
  rng : ∃ ev, w.cell? ⟨3, 0, none⟩ = some ev ∧ (ev = .nilIface ∨ ∃ te pe, ev = .iface te pe)
theorem cell_kept_below {w w' : World} {a : Addr} {v : Value} (hb : Below w.heap.size w w') (h : w.cell? a = some v) : w'.cell? a = some v := by
  have hlt : a.block < w.heap.size := by
    rcases Nat.lt_or_ge a.block w.heap.size with h' | h'
    · exact h'
    · simp [World.cell?, Array.getElem?_eq_none h'] at h
  rw [World.cell?_of_block (hb.block _ hlt)]
  exact h
theorem LaidT.below {w w' : World} (h : LaidT w) (hb : Below w.heap.size w w') : LaidT w' := by
  obtain ⟨⟨m, h1⟩, h2, ⟨e1, h3, h4⟩, ⟨e2, h5, h6⟩⟩ := h
  refine ⟨⟨m, cell_kept_below hb h1⟩, ?_, ⟨e1, cell_kept_below hb h3, h4⟩, ⟨e2, cell_kept_below hb h5, h6⟩⟩
  unfold Lib.TabIs World.var? at *
  cases hg : Tryz.prog.globalNamed "internal/strconv.uint64pow10" with
  | none => simp [hg] at h2
  | some g =>
    simp only [hg, Option.bind_some] at h2 ⊢
    have hlt : g < w.heap.size := by
      rcases Nat.lt_or_ge g w.heap.size with h' | h'
      · exact h'
      · rw [Array.getElem?_eq_none h'] at h2; simp at h2
    rw [hb.block g hlt]
    exact h2
end Go.Proofs.YtpncflaoikeidaaGreatDoor.P
namespace Go.Proofs.YtpncflaoikeidaaGreatDoor.R
open Go.ChangeShapes Go.WideShapes Go.ChangeAt Go.RowKit Go.Joins
open Go.Proofs.YtpncflaoikeidaaGreatDoorW.PrintWords
theorem own : ownKnob Tryz.prog.godebug = none := by kernel_rfl
theorem gTab : Tryz.prog.globalNamed "internal/strconv.uint64pow10" = some 1 := by kernel_rfl
theorem gSyn : Tryz.prog.globalNamed "strconv.ErrSyntax" = some 2 := by kernel_rfl
theorem gRng : Tryz.prog.globalNamed "strconv.ErrRange" = some 3 := by kernel_rfl
/-- what start-up lays, out of the row's own condition and the world's shape -/
theorem laidT_of {l : List (String × DataW Unit)} {W : World} (hL : laidMet Tryz.prog l W) (m1 : ("internal/strconv.uint64pow10", Rows.laid_internal_strconv_uint64pow10) ∈ l)
    (m2 : ("strconv.ErrSyntax", Rows.laid_strconv_ErrSyntax) ∈ l) (m3 : ("strconv.ErrRange", Rows.laid_strconv_ErrRange) ∈ l) (hsh : W.ShapedOpen Tryz.prog) : P.LaidT W := by
  refine ⟨Tryz.laysM144.s1_3 W hsh, ?_, ?_, ?_⟩
  · obtain ⟨g, t, cs, fuel, p, hg, ht, hvar, hd⟩ := Lib.laidMet.reads hL m1
    obtain rfl := Option.some.inj (gTab.symm.trans hg)
    obtain rfl := Option.some.inj ((show (Tryz.prog.globals[1]?).map (·.type) = some 165 by kernel_rfl).symm.trans ht)
    unfold Lib.TabIs
    rw [hvar, ← Lib.cells_of_tab (n := 20) (e := 60) (zs := Lib.pow10Tab) (k := .u64) Tryz.underlying165 Tryz.underlying60 (by kernel_rfl) (by kernel_rfl) hd]
  · obtain ⟨g, t, cs, fuel, p, hg, ht, hvar, hd⟩ := Lib.laidMet.reads hL m2
    obtain rfl := Option.some.inj (gSyn.symm.trans hg)
    obtain rfl := Option.some.inj ((show (Tryz.prog.globals[2]?).map (·.type) = some 83 by kernel_rfl).symm.trans ht)
    obtain ⟨f', u, v, hcs, _, _⟩ := iface_of_trod Tryz.underlying83 hd
    have hc := World.var?_cell gSyn hvar 0
    obtain ⟨cl⟩ := cs
    simp only at hcs
    subst hcs
    exact ⟨.iface u v, by simpa using hc, .inr ⟨u, v, rfl⟩⟩
  · obtain ⟨g, t, cs, fuel, p, hg, ht, hvar, hd⟩ := Lib.laidMet.reads hL m3
    obtain rfl := Option.some.inj (gRng.symm.trans hg)
    obtain rfl := Option.some.inj ((show (Tryz.prog.globals[3]?).map (·.type) = some 83 by kernel_rfl).symm.trans ht)
    obtain ⟨f', u, v, hcs, _, _⟩ := iface_of_trod Tryz.underlying83 hd
    have hc := World.var?_cell gRng hvar 0
    obtain ⟨cl⟩ := cs
    simp only at hcs
    subst hcs
    exact ⟨.iface u v, by simpa using hc, .inr ⟨u, v, rfl⟩⟩
end Go.Proofs.YtpncflaoikeidaaGreatDoor.R
namespace Go.Proofs.YtpncflaoikeidaaGreatDoor.P
open Go.RowKit Go.Lib Go.Proofs.YtpncflaoikeidaaGreatDoorW.PrintWords Go.Proofs.YtpncflaoikeidaaGreatDoorW.PrintLast Go.Proofs.YtpncflaoikeidaaGreatDoorW.PrintMore
theorem index_byte (c : UInt8) : ∀ l : List UInt8, Lib.index l [c] = Lib.indexByte l c
  | [] => rfl
  | b :: l => by
    have e : (List.isPrefixOf [c] (b :: l)) = (b == c) := by
      simp only [List.isPrefixOf, Bool.and_true]
      rw [Bool.eq_iff_iff, beq_iff_eq, beq_iff_eq]
      exact eq_comm
    unfold Lib.index Lib.indexByte
    rw [e, index_byte c l]
set_option maxHeartbeats 2000000 in
set_option maxRecDepth 100000 in
/-- internal/stringslite.Cut at one byte: whatever the text's length -/
theorem cut_one (s : ByteArray) (c : UInt8) (w : World) (hs : s.size ≤ 140737488351232) :
    Calls Tryz.prog 71 #[.string s, .string ⟨#[c]⟩] w fun e w' => e = .returned (.tuple #[.string ⟨(Lib.cut s.data.toList [c]).1.toArray⟩, .string ⟨(Lib.cut s.data.toList [c]).2.1.toArray⟩, .bool (Lib.cut s.data.toList [c]).2.2]) ∧ ∃ n, w' = w.drewN n := by
  have hx := index_byte c s.data.toList
  have I := Aside0.mk (fun W => Any.stringslite_Index_one Tryz.lays219 s c W)
  rw [← hx] at I
  clear hx
  rcases Lib.indexB_cases s ⟨#[c]⟩ with hix | ⟨i, hix, hroom⟩
  · obtain ⟨e1, e2, e3⟩ := Lib.cutB_miss s ⟨#[c]⟩ hix
    have hix2 : Lib.index s.data.toList [c] = -1 := hix
    rw [hix2] at I
    rw [show (Lib.cut s.data.toList [c]) = Lib.cut s.data.toList (⟨#[c]⟩ : ByteArray).data.toList from rfl, e1, e2, e3]
    clear e1 e2 e3 hix hix2
    go_enter Tryz.func71, Tryz.ntmps71
    go_wp2_with (go_at_call 106; refine (I.out _).mono ?_; rintro e w' ⟨rfl, rfl⟩)
    go_ret3
    exact ⟨rfl, 0, rfl⟩
  · obtain ⟨e1, e2, e3⟩ := Lib.cutB_hit s ⟨#[c]⟩ i hix
    have hix2 : Lib.index s.data.toList [c] = (i : Int) := hix
    rw [hix2] at I
    rw [show (Lib.cut s.data.toList [c]) = Lib.cut s.data.toList (⟨#[c]⟩ : ByteArray).data.toList from rfl, e1, e2, e3]
    have hz : (⟨#[c]⟩ : ByteArray).size = 1 := rfl
    rw [hz] at hroom ⊢
    have c1 : (0 : Int) ≤ (i : Int) := by omega
    have c2 : (i : Int) ≤ (s.size : Int) := by omega
    have c3 : (0 : Int) ≤ (i : Int) + 1 := by omega
    have c4 : ((i : Int) + 1 : Int) ≤ (s.size : Int) := by omega
    clear e1 e2 e3 hix hix2
    go_enter Tryz.func71, Tryz.ntmps71
    go_wp2_with (go_at_call 106; refine (I.out _).mono ?_; rintro e w' ⟨rfl, rfl⟩)
    go_region
    go_wp2
    go_ret3
    exact ⟨rfl, 1, rfl⟩
/-- strings.Cut -/
def strings_Cut.f (s sep : ByteArray) : Option (ByteArray × ByteArray × Bool) := if s.size < 4294967281 ∨ (sep.size = 1 ∧ s.size ≤ 140737488351232) then some (⟨(Lib.cut s.data.toList sep.data.toList).1.toArray⟩, ⟨(Lib.cut s.data.toList sep.data.toList).2.1.toArray⟩, (Lib.cut s.data.toList sep.data.toList).2.2) else none
theorem strings_Cut.calls (a0 a1 : ByteArray) (r1 r2 : ByteArray) (r3 : Bool) (w : World) (h : strings_Cut.f a0 a1 = some (r1, r2, r3)) (hL : LaidT w) :
    Calls Tryz.prog 35 #[.string a0, .string a1] w fun e w' => e = .returned (.tuple #[.string r1, .string r2, .bool r3]) ∧ Below w.heap.size w w' := by
  unfold strings_Cut.f at h
  split at h
  case isFalse => cases h
  case isTrue hs =>
  have h := Option.some.inj h
  simp only [Prod.mk.injEq] at h
  obtain ⟨rfl, rfl, rfl⟩ := h
  rcases hs with hs | ⟨h1, hs⟩
  case inr =>
    obtain ⟨c, rfl⟩ : ∃ c, a1 = ⟨#[c]⟩ := by
      obtain ⟨⟨l⟩⟩ := a1
      match l, h1 with
      | [c], _ => exact ⟨c, rfl⟩
    have K := Aside0.mk (fun W => cut_one a0 c W hs)
    clear hs h1
    rw [show (Lib.cut a0.data.toList (⟨#[c]⟩ : ByteArray).data.toList) = Lib.cut a0.data.toList [c] from rfl]
    go_enter Tryz.func35, Tryz.ntmps35
    go_wp2_with (go_at_call 71; refine (K.out _).mono ?_; rintro e w' ⟨rfl, n, rfl⟩)
    go_ret3
    exact ⟨rfl, pw_below_drewN (Below.refl _ _) n⟩
  obtain ⟨m, hm⟩ := hL.len
  exact (Tryz.strings_Cut a0 a1 m w hs hm).mono fun e w' ⟨he, n, hn⟩ => ⟨he, by rw [hn]; exact pw_below_drewN (Below.refl _ _) n⟩
def digB (b : UInt8) : Bool := decide (48 ≤ b.toNat) && decide (b.toNat ≤ 57)
def digP (r : Nat) : Bool := decide (r < 48) || decide (57 < r)
theorem idx_dig (s : ByteArray) : ∀ (f pos : Nat), s.size ≤ pos + f → (decide (0 ≤ idxFuncFrom digP true s f pos)) = !((s.data.toList.drop pos).all digB)
  | 0, pos, h => by
    have : s.data.toList.length ≤ pos := by rw [Array.length_toList]; show s.size ≤ pos; omega
    rw [List.drop_of_length_le this]; rfl
  | f + 1, pos, h => by
    unfold idxFuncFrom
    by_cases hp : pos < s.size
    · rw [if_pos hp]
      have hl : pos < s.data.toList.length := by rw [Array.length_toList]; exact hp
      have hget : s.data.toList[pos] = s[pos]'hp := by rw [Array.getElem_toList]; rfl
      rw [List.drop_eq_getElem_cons hl, List.all_cons, hget]
      by_cases ha : (s[pos]'hp).toNat < 128
      · have hd := decode_ascii s pos hp ha
        rw [hd]
        simp only
        by_cases hb : digB (s[pos]'hp) = true
        · have hnp : digP (s[pos]'hp).toNat = false := by
            unfold digB at hb; unfold digP
            simp only [Bool.and_eq_true, decide_eq_true_eq] at hb
            simp; omega
          rw [hnp, if_neg (by simp), hb, Bool.true_and]
          exact idx_dig s f (pos + 1) (by omega)
        · have hb' : digB (s[pos]'hp) = false := by simpa using hb
          have hnp : digP (s[pos]'hp).toNat = true := by
            unfold digB at hb'; unfold digP
            simp only [Bool.and_eq_false_iff, decide_eq_false_iff_not] at hb'
            simp only [Bool.or_eq_true, decide_eq_true_eq]
            omega
          rw [hnp, if_pos rfl, hb', Bool.false_and]
          simp
      · have hd := (decode_high s pos hp (by omega)).1
        have hnp : digP (Utf8.decode s pos).1 = true := by unfold digP; simp; omega
        have hb' : digB (s[pos]'hp) = false := by unfold digB; simp; omega
        rw [hnp, if_pos rfl, hb', Bool.false_and]
        simp
    · rw [if_neg hp]
      have : s.data.toList.length ≤ pos := by rw [Array.length_toList]; show s.size ≤ pos; omega
      rw [List.drop_of_length_le this]; rfl
set_option maxHeartbeats 1000000 in
set_option maxRecDepth 100000 in
theorem nat1_any (x : Nat) (hx : x ≤ 1114111) (W : World) : Calls Tryz.prog 73 #[.int .i32 (x : Int)] W fun e w' => e = .returned (.bool (digP x)) ∧ ∃ q, w' = W.drewN q := by
  by_cases h : x < 48
  · have h1 : decide ((x : Int) < 48) = true := decide_eq_true (by omega)
    go_enter Tryz.func73, Tryz.ntmps73
    go_wp2
    go_ret
    exact ⟨by simp [digP, h], 0, rfl⟩
  · have h1 : decide ((x : Int) < 48) = false := decide_eq_false (by omega)
    have h2 : decide ((57 : Int) < (x : Int)) = decide (57 < x) := by rw [Bool.eq_iff_iff]; simp only [decide_eq_true_eq]; omega
    go_enter Tryz.func73, Tryz.ntmps73
    go_wp2
    go_ret
    exact ⟨by simp [digP, h], 0, rfl⟩
/-- digits.natural -/
def natB (l : List UInt8) : Bool := l.all digB && !l.isEmpty && (l.head? != some 48 || l.length == 1)
def digits_natural.f (s : ByteArray) : Option Bool := some (natB s.data.toList)
set_option maxHeartbeats 1000000 in
set_option maxRecDepth 100000 in
theorem digits_natural.calls (a0 : ByteArray) (r : Bool) (w : World) (h : digits_natural.f a0 = some r) :
    Calls Tryz.prog 36 #[.string a0] w fun e w' => e = .returned (.bool r) ∧ Below w.heap.size w w' := by
  obtain rfl := Option.some.inj h
  clear h
  have CF := Aside0.mk (fun W => Tryz.strings_ContainsFunc_runes 73 #[] (enters_ Tryz.func73 (by kernel_rfl) rfl) digP a0 W (fun W' x hx _ => nat1_any x hx W'))
  have hidx := idx_dig a0 a0.size 0 (by omega)
  rw [List.drop_zero] at hidx
  have hidx2 : decide (0 ≤ Lib.idxFunc digP true a0) = !(a0.data.toList.all digB) := hidx
  rw [hidx2] at CF
  clear hidx hidx2
  by_cases h0 : a0.size = 0
  · obtain rfl : a0 = ⟨#[]⟩ := by
      have h1 : a0.data.size = 0 := h0
      cases a0; simp at h1; simp [h1]
    go_enter Tryz.func36, Tryz.ntmps36
    go_wp2
    go_ret
    exact ⟨rfl, Below.refl _ _⟩
  · have hl : 0 < a0.data.toList.length := by rw [Array.length_toList]; exact Nat.pos_of_ne_zero h0
    have hne : a0.toList ≠ [] := by
      rw [toList_data]; intro hc; rw [hc] at hl; cases hl
    have hE : a0.toList.isEmpty = false := by
      cases hh : a0.toList with
      | nil => exact absurd hh hne
      | cons _ _ => rfl
    have hE2 : a0.data.toList.isEmpty = false := by
      cases hh : a0.data.toList with
      | nil => rw [hh] at hl; cases hl
      | cons _ _ => rfl
    have hlen : a0.data.toList.length = a0.size := by rw [Array.length_toList]; rfl
    obtain ⟨AB, hAB⟩ : ∃ AB, a0.data.toList.all digB = AB := ⟨_, rfl⟩
    unfold natB
    rw [hAB, hE2, hlen]
    rw [hAB] at CF
    clear hAB hE2 hlen
    by_cases h1 : a0.size = 1
    · have hgt : decide ((1 : Int) < (a0.size : Int)) = false := decide_eq_false (by omega)
      go_enter Tryz.func36, Tryz.ntmps36
      go_wp2_with (go_at_call 72; with_reducible refine (CF.out _).mono ?_; rintro e w' ⟨rfl, hb⟩)
      go_ret
      exact ⟨by rw [h1]; simp, hb⟩
    · have hgt : decide ((1 : Int) < (a0.size : Int)) = true := decide_eq_true (by omega)
      have hp : 0 < a0.size := Nat.pos_of_ne_zero h0
      have hne1 : (a0.size == 1) = false := by simpa using h1
      obtain ⟨v, hv⟩ : ∃ v : UInt8, a0[0]'hp = v := ⟨_, rfl⟩
      have hh : a0.data.toList.head? = some v := by
        rw [← hv]
        rw [List.head?_eq_getElem?, List.getElem?_eq_getElem hl, Array.getElem_toList]; rfl
      rw [hh, hne1]
      by_cases h48 : v = 48
      · subst h48
        have hi : ((a0[0]'hp).toNat : Int) = 48 := by rw [hv]; rfl
        go_enter Tryz.func36, Tryz.ntmps36
        go_wp2_with (go_at_call 72; with_reducible refine (CF.out _).mono ?_; rintro e w' ⟨rfl, hb⟩)
        go_ret
        exact ⟨by simp, Below.refl _ _⟩
      · have hi : ((v.toNat : Int) == 48) = false := by
          simp only [beq_eq_false_iff_ne, ne_eq]
          intro hc
          exact h48 (UInt8.toNat.inj (by show v.toNat = 48; omega))
        go_enter Tryz.func36, Tryz.ntmps36
        go_wp2_with (go_at_call 72; with_reducible refine (CF.out _).mono ?_; rintro e w' ⟨rfl, hb⟩)
        go_ret
        exact ⟨by simp [h48], hb⟩
end Go.Proofs.YtpncflaoikeidaaGreatDoor.P
namespace Go.Proofs.YtpncflaoikeidaaGreatDoor.H
open Go.RowKit Go.Proofs.YtpncflaoikeidaaGreatDoorW.PrintWords Go.Proofs.YtpncflaoikeidaaGreatDoorW.PrintLast Go.Proofs.YtpncflaoikeidaaGreatDoorW.PrintMore
theorem info56 : (Tryz.prog.info? 56).map (fun i => (i.zero, i.size, i.bytes)) = some (some (.int .u32 0), 1, 4) := by kernel_rfl

set_option maxHeartbeats 1000000 in
set_option maxRecDepth 100000 in
theorem put_any (x : Int) (h0 : 0 ≤ x) (h1 : x < 18446744073709551616) (B Bo Bc : Nat) (v : Value) (c : Value) (xs : List Int) (w : World)
    (ho : w.heap[Bo]? = some (.cells #[v] 23 (0, 0))) (hc : w.heap[Bc]? = some (.cells #[c] 60 (0, 0))) (hBo : B ≤ Bo) (hBc : B ≤ Bc)
    (hR : Kd.R (Kd.int .u32) 56 w B (fun _ => True) v xs) (hl : xs.length < 35184372088831) (hBw : B ≤ w.heap.size) :
    Calls Tryz.prog 101 #[.int .u64 x, .pointer (some ⟨Bo, 0, none⟩), .pointer (some ⟨Bc, 0, none⟩)] w fun e w' => e = .returned (.tuple #[]) ∧
      ∃ v', w'.heap[Bo]? = some (.cells #[v'] 23 (0, 0)) ∧ w'.heap[Bc]? = some (.cells #[.int .u64 (x / 4294967296)] 60 (0, 0)) ∧ Kd.R (Kd.int .u32) 56 w' B (fun _ => True) v' (xs ++ [x % 4294967296]) ∧ Below B w w' := by
  have c1 : w.cell? ⟨Bo, 0, none⟩ = some v := (blk_cell ho 0).trans rfl
  have f1 := blk_frozen ho 0
  have hne : Bo ≠ Bc := blk_ne ho hc (by decide)
  have hne2 : Bc ≠ Bo := Ne.symm hne
  have lo := blk_lt ho
  have lc := blk_lt hc
  have HO := Aside0.mk ho
  have HC := Aside0.mk hc
  have HR := Aside0.mk hR
  have HL := Aside0.mk hl
  clear ho hc hR hl
  go_enter Tryz.func101, Tryz.ntmps101
  go_wp2_with ((at_builtin; refine Kd.R_append (Kd.int .u32) (w0 := w) B rfl (.tmp 4) (.tmp 7) 23 56 (.int .u32 0) 4 rfl Tryz.underlying23 info56 rfl (by decide) (by omega) v xs (x % 4294967296) [.int .u32 (x % 4294967296)] (fun _ => True) (fun _ => False) rfl rfl ?aP (fun _ hk => hk.elim) ?aF ?aO ?aB ?aS ?aL ?_; (case aP => exact rfl); (case aB => exact Below.refl _ _); (case aF => exact (fun _ _ => trivial)); (case aO => exact HR.out); (case aS => exact hBw); (case aL => have := HL.out; omega); intro v' w1 ho1 hb1 hg1 ha1; have HO1 := Aside0.mk (blk_grown HO.out hg1 (Kd.R_ne HR.out HO.out (by decide))); have HC1 := Aside0.mk (blk_grown HC.out hg1 (Kd.R_ne HR.out HC.out (by decide))); have e1 : w1.cell? ⟨Bo, 0, none⟩ = some v := (blk_cell HO1.out 0).trans rfl; have e2 := blk_frozen HO1.out 0; have e3 := blk_frozen HC1.out 0; have e4 : w1.cell? ⟨Bc, 0, none⟩ = some c := (blk_cell HC1.out 0).trans rfl; have HO2 := Aside0.mk ho1; obtain ⟨Ao, co, eo⟩ := Kd.R_slice ho1; subst eo; have HB1 := Aside0.mk hb1; clear ho1 hg1 ha1 hb1))
  go_end0
  refine ⟨rfl, .slice Ao (xs.length + 1) co, ?_, ?_, ?_, ?_⟩
  · exact blk_far (blk_put (cs := #[v]) HO1.out 0 _ rfl) hne _
  · exact blk_put (cs := #[c]) (blk_far HC1.out hne2 _) 0 _ rfl
  · have h := HO2.out
    rw [List.length_append, List.length_singleton] at h
    exact Kd.R_set (Kd.R_set h HO1.out (by decide) 0 _) (blk_far HC1.out hne2 _) (by decide) 0 _
  · exact (HB1.out.setCell (p := ⟨Bo, 0, none⟩) hBo _).setCell (p := ⟨Bc, 0, none⟩) hBc _
end Go.Proofs.YtpncflaoikeidaaGreatDoor.H
namespace Go.Proofs.YtpncflaoikeidaaGreatDoor.P
open Go.RowKit Go.Proofs.YtpncflaoikeidaaGreatDoorW.PrintWords Go.Proofs.YtpncflaoikeidaaGreatDoorW.PrintLast Go.Proofs.YtpncflaoikeidaaGreatDoorW.PrintMore
attribute [local go_sem] max2_int max_two
set_option linter.unusedVariables false
set_option linter.unusedSimpArgs false
def nat_top.l0 : Nat → List Int → Int → Option (Int)
  | 0, _, _ => none
  | k + 1, x0, x3 => if x3 > 0 then (if 0 ≤ (wrap64 (x3 - 1)) then (if (wrap64 (x3 - 1)) < (x0.length : Int) then (if (rd x0 (wrap64 (x3 - 1))) = 0 then (nat_top.l0 k x0 (wrap64 (x3 - 1))) else (some x3)) else (none)) else (none)) else (some x3)
def nat_top.f (k : Nat) (l0 : List Int) : Option (Int) := nat_top.l0 k l0 (l0.length : Int)
set_option maxHeartbeats 8000000 in
set_option maxRecDepth 100000 in
theorem nat_top.calls (k : Nat) (A0 : Option Addr) (c0 : Nat) (l0 : List Int) (r : Int) (w : World) (hr0 : Kd.C (Kd.int .u32) w A0 l0.length l0) (hc0 : l0.length ≤ c0) (h : nat_top.f k l0 = some r) :
    Calls Tryz.prog 80 #[.slice A0 l0.length c0] w fun e w' => e = .returned (.int .i64 r) ∧ Drawn0 w w' := by
  have HR0 := Aside0.mk hr0
  have HC0 := Aside0.mk hc0
  clear hr0 hc0
  have H : (nat_top.l0 k l0 (l0.length : Int)) = some r := h
  clear h
  have H' := Aside0.mk H
  clear H
  go_enter Tryz.func80, Tryz.ntmps80
  go_wp2
  go_loopg [3] k (fun kq v3 w' => ∃ (x3_1 : Int), v3 = .int .i64 x3_1 ∧ Aside0 (nat_top.l0 kq l0 x3_1 = some r) ∧ Aside0 (kq ≤ k) ∧ Drawn0 w w')
  case atStart => exact ⟨((l0.length : Int)), (by first | rfl | (simp; done) | (simp [*]; done)), H', ⟨Nat.le_refl _⟩, by repeat (first | exact Drawn0.refl _ | apply Drawn0.step)⟩
  case round =>
    clear H'
    obtain ⟨x3_1, rfl, HA, HK1, ⟨m1, rfl⟩⟩ := hrel
    cases gk with
    | zero => exact absurd HA.out (by simp [nat_top.l0])
    | succ k1 =>
      have H := HA.out
      clear HA
      simp only [nat_top.l0] at H
      by_cases c2 : x3_1 > 0
      · rw [if_pos c2] at H
        have c2b0 : decide (0 < x3_1) = true := decide_eq_true c2
        clear c2
        obtain ⟨ji3, hji3⟩ : ∃ j_ : Int, (wrap64 (x3_1 - 1)) = j_ := ⟨_, rfl⟩
        first | rewrite [hji3] at H | simp only [hji3] at H
        have hji3w : (IntKind.i64.wrap (x3_1 - 1)) = ji3 := (i64_w _).trans hji3
        by_cases c4 : 0 ≤ (ji3)
        · rw [if_pos c4] at H
          have c4b0 : decide (0 ≤ (ji3)) = true := decide_eq_true c4
          clear c4
          by_cases c5 : (ji3) < (l0.length : Int)
          · rw [if_pos c5] at H
            have c5b0 : decide ((ji3) < (l0.length : Int)) = true := decide_eq_true c5
            clear c5
            by_cases c6 : (rd l0 (ji3)) = 0
            · rw [if_pos c6] at H
              have c6b0 : ((rd l0 (ji3)) == 0) = true := beq_iff_eq.mpr c6
              have c6b1 : ((rd l0 (ji3)) != 0) = false := bne_eq_false_iff_eq.mpr c6
              clear c6
              have H' := Aside0.mk H
              clear H
              have p101 : 0 ≤ ((ji3) : Int) := of_decide_eq_true (by first | (with_reducible assumption) | assumption)
              have q101 : (ji3) < (l0.length : Int) := of_decide_eq_true (by first | (with_reducible assumption) | assumption)
              obtain ⟨ad101, e101, hx101_0⟩ := Kd.at_int HR0.out (ji3) p101 q101
              cases e101
              replace p101 := eq_true p101
              replace q101 := eq_true q101
              go_wp2
              go_roundg k1
              case measure => have := HK1.out; omega
              case rel => exact ⟨(ji3), (by first | rfl | (simp; done) | (simp only [← hji3] <;> (first | rfl | simp)) | (simp [*]; done)), H', ⟨by have := HK1.out; omega⟩, by repeat (first | exact Drawn0.refl _ | apply Drawn0.step)⟩
            · rw [if_neg c6] at H
              have c6b0 : ((rd l0 (ji3)) == 0) = false := beq_eq_false_iff_ne.mpr c6
              have c6b1 : ((rd l0 (ji3)) != 0) = true := bne_iff_ne.mpr c6
              obtain rfl := Option.some.inj H
              have p101 : 0 ≤ ((ji3) : Int) := of_decide_eq_true (by first | (with_reducible assumption) | assumption)
              have q101 : (ji3) < (l0.length : Int) := of_decide_eq_true (by first | (with_reducible assumption) | assumption)
              obtain ⟨ad101, e101, hx101_0⟩ := Kd.at_int HR0.out (ji3) p101 q101
              cases e101
              replace p101 := eq_true p101
              replace q101 := eq_true q101
              go_wp2
              go_ret
              exact ⟨by first | rfl | (simp; done) | (simp only [← hji3] <;> (first | rfl | simp)) | (simp [*]; done), by repeat (first | exact Drawn0.refl _ | apply Drawn0.step)⟩
          · rw [if_neg c5] at H
            exact absurd H (by simp)
        · rw [if_neg c4] at H
          exact absurd H (by simp)
      · rw [if_neg c2] at H
        have c2b0 : decide (0 < x3_1) = false := decide_eq_false c2
        clear c2
        obtain rfl := Option.some.inj H
        go_wp2
        go_ret
        exact ⟨by first | rfl | (simp; done) | (simp [*]; done), by repeat (first | exact Drawn0.refl _ | apply Drawn0.step)⟩

end Go.Proofs.YtpncflaoikeidaaGreatDoor.P
namespace Go.Proofs.YtpncflaoikeidaaGreatDoor.H
open Go.RowKit Go.Proofs.YtpncflaoikeidaaGreatDoorW.PrintWords Go.Proofs.YtpncflaoikeidaaGreatDoorW.PrintLast Go.Proofs.YtpncflaoikeidaaGreatDoorW.PrintMore Go.Proofs.YtpncflaoikeidaaGreatDoor.P
attribute [local go_sem] max2_int max_two
theorem top_l0 (l : List Int) (hl : l.length < 4611686018427387904) : ∀ (i k : Nat), i ≤ l.length → i < k → nat_top.l0 k l (i : Int) = some ((topN (l.take i) : Nat) : Int)
  | 0, k + 1, _, _ => by simp [nat_top.l0, topN]
  | i + 1, k + 1, hi, hk => by
    have e1 : wrap64 (((i + 1 : Nat) : Int) - 1) = (i : Int) := by unfold wrap64; omega
    have e2 : rd l (i : Int) = l[i]'(by omega) := by unfold rd; simp [List.getD_eq_getElem?_getD, List.getElem?_eq_getElem (show i < l.length by omega)]
    simp only [nat_top.l0]
    rw [if_pos (by omega), e1, if_pos (by omega), if_pos (by omega), e2, List.take_succ_eq_append_getElem (by omega), topN_snoc]
    by_cases h : l[i]'(by omega) = 0
    · rw [if_pos h, if_pos h]
      exact top_l0 l hl i k (by omega) (by omega)
    · rw [if_neg h, if_neg h, List.length_take, Nat.min_eq_left (by omega)]
theorem top_f (l : List Int) (hl : l.length < 4611686018427387904) (k : Nat) (hk : l.length < k) : nat_top.f k l = some ((topN l : Nat) : Int) := by
  unfold nat_top.f
  rw [top_l0 l hl l.length k (Nat.le_refl _) hk, List.take_length]

/-- What a closure handed to gather does at i: it hands back f i; what J says goes on; of gather's own blocks (from B on) none is touched. -/
def AtGives (g : Nat) (lb : Array Value) (f : Nat → Nat) (J : Nat → World → Prop) (B n : Nat) : Prop :=
  ∀ (i : Nat) (W : World), i < n → J i W → B ≤ W.heap.size → Calls Tryz.prog g (#[.int .i64 (i : Int)] ++ lb) W fun e W' => e = .returned (.int .u64 ((f i : Nat) : Int)) ∧ J (i + 1) W' ∧ W.heap.size ≤ W'.heap.size ∧ ∀ b, B ≤ b → b < W.heap.size → W'.heap[b]? = W.heap[b]?

structure St (f : Nat → Nat) (J : Nat → World → Prop) (B i : Nat) (xs : List Int) (c : Nat) (W : World) : Prop where
  j : J i W
  size : B + 2 ≤ W.heap.size
  row : ∃ v, W.heap[B]? = some (.cells #[v] 23 (0, 0)) ∧ Kd.R (Kd.int .u32) 56 W B (fun _ => True) v xs
  car : W.heap[B + 1]? = some (.cells #[.int .u64 ((c : Nat) : Int)] 60 (0, 0))

set_option maxHeartbeats 1000000 in
set_option maxRecDepth 100000 in
theorem gather_any (n : Nat) (g : Nat) (lb : Array Value) (f : Nat → Nat) (J : Nat → World → Prop) (w : World) (hn : n < 1000000000)
    (eg : ∀ args w, (callFunc g args).run Tryz.prog w = .ok (.enter g args) w)
    (hf : ∀ i, i < n → f i + gcar f i < 18446744073709551616) (h0 : J 0 w)
    (hstab : ∀ i W W1, J i W → Below w.heap.size W W1 → w.heap.size ≤ W.heap.size → J i W1)
    (hat : AtGives g lb f J w.heap.size n) :
    Calls Tryz.prog 65 #[.int .i64 (n : Int), .func (.func g) #[] lb] w fun e w' => ∃ v, e = .returned v ∧ Kd.R (Kd.int .u32) 56 w' w.heap.size (fun _ => True) v (limbs (gsum f n)) ∧ J n w' ∧ w.heap.size ≤ w'.heap.size := by
  go_enter Tryz.func65, Tryz.ntmps65
  go_wp2
  go_loopw [8, 11] (fun _ v11 wr => ∃ i : Nat, i ≤ n ∧ v11 = .int .i64 (i : Int) ∧ Aside0 (St f J w.heap.size i (gout f i) (gcar f i) wr)) (fun _ v11 _ => n - (intOf v11).toNat)
  case atStart => exact ⟨0, Nat.zero_le _, rfl, ⟨hstab 0 _ _ h0 ((Below.refl _ _).alloc (Nat.le_refl _) _ |>.alloc (by simp) _) (Nat.le_refl _), by simp, ⟨_, blk_alloc (heap_alloc_new _ _) _, Kd.R_nil _ _ _ _ _⟩, (by have h := heap_alloc_new (w.alloc (.cells #[.slice none 0 0] 23)) (.cells #[.int .u64 0] 60); rw [World.size_alloc] at h; exact h)⟩⟩
  case round =>
    obtain ⟨i, hi, rfl, hS⟩ := hrel
    by_cases hlt : i < n
    · have hcar : wr.cell? ⟨w.heap.size + 1, 0, none⟩ = some (.int .u64 ((gcar f i : Nat) : Int)) := (blk_cell hS.out.car 0).trans rfl
      obtain ⟨v, hv, hR⟩ := hS.out.row
      have HV := Aside0.mk hv
      have HR := Aside0.mk hR
      have HF := Aside0.mk (hf i hlt)
      have HAT := Aside0.mk hat
      have HST := Aside0.mk hstab
      clear hv hR hat hstab hf h0
      have hp0 : (0 : Int) ≤ ((f i : Nat) : Int) := Int.natCast_nonneg _
      have hp1 : (0 : Int) ≤ ((gcar f i : Nat) : Int) := Int.natCast_nonneg _
      have hp2 : ((f i : Nat) : Int) + ((gcar f i : Nat) : Int) < 18446744073709551616 := by have := HF.out; omega
      have hwr : IntKind.u64.wrap (((f i : Nat) : Int) + ((gcar f i : Nat) : Int)) = ((f i : Nat) : Int) + ((gcar f i : Nat) : Int) := IntWalk.u64_in _ (by omega)
      go_wp2_with fail
      refine start_ (n := 7) (S := fun w' => w'.cell? ⟨w.heap.size + 1, 0, none⟩ = some (.int .u64 ((gcar f i : Nat) : Int))) (ds := [6]) #[false, false, false, false, false, false, false] (by kernel_rfl) rfl rfl hcar (fun hHeld => ?_)
      refine pure_ (i := 0) (N := some 14) (v := ?_) (a' := ?_) #[true, false, false, false, false, false, false] rfl rfl (by kernel_rfl) (fun _ _ _ h => h) (Or.inl ⟨by rfl, ?_⟩) ?_ ?_
      rotate_left
      · intro w'
        go_simp
        with_reducible rfl
      rotate_left
      · simp only [Act.put, List.setIfInBounds_toArray, List.set_cons_zero, List.set_cons_succ]
        rfl
      refine pure_ (i := 1) (N := some 15) (v := ?_) (a' := ?_) #[true, true, false, false, false, false, false] rfl rfl (by kernel_rfl) (fun _ _ _ h => h) (Or.inl ⟨by rfl, ?_⟩) ?_ ?_
      rotate_left
      · intro w'
        go_simp
        with_reducible rfl
      rotate_left
      · simp only [Act.put, List.setIfInBounds_toArray, List.set_cons_zero, List.set_cons_succ]
        rfl
      refine pure_ (i := 2) (N := some 16) (v := ?_) (a' := ?_) #[true, true, true, false, false, false, false] rfl rfl (by kernel_rfl) (fun _ _ _ h => h) (Or.inl ⟨by rfl, ?_⟩) ?_ ?_
      rotate_left
      · intro w'
        go_simp
        with_reducible rfl
      rotate_left
      · simp only [Act.put, List.setIfInBounds_toArray, List.set_cons_zero, List.set_cons_succ]
        rfl
      refine take_ (i := 4) (N := some 18) (v := ?_) (a' := ?_) #[true, true, true, false, true, false, false] rfl rfl (by kernel_rfl) (fun _ _ _ h => h) (Or.inl ⟨by rfl, ?_⟩) hHeld ?_ ?_
      rotate_left
      · rintro w' s0
        go_simp
        with_reducible rfl
      rotate_left
      · simp only [Act.put, List.setIfInBounds_toArray, List.set_cons_zero, List.set_cons_succ]
        rfl
      refine one_ (i := 3) (N := some 17) #[true, true, true, true, true, false, false] rfl rfl (by kernel_rfl) (by decide) (fun K hK => ?_)
      refine call_ g (#[.int .i64 (i : Int)] ++ lb) (by rfl) rfl (by unfold execOp; simp [resolve, Deferred.ofValue, invoke, Act.eval, eg]) ?_
      refine (HAT.out i _ hlt (HST.out i wr _ hS.out.j (below_drew1 (Below.refl _ _)) (by have := hS.out.size; omega)) (by have := hS.out.size; simp; omega)).mono ?_
      rintro e W1 ⟨rfl, hJ1, hsz1, hk1⟩
      refine ⟨_, rfl, ?_⟩
      have HO1 := Aside0.mk ((hk1 w.heap.size (Nat.le_refl _) (by have := hS.out.size; simp; omega)).trans HV.out)
      have HC1 := Aside0.mk ((hk1 (w.heap.size + 1) (by omega) (by have := hS.out.size; simp; omega)).trans hS.out.car)
      have HK1 := Aside0.mk hk1
      have HJ1 := Aside0.mk hJ1
      clear hk1 hJ1
      refine hK.out _ _ ((blk_cell HC1.out 0).trans rfl) (fun hHeld => ?_)
      clear hK K
      refine norm_ (a' := ?_) ?_ ?_
      rotate_left
      · show Act.put _ (some 17) _ = _
        simp only [Act.put, List.setIfInBounds_toArray, List.set_cons_zero, List.set_cons_succ]
        rfl
      refine pure_ (i := 5) (N := some 19) (v := ?_) (a' := ?_) #[true, true, true, true, true, true, false] rfl rfl (by kernel_rfl) (fun _ _ _ h => h) (Or.inl ⟨by rfl, ?_⟩) ?_ ?_
      rotate_left
      · intro w'
        go_simp
        with_reducible rfl
      rotate_left
      · simp only [Act.put, List.setIfInBounds_toArray, List.set_cons_zero, List.set_cons_succ]
        rfl
      refine last_ (i := 6) (N := some 20) #[true, true, true, true, true, true, true] rfl rfl (by kernel_rfl) (by decide) (fun K hK => ?_)
      refine call_ 101 #[.int .u64 (((f i : Nat) : Int) + ((gcar f i : Nat) : Int)), .pointer (some ⟨w.heap.size, 0, none⟩), .pointer (some ⟨w.heap.size + 1, 0, none⟩)] (by rfl) rfl (by have ep := enters_ Tryz.func101 (by kernel_rfl) rfl; unfold execOp; simp [resolve, Deferred.ofValue, invoke, Act.eval, ep]) ?_
      refine (put_any _ (by omega) hp2 w.heap.size w.heap.size (w.heap.size + 1) v _ (gout f i) _ HO1.out HC1.out (Nat.le_refl _) (by omega) (Kd.R_mono (Kd.R_step (Kd.R_bound HR.out) (fun k hk hlt => HK1.out k hk.2.1 hlt)) (fun _ _ => trivial)) (by rw [gout_length]; omega) (by have := hS.out.size; simp at hsz1; omega)).mono ?_
      rintro e W2 ⟨rfl, v2, ho2, hc2, hR2, hb2⟩
      refine ⟨_, rfl, ?_⟩
      have HO2 := Aside0.mk ho2
      have HC2 := Aside0.mk hc2
      have HR2 := Aside0.mk hR2
      have HB2 := Aside0.mk hb2
      clear ho2 hc2 hR2 hb2
      refine hK.out _ _ ?_
      clear hK K
      refine done_ (by kernel_rfl) ?_
      go_wp2
      go_roundw
      case rel =>
        refine ⟨i + 1, by omega, by go_num, ⟨HST.out _ _ _ HJ1.out (HB2.out.mono ?_) ?_, ?_, ⟨v2, HO2.out, ?_⟩, ?_⟩⟩
        · have := hS.out.size; simp at hsz1; omega
        · have := hS.out.size; simp at hsz1; omega
        · have := hS.out.size; have := HB2.out.size; simp at hsz1; omega
        · exact HR2.out
        · have := HC2.out
          rw [gcar]
          exact this
      case measure => simp [intOf]; omega
    · obtain rfl : i = n := by omega
      have HG : Aside0 (gcar f i < 18446744073709551616) := ⟨by
        cases i with
        | zero => simp [gcar]
        | succ m => have := hf m (by omega); rw [gcar]; omega⟩
      clear hlt hi hat h0 hf
      have HST := Aside0.mk hstab
      clear hstab
      go_wp2
      go_loopg [] 2 (fun gk wr2 => ∃ (c : Nat) (xs : List Int), Aside0 (St f J w.heap.size i xs c wr2) ∧ Aside0 (xs ++ glast gk c = gout f i ++ glast 2 (gcar f i)) ∧ Aside0 (c < 4294967296 ^ gk) ∧ Aside0 (xs.length + gk ≤ i + 2) ∧ Aside0 (gk ≤ 2))
      case atStart => exact ⟨_, _, hS, ⟨rfl⟩, ⟨HG.out⟩, ⟨by rw [gout_length]; exact Nat.le_refl _⟩, ⟨Nat.le_refl _⟩⟩
      case round =>
        obtain ⟨c, xs, hS2, HE, HLT, HLEN, HG2⟩ := hrel
        have hcar : wr.cell? ⟨w.heap.size + 1, 0, none⟩ = some (.int .u64 ((c : Nat) : Int)) := (blk_cell hS2.out.car 0).trans rfl
        obtain ⟨v, hv, hR⟩ := hS2.out.row
        have HV := Aside0.mk hv
        have HR := Aside0.mk hR
        clear hv hR
        by_cases hc : 0 < c
        · have hc' : (0 : Int) < ((c : Nat) : Int) := by omega
          obtain ⟨g', rfl⟩ : ∃ g', gk = g' + 1 := ⟨gk - 1, by have := HLT.out; rcases gk with _ | gk <;> simp at this ⊢; omega⟩
          have HC2 : Aside0 (c < 18446744073709551616) := ⟨by
            have h1 := HLT.out
            have h2 := HLEN.out
            have h3 : 4294967296 ^ (g' + 1) ≤ 4294967296 ^ 2 := Nat.pow_le_pow_right (by decide) HG2.out
            omega⟩
          go_wp2_with (go_at_call 101; refine (put_any _ (by omega) (by have := HC2.out; omega) w.heap.size w.heap.size (w.heap.size + 1) v _ xs _ HV.out hS2.out.car (Nat.le_refl _) (by omega) HR.out (by have := HLEN.out; omega) (by have := hS2.out.size; omega)).mono ?_; rintro e W2 ⟨rfl, v2, ho2, hc2, hR2, hb2⟩; have HO2 := Aside0.mk ho2; have HC3 := Aside0.mk hc2; have HR2 := Aside0.mk hR2; have HB2 := Aside0.mk hb2; clear ho2 hc2 hR2 hb2)
          go_roundg g'
          case measure => omega
          case rel =>
            refine ⟨c / 4294967296, xs ++ [((c : Nat) : Int) % 4294967296], ⟨HST.out _ _ _ hS2.out.j (HB2.out.mono ?_) ?_, ?_, ⟨v2, HO2.out, HR2.out⟩, ?_⟩, ⟨?_⟩, ⟨?_⟩, ⟨?_⟩, ⟨?_⟩⟩
            · exact Nat.le_refl _
            · have := hS2.out.size; omega
            · have := hS2.out.size; have := HB2.out.size; omega
            · exact HC3.out
            · have h := HE.out
              rw [glast, if_pos hc] at h
              rw [← h, List.append_assoc]; rfl
            · have h := HLT.out
              rw [Nat.pow_succ] at h
              exact Nat.div_lt_of_lt_mul (by rw [Nat.mul_comm]; exact h)
            · have := HLEN.out; simp; omega
            · have := HG2.out; omega
        · have hc' : ¬ (0 : Int) < ((c : Nat) : Int) := by omega
          have hall : xs = gout f i ++ glast 2 (gcar f i) := by
            have h := HE.out
            have h0 : glast gk c = [] := by cases gk <;> simp [glast, hc]
            rw [h0, List.append_nil] at h
            exact h
          have hlen : xs.length ≤ i + 2 := by have := HLEN.out; omega
          have htop := top_f xs (by omega) (xs.length + 1) (by omega)
          have hle := topN_le xs
          have hg := gall f i HG.out
          rw [← hall] at hg
          obtain ⟨m, hm⟩ : ∃ m, topN xs = m := ⟨_, rfl⟩
          rw [hm] at htop hle hg
          have HALL := Aside0.mk hg
          have HTOP := Aside0.mk htop
          clear hall hg htop hm HE
          obtain ⟨A, co, rfl, hcap, hCC⟩ := Kd.R_reads HR.out
          have HCC := Aside0.mk hCC
          clear hCC
          have hcv : wr.cell? ⟨w.heap.size, 0, none⟩ = some (.slice A xs.length co) := (blk_cell HV.out 0).trans rfl
          have hm0 : (0 : Int) ≤ ((m : Nat) : Int) := Int.natCast_nonneg _
          have hm1 : ((m : Nat) : Int) ≤ ((xs.length : Nat) : Int) := by omega
          have hm2 : ((m : Nat) : Int) ≤ ((co : Nat) : Int) := by omega
          go_wp2
          go_quiet ((go_at_call 80; exact Calls.quiet_of ((nat_top.calls (xs.length + 1) A co xs _ _ (Kd.C_drewN HCC.out _) hcap HTOP.out).mono fun _ _ ⟨he, hd⟩ => ⟨he, hd.out⟩)))
          go_wp2
          go_ret
          refine ⟨.slice A m co, rfl, ?_, HST.out _ _ _ hS2.out.j (pw_below_drewN (Below.refl _ _) _) ?_, ?_⟩
          · rw [← HALL.out]
            exact Kd.R_drewN (Kd.R_take HR.out hle) _
          · have := hS2.out.size; omega
          · have := hS2.out.size; simp; omega
end Go.Proofs.YtpncflaoikeidaaGreatDoor.H
namespace Go.Proofs.YtpncflaoikeidaaGreatDoor.P
open Go.RowKit Go.Proofs.YtpncflaoikeidaaGreatDoorW.PrintWords Go.Proofs.YtpncflaoikeidaaGreatDoorW.PrintLast Go.Proofs.YtpncflaoikeidaaGreatDoorW.PrintMore
attribute [local go_sem] max2_int max_two
set_option linter.unusedVariables false
set_option linter.unusedSimpArgs false
def nat_limb.f (l0 : List Int) (a1 : Int) : Option (Int) := if a1 < 0 then (some 0) else (if a1 ≥ (l0.length : Int) then (some 0) else (if 0 ≤ a1 then (if a1 < (l0.length : Int) then (some (IntKind.u64.wrap (rd l0 a1))) else (none)) else (none)))
set_option maxHeartbeats 8000000 in
set_option maxRecDepth 100000 in
theorem nat_limb.calls (A0 : Option Addr) (c0 : Nat) (l0 : List Int) (a1 : Int) (r : Int) (w : World) (hr0 : Kd.C (Kd.int .u32) w A0 l0.length l0) (hc0 : l0.length ≤ c0) (h : nat_limb.f l0 a1 = some r) :
    Calls Tryz.prog 64 #[.slice A0 l0.length c0, .int .i64 a1] w fun e w' => e = .returned (.int .u64 r) ∧ Drawn0 w w' := by
  have HR0 := Aside0.mk hr0
  have HC0 := Aside0.mk hc0
  clear hr0 hc0
  have H : (if a1 < 0 then (some 0) else (if a1 ≥ (l0.length : Int) then (some 0) else (if 0 ≤ a1 then (if a1 < (l0.length : Int) then (some (IntKind.u64.wrap (rd l0 a1))) else (none)) else (none)))) = some r := h
  clear h
  by_cases c3 : a1 < 0
  · rw [if_pos c3] at H
    have c3b0 : decide (a1 < 0) = true := decide_eq_true c3
    clear c3
    obtain rfl := Option.some.inj H
    go_enter Tryz.func64, Tryz.ntmps64
    go_wp2
    go_ret
    exact ⟨by first | rfl | (simp; done) | (simp [*]; done), by repeat (first | exact Drawn0.refl _ | apply Drawn0.step)⟩
  · rw [if_neg c3] at H
    have c3b0 : decide (a1 < 0) = false := decide_eq_false c3
    clear c3
    by_cases c4 : a1 ≥ (l0.length : Int)
    · rw [if_pos c4] at H
      have c4b0 : decide ((l0.length : Int) ≤ a1) = true := decide_eq_true c4
      clear c4
      obtain rfl := Option.some.inj H
      go_enter Tryz.func64, Tryz.ntmps64
      go_wp2
      go_ret
      exact ⟨by first | rfl | (simp; done) | (simp [*]; done), by repeat (first | exact Drawn0.refl _ | apply Drawn0.step)⟩
    · rw [if_neg c4] at H
      have c4b0 : decide ((l0.length : Int) ≤ a1) = false := decide_eq_false c4
      clear c4
      by_cases c5 : 0 ≤ a1
      · rw [if_pos c5] at H
        have c5b0 : decide (0 ≤ a1) = true := decide_eq_true c5
        clear c5
        by_cases c6 : a1 < (l0.length : Int)
        · rw [if_pos c6] at H
          have c6b0 : decide (a1 < (l0.length : Int)) = true := decide_eq_true c6
          clear c6
          obtain rfl := Option.some.inj H
          have p143 : 0 ≤ (a1 : Int) := of_decide_eq_true (by first | (with_reducible assumption) | assumption)
          have q143 : a1 < (l0.length : Int) := of_decide_eq_true (by first | (with_reducible assumption) | assumption)
          obtain ⟨ad143, e143, hx143_0⟩ := Kd.at_int HR0.out a1 p143 q143
          cases e143
          replace p143 := eq_true p143
          replace q143 := eq_true q143
          go_enter Tryz.func64, Tryz.ntmps64
          go_wp2
          go_ret
          exact ⟨by first | rfl | (simp; done) | (simp [*]; done), by repeat (first | exact Drawn0.refl _ | apply Drawn0.step)⟩
        · rw [if_neg c6] at H
          exact absurd H (by simp)
      · rw [if_neg c5] at H
        exact absurd H (by simp)

end Go.Proofs.YtpncflaoikeidaaGreatDoor.P
namespace Go.Proofs.YtpncflaoikeidaaGreatDoor.H
open Go.RowKit Go.Proofs.YtpncflaoikeidaaGreatDoorW.PrintWords Go.Proofs.YtpncflaoikeidaaGreatDoorW.PrintLast Go.Proofs.YtpncflaoikeidaaGreatDoorW.PrintMore Go.Proofs.YtpncflaoikeidaaGreatDoor.P
attribute [local go_sem] max2_int max_two
theorem rd_lim {l : List Int} (hl : okl l) (i : Nat) : rd l (i : Int) = ((lim l i : Nat) : Int) := by
  unfold rd lim
  rw [Int.toNat_natCast]
  rcases Nat.lt_or_ge i l.length with h | h
  · rw [List.getD_eq_getElem?_getD, List.getElem?_eq_getElem h]
    have := hl _ (List.getElem_mem h)
    simp only [Option.getD_some]
    omega
  · rw [List.getD_eq_getElem?_getD, List.getElem?_eq_none h]; rfl
theorem limb_f {l : List Int} (hl : okl l) (i : Nat) : nat_limb.f l (i : Int) = some ((lim l i : Nat) : Int) := by
  unfold nat_limb.f
  rw [if_neg (by omega)]
  have h3 := lim_lt hl i
  by_cases h : ((i : Nat) : Int) ≥ (l.length : Int)
  · rw [if_pos h, lim_out (by omega)]; rfl
  · rw [if_neg h, if_pos (by omega), if_pos (by omega), rd_lim hl, IntWalk.u64_in _ (by omega)]
theorem limb_neg (l : List Int) (i : Int) (h : i < 0) : nat_limb.f l i = some 0 := by
  unfold nat_limb.f
  rw [if_pos h]

set_option maxHeartbeats 400000 in
set_option maxRecDepth 100000 in
theorem add1_any (A0 A1 : Option Addr) (c0 c1 : Nat) (l0 l1 : List Int) (b0 b1 : Nat) (i : Nat) (W : World) (h0 : okl l0) (h1 : okl l1)
    (hr0 : Kd.C (Kd.int .u32) W A0 l0.length l0) (hc0 : l0.length ≤ c0) (hr1 : Kd.C (Kd.int .u32) W A1 l1.length l1) (hc1 : l1.length ≤ c1)
    (hb0 : W.cell? ⟨b0, 0, none⟩ = some (.slice A0 l0.length c0)) (hb1 : W.cell? ⟨b1, 0, none⟩ = some (.slice A1 l1.length c1)) :
    Calls Tryz.prog 110 #[.int .i64 (i : Int), .pointer (some ⟨b0, 0, none⟩), .pointer (some ⟨b1, 0, none⟩)] W fun e W' => e = .returned (.int .u64 ((lim l0 i + lim l1 i : Nat) : Int)) ∧ Drawn0 W W' := by
  have q0 := limb_f h0 i
  have q1 := limb_f h1 i
  have r0 := lim_lt h0 i
  have r1 := lim_lt h1 i
  have HR0 := Aside0.mk hr0
  have HR1 := Aside0.mk hr1
  have Q0 := Aside0.mk q0
  have Q1 := Aside0.mk q1
  clear hr0 hr1 q0 q1 h0 h1
  have hwr : IntKind.u64.wrap (((lim l0 i : Nat) : Int) + ((lim l1 i : Nat) : Int)) = ((lim l0 i + lim l1 i : Nat) : Int) := by rw [IntWalk.u64_in _ (by omega)]; omega
  go_enter Tryz.func110, Tryz.ntmps110
  go_wp2
  have k0 : ∀ nd, Calls Tryz.prog 64 #[.slice A0 l0.length c0, .int .i64 (i : Int)] (W.drewN nd) fun e w' => e = .returned (.int .u64 ((lim l0 i : Nat) : Int)) ∧ ∃ m, w' = W.drewN m := fun nd => Calls.quiet_of ((nat_limb.calls A0 c0 l0 _ _ _ (Kd.C_drewN HR0.out _) hc0 Q0.out).mono fun _ _ ⟨he, hd⟩ => ⟨he, hd.out⟩)
  have k1 : ∀ nd, Calls Tryz.prog 64 #[.slice A1 l1.length c1, .int .i64 (i : Int)] (W.drewN nd) fun e w' => e = .returned (.int .u64 ((lim l1 i : Nat) : Int)) ∧ ∃ m, w' = W.drewN m := fun nd => Calls.quiet_of ((nat_limb.calls A1 c1 l1 _ _ _ (Kd.C_drewN HR1.out _) hc1 Q1.out).mono fun _ _ ⟨he, hd⟩ => ⟨he, hd.out⟩)
  have K0 := Aside0.mk k0
  have K1 := Aside0.mk k1
  clear k0 k1
  go_quiet ((first | (go_at_call 64; with_reducible exact K0.out _) | (go_at_call 64; with_reducible exact K1.out _)))
  go_wp2
  go_ret
  exact ⟨rfl, ⟨⟨_, rfl⟩⟩⟩

theorem blk_of_below {B : Nat} {w w1 : World} {g : Nat} {o : Obj} (h : Below B w w1) (hb : w.heap[g]? = some o) (hg : g < B) : w1.heap[g]? = some o := (h.block g hg).trans hb
end Go.Proofs.YtpncflaoikeidaaGreatDoor.H
namespace Go.Proofs.YtpncflaoikeidaaGreatDoor.P
open Go.RowKit Go.Proofs.YtpncflaoikeidaaGreatDoorW.PrintWords Go.Proofs.YtpncflaoikeidaaGreatDoorW.PrintLast Go.Proofs.YtpncflaoikeidaaGreatDoorW.PrintMore Go.Proofs.YtpncflaoikeidaaGreatDoor.H
attribute [local go_sem] max2_int max_two
/-- nat.Add: the limbs of the sum. -/
def nat_Add.f (l0 l1 : List Int) : Option (List Int) := if okl l0 ∧ okl l1 ∧ l0.length < 1000000 ∧ l1.length < 1000000 then some (limbs (nval l0 + nval l1)) else none
set_option maxHeartbeats 400000 in
set_option maxRecDepth 100000 in
theorem nat_Add.calls (A0 : Option Addr) (c0 : Nat) (l0 : List Int) (A1 : Option Addr) (c1 : Nat) (l1 : List Int) (r : List Int) (w : World) (hr0 : Kd.C (Kd.int .u32) w A0 l0.length l0) (hc0 : l0.length ≤ c0) (hr1 : Kd.C (Kd.int .u32) w A1 l1.length l1) (hc1 : l1.length ≤ c1) (h : nat_Add.f l0 l1 = some r) :
    Calls Tryz.prog 75 #[.slice A0 l0.length c0, .slice A1 l1.length c1] w fun e w' => ∃ v0_ : Value, e = .returned (v0_) ∧ Kd.R (Kd.int .u32) 56 w' w.heap.size (fun _ => True) v0_ r ∧ Below w.heap.size w w' := by
  unfold nat_Add.f at h
  split at h
  case isFalse => cases h
  case isTrue hg =>
  obtain rfl := Option.some.inj h
  clear h
  obtain ⟨o0, o1, n0, n1⟩ := hg
  have hfit : ∀ N, ∀ i, i < N → lim l0 i + lim l1 i + gcar (fun i => lim l0 i + lim l1 i) i < 18446744073709551616 := fun N =>
    gcar_fits (f := fun i => lim l0 i + lim l1 i) (fun i _ => by have := lim_lt o0 i; have := lim_lt o1 i; show _ + _ < _; omega)
  have HS : Aside0 (∀ N, l0.length ≤ N → l1.length ≤ N → gsum (fun i => lim l0 i + lim l1 i) N = nval l0 + nval l1) := ⟨fun N hN0 hN1 => by
    rw [gsum_add, gsum_lim, gsum_lim, List.take_of_length_le hN0, List.take_of_length_le hN1]⟩
  have G := Aside0.mk (fun (N : Nat) (hN : N < 1000000) => gather_any N 110 #[.pointer (some ⟨w.heap.size, 0, none⟩), .pointer (some ⟨w.heap.size + 1, 0, none⟩)] (fun i => lim l0 i + lim l1 i)
    (fun _ W => Below w.heap.size w W ∧ W.heap[w.heap.size]? = some (.cells #[.slice A0 l0.length c0] 23 (0, 0)) ∧ W.heap[w.heap.size + 1]? = some (.cells #[.slice A1 l1.length c1] 23 (0, 0)))
    ((w.alloc (.cells #[.slice A0 l0.length c0] 23)).alloc (.cells #[.slice A1 l1.length c1] 23)) (by omega) (enters_ Tryz.func110 (by kernel_rfl) rfl) (hfit N)
    ⟨((Below.refl _ _).alloc (Nat.le_refl _) _).alloc (by simp) _, blk_alloc (heap_alloc_new _ _) _, by have h := heap_alloc_new (w.alloc (.cells #[.slice A0 l0.length c0] 23)) (.cells #[.slice A1 l1.length c1] 23); rw [World.size_alloc] at h; exact h⟩
    (fun i W W1 ⟨h1, h2, h3⟩ hb hs => ⟨h1.trans (hb.mono (by simp; omega)), blk_of_below hb h2 (by simp; omega), blk_of_below hb h3 (by simp)⟩)
    (fun i W hi ⟨h1, h2, h3⟩ hs => (add1_any A0 A1 c0 c1 l0 l1 _ _ i W o0 o1 (Kd.C_below hr0 h1) hc0 (Kd.C_below hr1 h1) hc1 ((blk_cell h2 0).trans rfl) ((blk_cell h3 0).trans rfl)).mono fun e W' ⟨he, hd⟩ => by
      obtain ⟨q, rfl⟩ := hd.out
      exact ⟨he, ⟨pw_below_drewN h1 _, h2, h3⟩, Nat.le_refl _, fun _ _ _ => rfl⟩))
  clear hfit o0 o1 hr0 hr1
  by_cases hlt : l0.length < l1.length
  · have HN := Aside0.mk hlt
    have G1 := Aside0.mk (G.out l1.length n1)
    clear G n0 n1
    go_enter Tryz.func75, Tryz.ntmps75
    go_wp2_with (go_at_call 65; with_reducible refine G1.out.mono ?_; rintro e W' ⟨v, rfl, hR, ⟨hB, _, _⟩, _⟩)
    go_ret
    exact ⟨v, rfl, by rw [HS.out _ (Nat.le_of_lt HN.out) (Nat.le_refl _)] at hR; exact Kd.R_lower hR (by simp; omega), hB⟩
  · have HN := Aside0.mk hlt
    have G1 := Aside0.mk (G.out l0.length n0)
    clear G n0 n1
    go_enter Tryz.func75, Tryz.ntmps75
    go_wp2_with (go_at_call 65; with_reducible refine G1.out.mono ?_; rintro e W' ⟨v, rfl, hR, ⟨hB, _, _⟩, _⟩)
    go_ret
    exact ⟨v, rfl, by rw [HS.out _ (Nat.le_refl _) (Nat.le_of_not_lt HN.out)] at hR; exact Kd.R_lower hR (by simp; omega), hB⟩
end Go.Proofs.YtpncflaoikeidaaGreatDoor.P
namespace Go.Proofs.YtpncflaoikeidaaGreatDoor.H
open Go.RowKit Go.Proofs.YtpncflaoikeidaaGreatDoorW.PrintWords Go.Proofs.YtpncflaoikeidaaGreatDoorW.PrintLast Go.Proofs.YtpncflaoikeidaaGreatDoorW.PrintMore Go.Proofs.YtpncflaoikeidaaGreatDoor.P
theorem mask32 {x : Int} (h0 : 0 ≤ x) (h1 : x < 18446744073709551616) : bits .and .u64 x 4294967295 = x % 4294967296 :=
  bits_mask .u64 64 (by decide) (fun n h0 h1 => IntWalk.u64_in n ⟨h0, by omega⟩) 32 (by decide) x h0 (by omega)
theorem join32 {x y : Int} (h0 : 0 ≤ x) (h1 : x < 18446744073709551616) (hx : x % 4294967296 = 0) (h2 : 0 ≤ y) (h3 : y < 4294967296) : bits .or .u64 x y = x + y :=
  bits_join .u64 64 (by decide) (fun n h0 h1 => IntWalk.u64_in n ⟨h0, by omega⟩) 32 x y h0 hx (by omega) h2 h3 (by omega)
theorem ret_u64 {a b : Int} (h : a = b) : Ending.returned (.int .u64 a) = .returned (.int .u64 b) := by rw [h]
set_option maxHeartbeats 400000 in
set_option maxRecDepth 100000 in
theorem of1_zero (n : Int) (b0 : Nat) (W : World) (h0 : 0 ≤ n) (h1 : n < 18446744073709551616)
    (hb0 : W.cell? ⟨b0, 0, none⟩ = some (.int .u64 n)) :
    Calls Tryz.prog 66 #[.int .i64 0, .pointer (some ⟨b0, 0, none⟩)] W fun e W' => e = .returned (.int .u64 (n % 4294967296)) ∧ W' = W := by
  go_enter Tryz.func66, Tryz.ntmps66
  go_wp2
  go_ret
  exact ⟨ret_u64 (mask32 h0 h1), rfl⟩
set_option maxHeartbeats 400000 in
set_option maxRecDepth 100000 in
theorem of1_one (n : Int) (b0 : Nat) (W : World) (h0 : 0 ≤ n) (h1 : n < 18446744073709551616)
    (hb0 : W.cell? ⟨b0, 0, none⟩ = some (.int .u64 n)) :
    Calls Tryz.prog 66 #[.int .i64 1, .pointer (some ⟨b0, 0, none⟩)] W fun e W' => e = .returned (.int .u64 (n / 4294967296)) ∧ W' = W := by
  go_enter Tryz.func66, Tryz.ntmps66
  go_wp2
  go_ret
  exact ⟨ret_u64 ((mask32 (by omega) (by omega)).trans (by omega)), rfl⟩
def twoF (m i : Nat) : Nat := if i = 0 then m % 4294967296 else m / 4294967296
theorem twoF_sum (m : Nat) (_hm : m < 18446744073709551616) : gsum (twoF m) 2 = m := by
  simp only [gsum, twoF]; simp; omega
end Go.Proofs.YtpncflaoikeidaaGreatDoor.H
namespace Go.Proofs.YtpncflaoikeidaaGreatDoor.P
open Go.RowKit Go.Proofs.YtpncflaoikeidaaGreatDoorW.PrintWords Go.Proofs.YtpncflaoikeidaaGreatDoorW.PrintLast Go.Proofs.YtpncflaoikeidaaGreatDoorW.PrintMore Go.Proofs.YtpncflaoikeidaaGreatDoor.H
/-- nat.Of: the limbs of a number of Go's. -/
def nat_Of.f (a0 : Int) : Option (List Int) := if 0 ≤ a0 ∧ a0 < 18446744073709551616 then some (limbs a0.toNat) else none
set_option maxHeartbeats 400000 in
set_option maxRecDepth 100000 in
theorem nat_Of.calls (a0 : Int) (r : List Int) (w : World) (h : nat_Of.f a0 = some r) :
    Calls Tryz.prog 31 #[.int .u64 a0] w fun e w' => ∃ v0_ : Value, e = .returned (v0_) ∧ Kd.R (Kd.int .u32) 56 w' w.heap.size (fun _ => True) v0_ r ∧ Below w.heap.size w w' := by
  unfold nat_Of.f at h
  split at h
  case isFalse => cases h
  case isTrue hg =>
  obtain rfl := Option.some.inj h
  clear h
  obtain ⟨m, rfl⟩ : ∃ m : Nat, a0 = (m : Int) := ⟨a0.toNat, by omega⟩
  have hm : m < 18446744073709551616 := by omega
  have G := Aside0.mk (gather_any 2 66 #[.pointer (some ⟨w.heap.size, 0, none⟩)] (twoF m)
    (fun _ W => Below w.heap.size w W ∧ W.heap[w.heap.size]? = some (.cells #[.int .u64 (m : Int)] 60 (0, 0)))
    (w.alloc (.cells #[.int .u64 (m : Int)] 60)) (by omega) (enters_ Tryz.func66 (by kernel_rfl) rfl)
    (gcar_fits (fun i _ => by unfold twoF; split <;> omega))
    ⟨(Below.refl _ _).alloc (Nat.le_refl _) _, heap_alloc_new _ _⟩
    (fun i W W1 ⟨h1, h2⟩ hb hs => ⟨h1.trans (hb.mono (by simp)), blk_of_below hb h2 (by simp)⟩)
    (fun i W hi ⟨h1, h2⟩ hs => by
      obtain rfl | rfl : i = 0 ∨ i = 1 := by omega
      · refine (of1_zero m _ W (by omega) (by omega) ((blk_cell h2 0).trans rfl)).mono fun e W' ⟨he, hd⟩ => ?_
        subst hd
        exact ⟨by rw [he]; exact ret_u64 (by simp [twoF]), ⟨h1, h2⟩, Nat.le_refl _, fun _ _ _ => rfl⟩
      · refine (of1_one m _ W (by omega) (by omega) ((blk_cell h2 0).trans rfl)).mono fun e W' ⟨he, hd⟩ => ?_
        subst hd
        exact ⟨by rw [he]; exact ret_u64 (by simp [twoF]), ⟨h1, h2⟩, Nat.le_refl _, fun _ _ _ => rfl⟩))
  have G2 := Aside0.mk (show Calls Tryz.prog 65 #[.int .i64 2, .func (.func 66) #[] #[.pointer (some ⟨w.heap.size, 0, none⟩)]] _ _ from G.out)
  clear G
  have HS := Aside0.mk (twoF_sum m hm)
  clear hg
  go_enter Tryz.func31, Tryz.ntmps31
  go_wp2_with (go_at_call 65; with_reducible refine G2.out.mono ?_; rintro e W' ⟨v, rfl, hR, ⟨hB, _⟩, _⟩)
  go_ret
  exact ⟨v, rfl, by rw [HS.out] at hR; rw [Int.toNat_natCast]; exact Kd.R_lower hR (by simp), hB⟩
end Go.Proofs.YtpncflaoikeidaaGreatDoor.P
namespace Go.Proofs.YtpncflaoikeidaaGreatDoor.P
open Go.RowKit Go.Proofs.YtpncflaoikeidaaGreatDoorW.PrintWords Go.Proofs.YtpncflaoikeidaaGreatDoorW.PrintLast Go.Proofs.YtpncflaoikeidaaGreatDoorW.PrintMore
theorem info56c : (Tryz.prog.info? 56).map (fun i => (i.zero, i.size, i.bytes)) = some (some (.int .u32 0), 1, 4) := by kernel_rfl
/-- slices.Clone at api.Nat: the same limbs, in memory of its own. -/
def api_Nat_uint32.f (l0 : List Int) : Option (List Int) := if l0.length < 35184372088831 then some l0 else none
set_option maxHeartbeats 400000 in
set_option maxRecDepth 100000 in
theorem api_Nat_uint32.calls (A0 : Option Addr) (c0 : Nat) (l0 : List Int) (r : List Int) (w : World) (hr0 : Kd.C (Kd.int .u32) w A0 l0.length l0) (hc0 : l0.length ≤ c0) (h : api_Nat_uint32.f l0 = some r) :
    Calls Tryz.prog 79 #[.slice A0 l0.length c0] w fun e w' => ∃ v0_ : Value, e = .returned (v0_) ∧ Kd.R (Kd.int .u32) 56 w' w.heap.size (fun _ => True) v0_ r ∧ Below w.heap.size w w' := by
  unfold api_Nat_uint32.f at h
  split at h
  case isFalse => cases h
  case isTrue hg =>
  obtain rfl := Option.some.inj h
  clear h
  have hnil := fun (W : World) => Go.run_eql_slice_nil (P := Tryz.prog) W 23 56 A0 l0.length c0 Tryz.underlying23
  have HR := Aside0.mk hr0
  have HG := Aside0.mk hg
  cases A0 with
  | none =>
    have hl : l0 = [] := by
      rcases Nat.eq_zero_or_pos l0.length with h | h
      · exact List.eq_nil_of_length_eq_zero h
      · obtain ⟨ad, he, _⟩ := hr0.2.2 h; cases he
    subst hl
    clear hr0 hg HR HG
    have hnil2 : ∀ W, (binOp .eql 23 (.slice none 0 c0) (.slice none 0 0)).run Tryz.prog W = .ok (.bool true) W := fun W => hnil W
    clear hnil
    go_enter Tryz.func79, Tryz.ntmps79
    go_wp2
    go_ret
    exact ⟨.slice none 0 0, rfl, Kd.R_nil _ _ _ _ _, Below.refl _ _⟩
  | some ad =>
    clear hr0 hg
    have hnil2 : ∀ W, (binOp .eql 23 (.slice (some ad) l0.length c0) (.slice none 0 0)).run Tryz.prog W = .ok (.bool false) W := fun W => hnil W
    clear hnil
    go_enter Tryz.func79, Tryz.ntmps79
    have HB := Aside0.mk (Below.refl w.heap.size w)
    go_wp2_with (first | ((with_reducible refine gate_dst (N := 5) rfl ?_); refine Kd.R_lit (Kd.int .u32) _ 56 ?hg (N := 5) ?hd (xs := ([] : List Int)) (inner := []) (ok := fun _ => True) (okp := fun _ => True) ?hr ?hp (fun _ hk => hk) trivial (Below.refl _ _) (Nat.le_refl _) (by simp) ?_; (case hd => rfl); (case hg => rfl); (case hr => first | (go_simp; done) | (go_simp; rfl)); (case hp => exact (Reps.none _ _)); intro v1 w1 ho1 hb1 hg1 hn1; clear hg1 hn1; have HO1 := Aside0.mk ho1; have HB1 := Aside0.mk hb1; clear ho1 hb1 HB) | (at_builtin; refine Kd.R_append_rows (Kd.int .u32) (w0 := w) w.heap.size rfl (.tmp 5) (.tmp 6) 23 56 (.int .u32 0) 4 rfl Tryz.underlying23 info56c rfl (by decide) (by omega) v1 [] l0 _ _ _ (fun _ => True) (fun _ => False) rfl rfl HO1.out (Kd.C_below HR.out HB1.out) (fun _ _ h => h) (fun _ h => h.elim) (fun _ _ => trivial) HB1.out HB1.out.size (by have := HG.out; simp; omega) ?_; intro v2 w2 ho2 hb2 hg2 ha2; have HO2 := Aside0.mk ho2; have HB2 := Aside0.mk hb2; clear ho2 hb2 hg2 ha2))
    go_ret
    exact ⟨v2, rfl, HO2.out, HB2.out⟩
end Go.Proofs.YtpncflaoikeidaaGreatDoor.P
namespace Go.Proofs.YtpncflaoikeidaaGreatDoor.P
open Go.RowKit Go.Proofs.YtpncflaoikeidaaGreatDoorW.PrintWords Go.Proofs.YtpncflaoikeidaaGreatDoorW.PrintLast Go.Proofs.YtpncflaoikeidaaGreatDoorW.PrintMore
attribute [local go_sem] max2_int max_two
set_option linter.unusedVariables false
set_option linter.unusedSimpArgs false
def nat_Trim.f (k : Nat) (l0 : List Int) : Option (List Int) := (nat_top.f k l0).bind fun t102 => (if 0 ≤ t102 then (if t102 ≤ (l0.length : Int) then ((api_Nat_uint32.f (l0.take (t102 : Int).toNat)).bind fun t104 => (some t104)) else (none)) else (none))
set_option maxHeartbeats 8000000 in
set_option maxRecDepth 100000 in
theorem nat_Trim.calls (k : Nat) (A0 : Option Addr) (c0 : Nat) (l0 : List Int) (r : List Int) (w : World) (hr0 : Kd.C (Kd.int .u32) w A0 l0.length l0) (hc0 : l0.length ≤ c0) (h : nat_Trim.f k l0 = some r) :
    Calls Tryz.prog 42 #[.slice A0 l0.length c0] w fun e w' => ∃ v0_ : Value, e = .returned (v0_) ∧ Kd.R (Kd.int .u32) 56 w' w.heap.size (fun _ => True) v0_ r ∧ Below w.heap.size w w' := by
  have HR0 := Aside0.mk hr0
  have HC0 := Aside0.mk hc0
  clear hr0 hc0
  have HB := Aside0.mk (Below.refl w.heap.size w)
  have H : ((nat_top.f k l0).bind fun t102 => (if 0 ≤ t102 then (if t102 ≤ (l0.length : Int) then ((api_Nat_uint32.f (l0.take (t102 : Int).toNat)).bind fun t104 => (some t104)) else (none)) else (none))) = some r := h
  clear h
  replace H := Option.bind_eq_some_iff.mp H
  obtain ⟨t102, A20, H⟩ := H
  try dsimp only at H
  have A2 := Aside0.mk A20
  clear A20
  by_cases c3 : 0 ≤ t102
  · rw [if_pos c3] at H
    have c3b0 := eq_true c3
    have c3b1 : decide (0 ≤ t102) = true := decide_eq_true c3
    clear c3
    by_cases c4 : t102 ≤ (l0.length : Int)
    · rw [if_pos c4] at H
      have c4b0 := eq_true c4
      have c4b1 : decide (t102 ≤ (l0.length : Int)) = true := decide_eq_true c4
      clear c4
      replace H := Option.bind_eq_some_iff.mp H
      obtain ⟨t104, A50, H⟩ := H
      try dsimp only at H
      have A5 := Aside0.mk A50
      clear A50
      obtain rfl := Option.some.inj H
      go_enter Tryz.func42, Tryz.ntmps42
      go_wp2_with (first | ((with_reducible refine gate_callee (f := 80) rfl ?_); refine goesL_ (some 5) rfl rfl Tryz.func80 (by kernel_rfl) rfl #[.slice A0 l0.length c0] rfl (by (try simp only [List.map_toArray, List.map_cons, List.map_nil]); first | done | rfl | (simp only [List.length_drop, List.length_take]; rfl)) ?_; (with_reducible refine (nat_top.calls k _ _ l0 t102 _ ?side1 ?side2 A2.out).mono ?_); (case side1 => repeat (first | exact HR0.out | (with_reducible refine Kd.C_alloc ?_ _) | (with_reducible refine Kd.C_drewN ?_ _) | (with_reducible refine Kd.C_drew ?_))); (case side2 => exact HC0.out); rintro e w' ⟨rfl, ⟨nd, rfl⟩⟩; refine ⟨_, rfl, ?_⟩; obtain ⟨i06, hi06, _, hsz6, _⟩ := info_parts info56; obtain ⟨hcut6, hA6, hC6⟩ := print_take_of (P := Tryz.prog) (Value.int .u32) 0 23 56 .i64 Tryz.underlying23 hi06 hsz6 A0 c0 l0 t102 (of_decide_eq_true (by first | (with_reducible assumption) | assumption)) (of_decide_eq_true (by first | (with_reducible assumption) | assumption)) HC0.out; have HR103 := Aside0.mk (Kd.C_of_reads (h1 := fun _ => rfl) (hA6 _ (Kd.reads_of_C HR0.out))); have HC103 := Aside0.mk hC6; clear hA6 hC6 hi06 hsz6) | ((with_reducible refine gate_callee (f := 79) rfl ?_); refine goesL_ (some 7) rfl rfl Tryz.func79 (by kernel_rfl) rfl #[.slice A0 (l0.take (t102 : Int).toNat).length c0] rfl (by (try simp only [List.map_toArray, List.map_cons, List.map_nil]); first | done | (rw [show (l0.take (t102 : Int).toNat).length = t102.toNat from (by rw [List.length_take]; have h_ : (t102 : Int) ≤ (l0.length : Int) := of_decide_eq_true (by first | (with_reducible assumption) | assumption); omega)] <;> rfl) | rfl | (simp only [List.length_drop, List.length_take]; rfl)) ?_; (with_reducible refine (api_Nat_uint32.calls _ _ (l0.take (t102 : Int).toNat) t104 _ ?side1 ?side2 A5.out).mono ?_); (case side1 => repeat (first | exact HR103.out | (with_reducible refine Kd.C_alloc ?_ _) | (with_reducible refine Kd.C_drewN ?_ _) | (with_reducible refine Kd.C_drew ?_))); (case side2 => exact HC103.out); rintro e w7 ⟨v105, rfl, ho0, hb⟩; refine ⟨_, rfl, ?_⟩; have n0_ := Aside0.mk (Kd.R_lower ho0 (below_size (by repeat (first | (with_reducible first | exact HB.out | apply below_alloc | apply pw_below_drewN | apply below_drew1) | exact HB.out)))); have n1_ := Aside0.mk (below_step (by repeat (first | (with_reducible first | exact HB.out | apply below_alloc | apply pw_below_drewN | apply below_drew1) | exact HB.out)) hb); clear HB; have HO106 := n0_; have HB := n1_; clear n0_ n1_; (try clear hb); (try clear hb2); (try clear hk); (try clear hi); (try clear ho0)))
      go_ret
      exact ⟨_, by first | rfl | (simp [errW_none, errW_some] <;> rfl) | (simp [*, errW_none, errW_some] <;> rfl), by exact HO106.out, by repeat (first | (with_reducible first | exact HB.out | apply below_alloc | apply pw_below_drewN | apply below_drew1) | exact HB.out)⟩
    · rw [if_neg c4] at H
      exact absurd H (by simp)
  · rw [if_neg c3] at H
    exact absurd H (by simp)

def quo_Short.l0 : Nat → List Int → Int → List Int → Int → Int → Option (List Int × Int × Int)
  | 0, _, _, _, _, _ => none
  | k + 1, x0, x1, x7, x8, x9 => if x9 ≥ 0 then (if 0 ≤ x9 then (if x9 < (x0.length : Int) then (if (IntKind.u64.wrap (x1)) = 0 then (none) else (if x9 < (x7.length : Int) then (quo_Short.l0 k x0 x1 (x7.set (x9 : Int).toNat ((IntKind.u64.wrap (Int.tdiv (Go.bits .or .u64 (IntKind.u64.wrap (x8 * 4294967296)) (IntKind.u64.wrap (rd x0 x9))) (IntKind.u64.wrap (x1)))) % 4294967296)) (Int.tmod (Go.bits .or .u64 (IntKind.u64.wrap (x8 * 4294967296)) (IntKind.u64.wrap (rd x0 x9))) (IntKind.u64.wrap (x1))) (wrap64 (x9 - 1))) else (none))) else (none)) else (none)) else ((nat_Trim.f k x7).bind fun t112 => (some (t112, (x8) % 4294967296, 0)))
def quo_Short.f (k : Nat) (l0 : List Int) (a1 : Int) : Option (List Int × Int × Int) := if a1 = 0 then (some (([] : List Int), 0, 17)) else (if 0 ≤ (l0.length : Int) then (if ((l0.length : Int) : Int).toNat ≤ 70368744177664 then (quo_Short.l0 k l0 a1 (List.replicate ((l0.length : Int) : Int).toNat 0) 0 (wrap64 ((l0.length : Int) - 1))) else (none)) else (none))
set_option maxHeartbeats 8000000 in
set_option maxRecDepth 100000 in
theorem quo_Short.calls (k : Nat) (A0 : Option Addr) (c0 : Nat) (l0 : List Int) (a1 : Int) (r1 : List Int) (r2 : Int) (r3 : Int) (w : World) (hr0 : Kd.C (Kd.int .u32) w A0 l0.length l0) (hc0 : l0.length ≤ c0) (h : quo_Short.f k l0 a1 = some (r1, r2, r3)) :
    Calls Tryz.prog 43 #[.slice A0 l0.length c0, .int .u32 a1] w fun e w' => ∃ v0_ : Value, e = .returned (.tuple #[v0_, .int .u32 r2, .int .i64 r3]) ∧ Kd.R (Kd.int .u32) 56 w' w.heap.size (fun _ => True) v0_ r1 ∧ Below w.heap.size w w' := by
  have HR0 := Aside0.mk hr0
  have HC0 := Aside0.mk hc0
  clear hr0 hc0
  have HB := Aside0.mk (Below.refl w.heap.size w)
  have H : (if a1 = 0 then (some (([] : List Int), 0, 17)) else (if 0 ≤ (l0.length : Int) then (if ((l0.length : Int) : Int).toNat ≤ 70368744177664 then (quo_Short.l0 k l0 a1 (List.replicate ((l0.length : Int) : Int).toNat 0) 0 (wrap64 ((l0.length : Int) - 1))) else (none)) else (none))) = some (r1, r2, r3) := h
  clear h
  by_cases c3 : a1 = 0
  · rw [if_pos c3] at H
    have c3b0 : (a1 == 0) = true := beq_iff_eq.mpr c3
    have c3b1 : (a1 != 0) = false := bne_eq_false_iff_eq.mpr c3
    clear c3
    simp only [Option.some.injEq, Prod.mk.injEq] at H
    obtain ⟨rfl, rfl, rfl⟩ := H
    go_enter Tryz.func43, Tryz.ntmps43
    go_wp2
    go_ret3
    exact ⟨_, by first | rfl | (simp [errW_none, errW_some] <;> rfl) | (simp [*, errW_none, errW_some] <;> rfl), by first | exact Kd.R_nil _ _ _ _ _ | exact Kd.N_nil _ _ _ _ _ | exact Kd.V_nil _ _ _ _ _ | exact Kd.Q_nil _ _ _ _ _ | exact Kd.S_nil _ _ _ _ _, by repeat (first | (with_reducible first | exact HB.out | apply below_alloc | apply pw_below_drewN | apply below_drew1) | exact HB.out)⟩
  · rw [if_neg c3] at H
    have c3b0 : (a1 == 0) = false := beq_eq_false_iff_ne.mpr c3
    have c3b1 : (a1 != 0) = true := bne_iff_ne.mpr c3
    by_cases c4 : 0 ≤ (l0.length : Int)
    · rw [if_pos c4] at H
      have c4b0 := eq_true c4
      have c4b1 : decide (0 ≤ (l0.length : Int)) = true := decide_eq_true c4
      clear c4
      by_cases c5 : ((l0.length : Int) : Int).toNat ≤ 70368744177664
      · rw [if_pos c5] at H
        have c5b0 := eq_true c5
        have c5b1 : decide (((l0.length : Int) : Int).toNat ≤ 70368744177664) = true := decide_eq_true c5
        clear c5
        obtain ⟨y107, hy107⟩ : ∃ y_ : List Int, y_ = (List.replicate ((l0.length : Int) : Int).toNat 0) := ⟨_, rfl⟩
        replace H : (quo_Short.l0 k l0 a1 y107 0 (wrap64 ((l0.length : Int) - 1))) = some (r1, r2, r3) := by first | (rw [hy107]; with_reducible exact H) | (have H2_ := (Option.bind_some _ _).symm.trans H; rw [hy107]; with_reducible exact H2_) | (have H2_ := (Option.bind_some _ _).symm.trans H; with_reducible exact H2_) | with_reducible exact H | (rw [hy107]; exact H) | exact H
        have Ny107 := Aside0.mk hy107
        clear hy107
        have H' := Aside0.mk H
        clear H
        go_enter Tryz.func43, Tryz.ntmps43
        go_wp2_with (first | ((with_reducible refine gate_dst (N := 14) rfl ?_); refine Kd.R_make (Kd.int .u32) _ 56 rfl (N := 14) rfl 23 _ _ rfl (l0.length : Int) rfl rfl Tryz.underlying23 (.int .u32 0) 4 info56 rfl (by decide) (by omega) 0 (ok := fun _ => True) (okp := fun _ => True) rfl (fun _ hk => hk) trivial (of_decide_eq_true (by first | (with_reducible assumption) | assumption)) (Nat.le_trans (Nat.mul_le_mul_right _ (of_decide_eq_true (by first | (with_reducible assumption) | assumption) : (l0.length : Int).toNat ≤ 70368744177664)) (by omega)) (Below.refl _ _) (Nat.le_refl _) ?_; intro v108 w6 ho7 hb hg_ hnew_; clear hg_ hnew_; (first | rw [← Ny107.out] at ho7 | (simp only [Int.reduceToNat] at ho7; rw [← Ny107.out] at ho7)); have n0_ := Aside0.mk (Kd.R_lower ho7 (below_size (by repeat (first | (with_reducible first | exact HB.out | apply below_alloc | apply pw_below_drewN | apply below_drew1) | exact HB.out)))); have n1_ := Aside0.mk (below_step (by repeat (first | (with_reducible first | exact HB.out | apply below_alloc | apply pw_below_drewN | apply below_drew1) | exact HB.out)) hb); clear HB; have HO109 := n0_; have HB := n1_; clear n0_ n1_; clear hb ho7))
        go_loopg [8, 9] k (fun kq v8 v9 w' => ∃ (x7_1 : List Int) (x8_1 : Int) (x9_1 : Int), v8 = .int .u64 x8_1 ∧ v9 = .int .i64 x9_1 ∧ Aside0 (quo_Short.l0 kq l0 a1 x7_1 x8_1 x9_1 = some (r1, r2, r3)) ∧ Aside0 (kq ≤ k) ∧ Aside0 (Kd.R (Kd.int .u32) 56 w' w.heap.size (fun _ => True) v108 x7_1) ∧ Aside0 (Below w.heap.size w w'))
        case atStart => exact ⟨(y107), (0), (wrap64 ((l0.length : Int) - 1)), (by first | rfl | (simp; done) | (simp [*]; done)), (by first | rfl | (simp; done) | (simp [*]; done)), H', ⟨Nat.le_refl _⟩, ⟨by exact HO109.out⟩, ⟨by repeat (first | (with_reducible first | exact HB.out | apply below_alloc | apply pw_below_drewN | apply below_drew1) | exact HB.out)⟩⟩
        case round =>
          clear H'
          try clear p2
          try clear c3
          try clear c3b0
          try clear c3b1
          try clear c4
          try clear c4b0
          try clear c4b1
          try clear c5
          try clear c5b0
          try clear c5b1
          try clear p6
          obtain ⟨x7_1, x8_1, x9_1, rfl, rfl, HA, HK1, HO_7, HB⟩ := hrel
          cases gk with
          | zero => exact absurd HA.out (by simp [quo_Short.l0])
          | succ k1 =>
            have H := HA.out
            clear HA
            simp only [quo_Short.l0] at H
            by_cases c8 : x9_1 ≥ 0
            · rw [if_pos c8] at H
              have c8b0 : decide (0 ≤ x9_1) = true := decide_eq_true c8
              clear c8
              by_cases c9 : 0 ≤ x9_1
              · rw [if_pos c9] at H
                have c9b0 : decide (0 ≤ x9_1) = true := decide_eq_true c9
                clear c9
                by_cases c10 : x9_1 < (l0.length : Int)
                · rw [if_pos c10] at H
                  have c10b0 : decide (x9_1 < (l0.length : Int)) = true := decide_eq_true c10
                  clear c10
                  by_cases c11 : (IntKind.u64.wrap (a1)) = 0
                  · rw [if_pos c11] at H
                    exact absurd H (by simp)
                  · rw [if_neg c11] at H
                    have c11b0 : ((IntKind.u64.wrap (a1)) == 0) = false := beq_eq_false_iff_ne.mpr c11
                    have c11b1 : ((IntKind.u64.wrap (a1)) != 0) = true := bne_iff_ne.mpr c11
                    by_cases c12 : x9_1 < (x7_1.length : Int)
                    · rw [if_pos c12] at H
                      have c12b0 : decide (x9_1 < (x7_1.length : Int)) = true := decide_eq_true c12
                      clear c12
                      obtain ⟨y111, hy111⟩ : ∃ y_ : List Int, y_ = (x7_1.set (x9_1 : Int).toNat ((IntKind.u64.wrap (Int.tdiv (Go.bits .or .u64 (IntKind.u64.wrap (x8_1 * 4294967296)) (IntKind.u64.wrap (rd l0 x9_1))) (IntKind.u64.wrap (a1)))) % 4294967296)) := ⟨_, rfl⟩
                      replace H : (quo_Short.l0 k1 l0 a1 y111 (Int.tmod (Go.bits .or .u64 (IntKind.u64.wrap (x8_1 * 4294967296)) (IntKind.u64.wrap (rd l0 x9_1))) (IntKind.u64.wrap (a1))) (wrap64 (x9_1 - 1))) = some (r1, r2, r3) := by first | (rw [hy111]; with_reducible exact H) | (have H2_ := (Option.bind_some _ _).symm.trans H; rw [hy111]; with_reducible exact H2_) | (have H2_ := (Option.bind_some _ _).symm.trans H; with_reducible exact H2_) | with_reducible exact H | (rw [hy111]; exact H) | exact H
                      have Ny111 := Aside0.mk hy111
                      clear hy111
                      have H' := Aside0.mk H
                      clear H
                      have p110 : 0 ≤ (x9_1 : Int) := of_decide_eq_true (by first | (with_reducible assumption) | assumption)
                      have q110 : x9_1 < (l0.length : Int) := of_decide_eq_true (by first | (with_reducible assumption) | assumption)
                      obtain ⟨ad110, e110, hx110_0⟩ := Kd.at_int HR0.out x9_1 p110 q110
                      cases e110
                      replace hx110_0 := (HB.out.cell (World.block_lt_of_cell? w _ hx110_0)).trans hx110_0
                      replace p110 := eq_true p110
                      replace q110 := eq_true q110
                      have p13 : 0 ≤ (x9_1 : Int) := of_decide_eq_true (by first | (with_reducible assumption) | assumption)
                      have q13 : (x9_1 : Int) < ((x7_1.length : Int) : Int) := of_decide_eq_true (by first | (with_reducible assumption) | assumption)
                      obtain ⟨go13, co13, eo13, gb13, gl13, cl13, HG13⟩ := Kd.R_form HO_7.out (by omega)
                      (first | cases eo13 | (injection eo13 with ea_ en_ ec_; (first | subst ea_ | (injection ea_ with ea_; subst ea_)); subst ec_; clear en_))
                      have GB13 := Aside0.mk gb13
                      have GG13 := Aside0.mk HG13
                      clear gb13 gl13 HG13
                      obtain ⟨hx13_0, hf13_0⟩ := Kd.R_celln 0 HO_7.out (x9_1 : Int) p13 q13
                      replace p13 := eq_true p13
                      replace q13 := eq_true q13
                      have HP14 := Kd.R_putg HO_7.out (x9_1 : Int) ((IntKind.u64.wrap (Int.tdiv (Go.bits .or .u64 (IntKind.u64.wrap (x8_1 * 4294967296)) (IntKind.u64.wrap (rd l0 x9_1))) (IntKind.u64.wrap (a1)))) % 4294967296)
                      go_wp2_with (first | ((with_reducible refine gate_store (t := 56) (p := 37) rfl ?_); refine store_event (t := 56) (p := 37) (v := ?vo_w15) (w1 := (wr.setCell ⟨go13, (x9_1 : Int).toNat, none⟩ (.int .u32 ((IntKind.u64.wrap (Int.tdiv (Go.bits .or .u64 (IntKind.u64.wrap (x8_1 * 4294967296)) (IntKind.u64.wrap (rd l0 x9_1))) (IntKind.u64.wrap (a1)))) % 4294967296)))) ?hg ?ho ?hn ?hr ?_; (case ho => rfl); (case hg => rfl); (case hn => rfl); (case hr => first | (go_simp; done) | (go_simp; rfl)); intro w15 hw; have hg : wr.grownBy w15 (some go13) := (by rw [hw]; exact HP14.2); have hp_ : Kd.R (Kd.int .u32) 56 w15 w.heap.size (fun _ => True) (.slice (some ⟨go13, 0, none⟩) x7_1.length co13) y111 := (by rw [hw, Ny111.out]; exact HP14.1); clear HP14; have n0_ := Aside0.mk (hp_); have n1_ := Aside0.mk ((by rw [hw]; exact below_set (HB.out) GB13.out : Below w.heap.size w w15)); clear HO_7; clear HB; have HO_7 := n0_; have HB := n1_; clear n0_ n1_; clear hg hw hp_))
                      go_roundg k1
                      case measure => have := HK1.out; omega
                      case rel => exact ⟨(y111), (Int.tmod (Go.bits .or .u64 (IntKind.u64.wrap (x8_1 * 4294967296)) (IntKind.u64.wrap (rd l0 x9_1))) (IntKind.u64.wrap (a1))), (wrap64 (x9_1 - 1)), (by first | rfl | (simp; done) | (simp [*]; done)), (by first | rfl | (simp; done) | (simp [*]; done)), H', ⟨by have := HK1.out; omega⟩, ⟨by exact HO_7.out⟩, ⟨by repeat (first | (with_reducible first | exact HB.out | apply below_alloc | apply pw_below_drewN | apply below_drew1) | exact HB.out)⟩⟩
                    · rw [if_neg c12] at H
                      exact absurd H (by simp)
                · rw [if_neg c10] at H
                  exact absurd H (by simp)
              · rw [if_neg c9] at H
                exact absurd H (by simp)
            · rw [if_neg c8] at H
              have c8b0 : decide (0 ≤ x9_1) = false := decide_eq_false c8
              clear c8
              replace H := Option.bind_eq_some_iff.mp H
              obtain ⟨t112, A160, H⟩ := H
              try dsimp only at H
              have A16 := Aside0.mk A160
              clear A160
              simp only [Option.some.injEq, Prod.mk.injEq] at H
              obtain ⟨rfl, rfl, rfl⟩ := H
              obtain ⟨Ao17, co17, eo17⟩ := Kd.R_slice HO_7.out
              subst eo17
              go_wp2_with (first | ((with_reducible refine gate_callee (f := 42) rfl ?_); refine goesL_ (some 43) rfl rfl Tryz.func42 (by kernel_rfl) rfl #[.slice Ao17 x7_1.length co17] rfl (by (try simp only [List.map_toArray, List.map_cons, List.map_nil]); first | done | rfl | (simp only [List.length_drop, List.length_take]; rfl)) ?_; (with_reducible refine (nat_Trim.calls k1 _ _ x7_1 t112 _ ?side1 ?side2 A16.out).mono ?_); (case side1 => repeat (first | exact (Kd.R_reads' HO_7.out).2.2 | (with_reducible refine Kd.C_alloc ?_ _) | (with_reducible refine Kd.C_drewN ?_ _) | (with_reducible refine Kd.C_drew ?_))); (case side2 => exact (Kd.R_reads' HO_7.out).2.1); rintro e w18 ⟨v113, rfl, ho0, hb⟩; refine ⟨_, rfl, ?_⟩; have n0_ := Aside0.mk (Kd.R_elder' (by exact HO_7.out) (Kd.R_base ho0) hb); have n1_ := Aside0.mk (Kd.R_lower (Kd.R_new' ho0 (Kd.R_lt (by exact HO_7.out))) (below_size (by repeat (first | (with_reducible first | exact HB.out | apply below_alloc | apply pw_below_drewN | apply below_drew1) | exact HB.out)))); have n2_ := Aside0.mk (below_step (by repeat (first | (with_reducible first | exact HB.out | apply below_alloc | apply pw_below_drewN | apply below_drew1) | exact HB.out)) hb); clear HO_7; clear HB; have HO_7 := n0_; have HO114 := n1_; have HB := n2_; clear n0_ n1_ n2_; (try clear hb); (try clear hb2); (try clear hk); (try clear hi); (try clear ho0)))
              go_ret3
              exact ⟨_, by first | rfl | (simp [errW_none, errW_some] <;> rfl) | (simp [*, errW_none, errW_some] <;> rfl), by exact Kd.R_mono HO114.out (fun _ hk => trivial), by repeat (first | (with_reducible first | exact HB.out | apply below_alloc | apply pw_below_drewN | apply below_drew1) | exact HB.out)⟩
      · rw [if_neg c5] at H
        exact absurd H (by simp)
    · rw [if_neg c4] at H
      exact absurd H (by simp)

end Go.Proofs.YtpncflaoikeidaaGreatDoor.P
namespace Go.Proofs.YtpncflaoikeidaaGreatDoor.H
open Go.RowKit Go.Proofs.YtpncflaoikeidaaGreatDoorW.PrintWords Go.Proofs.YtpncflaoikeidaaGreatDoorW.PrintLast Go.Proofs.YtpncflaoikeidaaGreatDoorW.PrintMore Go.Proofs.YtpncflaoikeidaaGreatDoor.P
theorem bitLen_spec : ∀ x : Nat, x ≠ 0 → x < 18446744073709551616 → 2 ^ (Lib.bitLen x - 1) ≤ x ∧ x < 2 ^ Lib.bitLen x ∧ 1 ≤ Lib.bitLen x := by
  intro x
  induction x using Nat.strongRecOn with
  | _ x ih =>
    intro h0 h1
    rw [Lib.bitLen_half x h0 h1]
    by_cases h2 : x / 2 = 0
    · have h3 : x = 1 := by omega
      subst h3
      decide
    · obtain ⟨a, b, c⟩ := ih (x / 2) (by omega) h2 (by omega)
      generalize Lib.bitLen (x / 2) = k at a b c
      have e1 : 2 ^ (1 + k - 1) = 2 * 2 ^ (k - 1) := by
        rw [show 1 + k - 1 = (k - 1) + 1 by omega, Nat.pow_succ, Nat.mul_comm]
      have e2 : 2 ^ (1 + k) = 2 * 2 ^ k := by rw [Nat.add_comm, Nat.pow_succ, Nat.mul_comm]
      omega
/-- by how much the divisor is moved up -/
structure Shift (b n t s : Nat) : Prop where
  t0 : 0 < t
  t1 : t < 4294967296
  s31 : s ≤ 31
  eq : (32 : Int) - (Lib.bitLen t : Int) = (s : Int)
  len : (limbs (b * 2 ^ s)).length = n + 2
  top : 2147483648 * 4294967296 ^ (n + 1) ≤ b * 2 ^ s
  lim : 2147483648 ≤ lim (limbs (b * 2 ^ s)) (n + 1)
theorem shift_ok {b n : Nat} (hb : (limbs b).length = n + 2) : ∃ s, Shift b n (lim (limbs b) (n + 1)) s := by
  obtain ⟨t, ht⟩ : ∃ t, lim (limbs b) (n + 1) = t := ⟨_, rfl⟩
  have h2 := nval_cut' (l := limbs b) (j := n + 1) (by omega)
  have h3 := nval_take_lt (okl_limbs b) (n + 1)
  have h4 : nval ((limbs b).drop (n + 1)) = t := by
    rw [nval_drop_succ, List.drop_of_length_le (by omega), ht]; simp [nval]
  rw [h4, nval_limbs] at h2
  have t1 := lim_lt (okl_limbs b) (n + 1)
  rw [ht] at t1
  rw [ht]
  have t0 : t ≠ 0 := by
    intro h0
    subst h0
    have := limbs_length_le (n + 1) b (by omega)
    omega
  obtain ⟨a1, a2, a3⟩ := bitLen_spec t t0 (by omega)
  have a4 := Lib.bitLen_le t 32 (by decide) (by omega)
  obtain ⟨k, hk⟩ : ∃ k, Lib.bitLen t = k := ⟨_, rfl⟩
  rw [hk] at a1 a2 a3 a4
  have e1 : 2 ^ (k - 1) * 2 ^ (32 - k) = 2147483648 := by
    rw [← Nat.pow_add, show k - 1 + (32 - k) = 31 by omega]
  have e2 : 2 ^ k * 2 ^ (32 - k) = 4294967296 := by
    rw [← Nat.pow_add, show k + (32 - k) = 32 by omega]
  have b1 : 2147483648 ≤ t * 2 ^ (32 - k) := by rw [← e1]; exact Nat.mul_le_mul_right _ a1
  have b2 : (t + 1) * 2 ^ (32 - k) ≤ 4294967296 := by rw [← e2]; exact Nat.mul_le_mul_right _ a2
  have c1 : 2147483648 * 4294967296 ^ (n + 1) ≤ b * 2 ^ (32 - k) := by
    have d1 := Nat.mul_le_mul_left (4294967296 ^ (n + 1)) b1
    have d2 : 4294967296 ^ (n + 1) * t * 2 ^ (32 - k) ≤ b * 2 ^ (32 - k) := Nat.mul_le_mul_right _ (by omega)
    rw [Nat.mul_comm 2147483648]
    rw [Nat.mul_assoc] at d2
    exact Nat.le_trans d1 d2
  have c2 : b * 2 ^ (32 - k) < 4294967296 ^ (n + 2) := by
    have d1 : b * 2 ^ (32 - k) < 4294967296 ^ (n + 1) * (t + 1) * 2 ^ (32 - k) := Nat.mul_lt_mul_of_pos_right (by rw [Nat.mul_add]; omega) (Nat.two_pow_pos _)
    have d2 := Nat.mul_le_mul_left (4294967296 ^ (n + 1)) b2
    rw [Nat.mul_assoc] at d1
    rw [Nat.pow_succ]
    exact Nat.lt_of_lt_of_le d1 d2
  have c3 : (limbs (b * 2 ^ (32 - k))).length = n + 2 := by
    have d1 := limbs_length_le _ _ c2
    have d2 := le_limbs_length (n + 1) (b * 2 ^ (32 - k)) (Nat.le_trans (by omega) c1)
    omega
  refine ⟨32 - k, ⟨by omega, t1, by omega, by rw [hk]; omega, c3, c1, ?_⟩⟩
  have f1 := nval_cut' (l := limbs (b * 2 ^ (32 - k))) (j := n + 1) (by omega)
  have f2 := nval_take_lt (okl_limbs (b * 2 ^ (32 - k))) (n + 1)
  have f3 : nval ((limbs (b * 2 ^ (32 - k))).drop (n + 1)) = lim (limbs (b * 2 ^ (32 - k))) (n + 1) := by
    rw [nval_drop_succ, List.drop_of_length_le (by omega)]; simp [nval]
  rw [f3, nval_limbs] at f1
  refine Nat.le_of_not_lt fun hc => ?_
  have g1 : 4294967296 ^ (n + 1) * (lim (limbs (b * 2 ^ (32 - k))) (n + 1) + 1) ≤ 4294967296 ^ (n + 1) * 2147483648 := Nat.mul_le_mul_left _ hc
  rw [Nat.mul_add, Nat.mul_comm _ 2147483648, Nat.mul_one] at g1
  omega
theorem trim_f {l : List Int} (hl : okl l) (hn : l.length < 35184372088831) {k : Nat} (hk : l.length < k) : nat_Trim.f k l = some (limbs (nval l)) := by
  unfold nat_Trim.f
  rw [top_f l (by omega) k hk]
  have := topN_le l
  simp only [Option.bind_some, Int.toNat_natCast]
  rw [if_pos (by omega), if_pos (by omega), trim_limbs hl]
  unfold api_Nat_uint32.f
  rw [if_pos]
  · rfl
  · rw [← trim_limbs hl, List.length_take]; omega
theorem short_l0 {l : List Int} (hl : okl l) (hn : l.length < 1000000) {d : Nat} (hd0 : 0 < d) (hd : d < 4294967296) : ∀ (j k : Nat) (x7 : List Int), j ≤ l.length → j + l.length + 1 < k → okl x7 → x7.length = l.length →
    (∀ i, i < j → lim x7 i = 0) → nval x7 = 4294967296 ^ j * (nval (l.drop j) / d) →
    quo_Short.l0 k l (d : Int) x7 ((nval (l.drop j) % d : Nat) : Int) ((j : Int) - 1) = some (limbs (nval l / d), ((nval l % d : Nat) : Int), 0)
  | 0, k + 1, x7, _, hk, h7, hlen, _, hv => by
    rw [quo_Short.l0, if_neg (by omega), trim_f h7 (by omega) (by omega), hv, Nat.pow_zero, Nat.one_mul, List.drop_zero]
    have := Nat.mod_lt (nval l) hd0
    simp only [Option.bind_some]
    congr 2
    rw [Int.emod_eq_of_lt (by omega) (by omega)]
  | j + 1, k + 1, x7, hj, hk, h7, hlen, hz, hv => by
    have hx := lim_lt hl j
    obtain ⟨r, hr⟩ : ∃ r, nval (l.drop (j + 1)) % d = r := ⟨_, rfl⟩
    obtain ⟨q, hq⟩ : ∃ q, nval (l.drop (j + 1)) / d = q := ⟨_, rfl⟩
    obtain ⟨x, hxe⟩ : ∃ x, lim l j = x := ⟨_, rfl⟩
    have hqr := Nat.div_add_mod (nval (l.drop (j + 1))) d
    have hrl : r < d := by rw [← hr]; exact Nat.mod_lt _ hd0
    rw [hr, hq] at hqr
    rw [hr]
    rw [hq] at hv
    have e0 : (((j + 1 : Nat) : Int) - 1) = (j : Int) := by omega
    have ed : IntKind.u64.wrap ((d : Nat) : Int) = (d : Int) := IntWalk.u64_in _ (by omega)
    have ex : rd l (j : Int) = (x : Int) := by rw [rd_lim hl, hxe]
    have eor : Go.bits .or .u64 (IntKind.u64.wrap ((r : Int) * 4294967296)) (IntKind.u64.wrap (x : Int)) = ((r * 4294967296 + x : Nat) : Int) := by
      rw [IntWalk.u64_in _ (by omega), IntWalk.u64_in _ (by omega), join32 (by omega) (by omega) (by omega) (by omega) (by omega)]
      omega
    have hdrop := nval_drop_succ l j
    rw [hxe, ← hqr] at hdrop
    have hT : (r * 4294967296 + x) / d < 4294967296 := Nat.div_lt_of_lt_mul (by
      have : (r + 1) * 4294967296 ≤ d * 4294967296 := Nat.mul_le_mul_right _ hrl
      omega)
    have hd1 : nval (l.drop j) = (r * 4294967296 + x) + d * (4294967296 * q) := by rw [hdrop, Nat.mul_add, Nat.mul_left_comm]; omega
    have hdiv : nval (l.drop j) / d = (r * 4294967296 + x) / d + 4294967296 * q := by rw [hd1, Nat.add_mul_div_left _ _ hd0]
    have hmod : nval (l.drop j) % d = (r * 4294967296 + x) % d := by rw [hd1, Nat.add_mul_mod_self_left]
    rw [quo_Short.l0, e0, if_pos (by omega), if_pos (by omega), if_pos (by omega), ed, if_neg (show ¬ ((d : Int) = 0) by omega), if_pos (by omega), ex, eor]
    have et : IntKind.u64.wrap (Int.tdiv ((r * 4294967296 + x : Nat) : Int) (d : Int)) % 4294967296 = (((r * 4294967296 + x) / d : Nat) : Int) := by
      rw [Int.tdiv_eq_ediv_of_nonneg (by omega), ← Int.natCast_ediv]
      generalize (r * 4294967296 + x) / d = t at hT
      rw [IntWalk.u64_in _ (by omega), Int.emod_eq_of_lt (by omega) (by omega)]
    have em : Int.tmod ((r * 4294967296 + x : Nat) : Int) (d : Int) = ((nval (l.drop j) % d : Nat) : Int) := by
      rw [hmod, Int.tmod_eq_emod_of_nonneg (by omega), ← Int.natCast_emod]
    have ew : wrap64 ((j : Int) - 1) = (j : Int) - 1 := by unfold wrap64; omega
    rw [et, em, ew, Int.toNat_natCast]
    have hs := nval_set x7 j (((r * 4294967296 + x) / d : Nat) : Int) (by omega)
    rw [hz j (by omega), Nat.mul_zero, Nat.add_zero, Int.toNat_natCast, hv] at hs
    refine short_l0 hl hn hd0 hd j k _ (by omega) (by omega) (okl_set h7 _ (by omega) (by omega)) (by rw [List.length_set, hlen]) (fun i hi => ?_) ?_
    · rw [lim_set_ne _ _ (by omega)]; exact hz i (by omega)
    · rw [hs, hdiv, Nat.mul_add, Nat.pow_succ, Nat.mul_assoc]; omega
  | 0, 0, _, _, hk, _, _, _, _ => by omega
  | j + 1, 0, _, _, hk, _, _, _, _ => by omega
theorem short_f {l : List Int} (hl : okl l) (hn : l.length < 1000000) {d : Nat} (hd0 : 0 < d) (hd : d < 4294967296) {k : Nat} (hk : 2 * l.length + 1 < k) :
    quo_Short.f k l (d : Int) = some (limbs (nval l / d), ((nval l % d : Nat) : Int), 0) := by
  unfold quo_Short.f
  rw [if_neg (by omega), if_pos (by omega), if_pos (by omega)]
  have h := short_l0 hl hn hd0 hd l.length k (List.replicate l.length 0) (Nat.le_refl _) (by omega) (okl_zeros _) (by simp) (fun i _ => lim_zeros _ i) (by rw [nval_zeros, List.drop_length]; simp [nval])
  rw [List.drop_length] at h
  simp only [nval, Nat.zero_mod, Int.toNat_natCast] at h ⊢
  have ew : wrap64 ((l.length : Int) - 1) = (l.length : Int) - 1 := by unfold wrap64; omega
  rw [ew]
  exact h
end Go.Proofs.YtpncflaoikeidaaGreatDoor.H
namespace Go.Proofs.YtpncflaoikeidaaGreatDoor.H
open Go.RowKit Go.Proofs.YtpncflaoikeidaaGreatDoorW.PrintWords Go.Proofs.YtpncflaoikeidaaGreatDoorW.PrintLast Go.Proofs.YtpncflaoikeidaaGreatDoorW.PrintMore Go.Proofs.YtpncflaoikeidaaGreatDoor.P
set_option maxHeartbeats 400000 in
set_option maxRecDepth 100000 in
theorem row1_low (x u : Int) (b0 b1 b2 b3 : Nat) (W : World) (hx : x < u)
    (hb0 : W.cell? ⟨b0, 0, none⟩ = some (.int .i64 u)) :
    Calls Tryz.prog 136 #[.int .i64 x, .pointer (some ⟨b0, 0, none⟩), .pointer (some ⟨b1, 0, none⟩), .pointer (some ⟨b2, 0, none⟩), .pointer (some ⟨b3, 0, none⟩)] W fun e W' => e = .returned (.int .u64 0) ∧ W' = W := by
  go_enter Tryz.func136, Tryz.ntmps136
  go_wp2
  go_ret
  exact ⟨rfl, rfl⟩
set_option maxHeartbeats 400000 in
set_option maxRecDepth 100000 in
theorem row1_high (x u : Int) (j : Nat) (A : Option Addr) (c : Nat) (l : List Int) (m k : Nat) (b0 b1 b2 b3 : Nat) (W : World) (hx : ¬ x < u) (hj : x - u = (j : Int)) (hu : 0 ≤ u) (hxb : x < 9223372036854775807)
    (hl : okl l) (hr : Kd.C (Kd.int .u32) W A l.length l) (hc : l.length ≤ c) (hm : m < 4294967296) (hk : k < 4294967296)
    (hb0 : W.cell? ⟨b0, 0, none⟩ = some (.int .i64 u)) (hb1 : W.cell? ⟨b1, 0, none⟩ = some (.slice A l.length c)) (hb2 : W.cell? ⟨b2, 0, none⟩ = some (.int .u32 (m : Int))) (hb3 : W.cell? ⟨b3, 0, none⟩ = some (.int .u64 (k : Int))) (hf3 : W.frozen? ⟨b3, 0, none⟩ = false) :
    Calls Tryz.prog 136 #[.int .i64 x, .pointer (some ⟨b0, 0, none⟩), .pointer (some ⟨b1, 0, none⟩), .pointer (some ⟨b2, 0, none⟩), .pointer (some ⟨b3, 0, none⟩)] W fun e W' =>
      e = .returned (.int .u64 (((lim l j * m + k) % 4294967296 : Nat) : Int)) ∧ ∃ q, W' = (W.setCell ⟨b3, 0, none⟩ (.int .u64 (((lim l j * m + k) / 4294967296 : Nat) : Int))).drewN q := by
  have h1 := lim_lt hl j
  have h2 : lim l j * m ≤ 4294967295 * 4294967295 := Nat.mul_le_mul (by omega) (by omega)
  have Q := Aside0.mk (limb_f hl j)
  have HR := Aside0.mk hr
  obtain ⟨p, hp⟩ : ∃ p : Nat, lim l j * m = p := ⟨_, rfl⟩
  have hp' : ((lim l j : Nat) : Int) * (m : Int) = (p : Int) := by rw [← hp]; simp
  have hm0 : IntKind.u64.wrap (m : Int) = (m : Int) := IntWalk.u64_in _ (by omega)
  have hm1 : IntKind.u64.wrap (((lim l j : Nat) : Int) * (m : Int)) = (p : Int) := by rw [hp']; exact IntWalk.u64_in _ (by omega)
  have hm2 : IntKind.u64.wrap ((p : Int) + (k : Int)) = ((p + k : Nat) : Int) := by rw [IntWalk.u64_in _ (by omega)]; omega
  have hm3 : IntKind.i64.wrap (x - u) = (j : Int) := by rw [hj]; exact IntWalk.i64_in _ (by omega)
  have k0 : ∀ nd, Calls Tryz.prog 64 #[.slice A l.length c, .int .i64 (j : Int)] (W.drewN nd) fun e w' => e = .returned (.int .u64 ((lim l j : Nat) : Int)) ∧ ∃ m, w' = W.drewN m := fun nd => Calls.quiet_of ((nat_limb.calls A c l _ _ _ (Kd.C_drewN HR.out _) hc Q.out).mono fun _ _ ⟨he, hd⟩ => ⟨he, hd.out⟩)
  have K0 := Aside0.mk k0
  rw [hp]
  rw [hp] at h2
  obtain ⟨z, hz⟩ : ∃ z : Nat, p + k = z := ⟨_, rfl⟩
  rw [hz] at hm2 ⊢
  have hz1 : (z : Int) < 18446744073709551616 := by omega
  have hz0 : (0 : Int) ≤ (z : Int) := Int.natCast_nonneg _
  clear k0 hp hp' hr hl hj hz hk hm hu hxb h1 h2
  go_enter Tryz.func136, Tryz.ntmps136
  go_wp2
  go_quiet ((go_at_call 64; with_reducible exact K0.out _))
  go_wp2
  go_ret
  exact ⟨ret_u64 ((mask32 hz0 hz1).trans (by simp)), nq, by simp; rfl⟩
end Go.Proofs.YtpncflaoikeidaaGreatDoor.H
namespace Go.Proofs.YtpncflaoikeidaaGreatDoor.P
open Go.RowKit Go.Proofs.YtpncflaoikeidaaGreatDoorW.PrintWords Go.Proofs.YtpncflaoikeidaaGreatDoorW.PrintLast Go.Proofs.YtpncflaoikeidaaGreatDoorW.PrintMore Go.Proofs.YtpncflaoikeidaaGreatDoor.H
/-- nat.row: a number times a limb, some places up. -/
def nat_row.f (l0 : List Int) (a1 a2 : Int) : Option (List Int) := if okl l0 ∧ l0.length < 1000000 ∧ (0 ≤ a1 ∧ a1 < 4294967296) ∧ (0 ≤ a2 ∧ a2 < 1000000) then some (limbs (4294967296 ^ a2.toNat * (nval l0 * a1.toNat))) else none
structure RowJ (A : Option Addr) (c : Nat) (l : List Int) (m u : Nat) (w : World) (i : Nat) (W : World) : Prop where
  b : Below w.heap.size w W
  sz : w.heap.size + 4 ≤ W.heap.size
  h0 : W.heap[w.heap.size]? = some (.cells #[.slice A l.length c] 23 (0, 0))
  h1 : W.heap[w.heap.size + 1]? = some (.cells #[.int .u32 (m : Int)] 56 (0, 0))
  h2 : W.heap[w.heap.size + 2]? = some (.cells #[.int .i64 (u : Int)] 3 (0, 0))
  h3 : W.heap[w.heap.size + 3]? = some (.cells #[.int .u64 ((rcar l m (i - u) : Nat) : Int)] 60 (0, 0))
theorem RowJ.below {A : Option Addr} {c : Nat} {l : List Int} {m u : Nat} {w : World} {i : Nat} {W W1 : World} {B : Nat} (h : RowJ A c l m u w i W) (hb : Below B W W1) (hB : w.heap.size + 4 ≤ B) : RowJ A c l m u w i W1 :=
  ⟨h.b.trans (hb.mono (by omega)), Nat.le_trans h.sz hb.size, blk_of_below hb h.h0 (by omega), blk_of_below hb h.h1 (by omega), blk_of_below hb h.h2 (by omega), blk_of_below hb h.h3 (by omega)⟩
theorem row_at (A : Option Addr) (c : Nat) (l : List Int) (m u : Nat) (w : World) (hl : okl l) (hr : Kd.C (Kd.int .u32) w A l.length l) (hc : l.length ≤ c) (hm : m < 4294967296) (hu : u < 1000000) (n : Nat) (hn : n < 1000000000) :
    AtGives 136 #[.pointer (some ⟨w.heap.size + 2, 0, none⟩), .pointer (some ⟨w.heap.size, 0, none⟩), .pointer (some ⟨w.heap.size + 1, 0, none⟩), .pointer (some ⟨w.heap.size + 3, 0, none⟩)] (rowf l m u) (RowJ A c l m u w) (w.heap.size + 4) n := by
  intro i W hi hJ hs
  by_cases hiu : i < u
  · refine (row1_low i u _ _ _ _ W (by omega) ((blk_cell hJ.h2 0).trans rfl)).mono fun e W' ⟨he, hd⟩ => ?_
    subst hd
    refine ⟨by rw [he]; exact ret_u64 (by simp [rowf, hiu]), ⟨hJ.b, hJ.sz, hJ.h0, hJ.h1, hJ.h2, ?_⟩, Nat.le_refl _, fun _ _ _ => rfl⟩
    have h3 := hJ.h3
    rw [show i - u = 0 by omega] at h3
    rw [show i + 1 - u = 0 by omega]
    exact h3
  · refine (row1_high i u (i - u) A c l m (rcar l m (i - u)) _ _ _ _ W (by omega) (by omega) (by omega) (by omega) hl (Kd.C_below hr hJ.b) hc hm (rcar_lt hl hm _) ((blk_cell hJ.h2 0).trans rfl) ((blk_cell hJ.h0 0).trans rfl) ((blk_cell hJ.h1 0).trans rfl) ((blk_cell hJ.h3 0).trans rfl) (blk_frozen hJ.h3 0)).mono fun e W' ⟨he, q, hd⟩ => ?_
    subst hd
    refine ⟨by rw [he]; exact ret_u64 (by rw [rowf, if_neg hiu]), ⟨pw_below_drewN (hJ.b.setCell (p := ⟨w.heap.size + 3, 0, none⟩) (by simp) _) _, by simpa using hJ.sz, blk_far hJ.h0 (by simp) _, blk_far hJ.h1 (by simp) _, blk_far hJ.h2 (by simp) _, ?_⟩, by simp, fun b hb1 hb2 => ?_⟩
    · rw [show i + 1 - u = (i - u) + 1 by omega, rcar]
      exact blk_put hJ.h3 0 _ rfl
    · exact Below.heap_setCell W _ _ b (by simp; omega)
set_option maxHeartbeats 400000 in
set_option maxRecDepth 100000 in
theorem nat_row.calls (A0 : Option Addr) (c0 : Nat) (l0 : List Int) (a1 a2 : Int) (r : List Int) (w : World) (hr0 : Kd.C (Kd.int .u32) w A0 l0.length l0) (hc0 : l0.length ≤ c0) (h : nat_row.f l0 a1 a2 = some r) :
    Calls Tryz.prog 111 #[.slice A0 l0.length c0, .int .u32 a1, .int .i64 a2] w fun e w' => ∃ v0_ : Value, e = .returned (v0_) ∧ Kd.R (Kd.int .u32) 56 w' w.heap.size (fun _ => True) v0_ r ∧ Below w.heap.size w w' := by
  unfold nat_row.f at h
  split at h
  case isFalse => cases h
  case isTrue hg =>
  obtain rfl := Option.some.inj h
  clear h
  obtain ⟨o0, n0, hm, hu⟩ := hg
  obtain ⟨m, rfl⟩ : ∃ m : Nat, a1 = (m : Int) := ⟨a1.toNat, by omega⟩
  obtain ⟨u, rfl⟩ : ∃ u : Nat, a2 = (u : Int) := ⟨a2.toNat, by omega⟩
  have G := Aside0.mk (gather_any (l0.length + u + 1) 136 #[.pointer (some ⟨w.heap.size + 2, 0, none⟩), .pointer (some ⟨w.heap.size, 0, none⟩), .pointer (some ⟨w.heap.size + 1, 0, none⟩), .pointer (some ⟨w.heap.size + 3, 0, none⟩)] (rowf l0 m u)
    (RowJ A0 c0 l0 m u w)
    ((((w.alloc (.cells #[.slice A0 l0.length c0] 23)).alloc (.cells #[.int .u32 (m : Int)] 56)).alloc (.cells #[.int .i64 (u : Int)] 3)).alloc (.cells #[.int .u64 0] 60)) (by omega) (enters_ Tryz.func136 (by kernel_rfl) rfl)
    (gcar_fits (fun i _ => by have := rowf_lt l0 m u i; omega))
    ⟨((((Below.refl _ _).alloc (Nat.le_refl _) _).alloc (by simp) _).alloc (by simp; omega) _).alloc (by simp; omega) _, by simp,
      blk_alloc (blk_alloc (blk_alloc (heap_alloc_new _ _) _) _) _,
      blk_alloc (blk_alloc (by have h := heap_alloc_new (w.alloc (.cells #[.slice A0 l0.length c0] 23)) (.cells #[.int .u32 (m : Int)] 56); rw [World.size_alloc] at h; exact h) _) _,
      blk_alloc (by have h := heap_alloc_new ((w.alloc (.cells #[.slice A0 l0.length c0] 23)).alloc (.cells #[.int .u32 (m : Int)] 56)) (.cells #[.int .i64 (u : Int)] 3); simp only [World.size_alloc] at h; exact h) _,
      by have h := heap_alloc_new (((w.alloc (.cells #[.slice A0 l0.length c0] 23)).alloc (.cells #[.int .u32 (m : Int)] 56)).alloc (.cells #[.int .i64 (u : Int)] 3)) (.cells #[.int .u64 0] 60); simp only [World.size_alloc] at h; simpa [rcar] using h⟩
    (fun i W W1 hJ hb hs => hJ.below hb (by simp))
    (by simpa using row_at A0 c0 l0 m u w o0 hr0 hc0 (by omega) (by omega) (l0.length + u + 1) (by omega)))
  have HS := Aside0.mk (gsum_row o0 (show m < 4294967296 by omega) u)
  have hcast : (((l0.length + u + 1 : Nat) : Int)) = (l0.length : Int) + (u : Int) + 1 := by omega
  rw [hcast] at G
  have hu0 : (0 : Int) ≤ (u : Int) := by omega
  have hu1 : (u : Int) < 1000000 := by omega
  have N0 := Aside0.mk n0
  have hn0 : (l0.length : Int) < 1000000 := by omega
  clear hcast hu hm o0 n0 hr0
  go_enter Tryz.func111, Tryz.ntmps111
  go_wp2_with (go_at_call 65; with_reducible refine G.out.mono ?_; rintro e W' ⟨v, rfl, hR, hJ, _⟩)
  go_ret
  exact ⟨v, rfl, by rw [HS.out] at hR; rw [Int.toNat_natCast, Int.toNat_natCast]; exact Kd.R_lower hR (by simp; omega), hJ.b⟩
end Go.Proofs.YtpncflaoikeidaaGreatDoor.P
namespace Go.Proofs.YtpncflaoikeidaaGreatDoor.P
open Go.RowKit Go.Proofs.YtpncflaoikeidaaGreatDoorW.PrintWords Go.Proofs.YtpncflaoikeidaaGreatDoorW.PrintLast Go.Proofs.YtpncflaoikeidaaGreatDoorW.PrintMore
attribute [local go_sem] max2_int max_two
set_option linter.unusedVariables false
set_option linter.unusedSimpArgs false
def nat_Mul.l0 : Nat → List Int → List Int → List Int → Int → Int → Option (List Int)
  | 0, _, _, _, _, _ => none
  | k + 1, x0, x5, x8, x9, x10 => if x10 < x9 then (if 0 ≤ x10 then (if x10 < (x8.length : Int) then ((nat_row.f x0 (rd x8 x10) x10).bind fun t224 => ((nat_Add.f x5 t224).bind fun t227 => (nat_Mul.l0 k x0 t227 x8 x9 (wrap64 (x10 + 1))))) else (none)) else (none)) else (some x5)
def nat_Mul.f (k : Nat) (l0 : List Int) (l1 : List Int) : Option (List Int) := nat_Mul.l0 k l0 ([] : List Int) l1 (l1.length : Int) 0
set_option maxHeartbeats 8000000 in
set_option maxRecDepth 100000 in
theorem nat_Mul.calls (k : Nat) (A0 : Option Addr) (c0 : Nat) (l0 : List Int) (A1 : Option Addr) (c1 : Nat) (l1 : List Int) (r : List Int) (w : World) (hr0 : Kd.C (Kd.int .u32) w A0 l0.length l0) (hc0 : l0.length ≤ c0) (hr1 : Kd.C (Kd.int .u32) w A1 l1.length l1) (hc1 : l1.length ≤ c1) (h : nat_Mul.f k l0 l1 = some r) :
    Calls Tryz.prog 76 #[.slice A0 l0.length c0, .slice A1 l1.length c1] w fun e w' => ∃ v0_ : Value, e = .returned (v0_) ∧ Kd.R (Kd.int .u32) 56 w' w.heap.size (fun _ => True) v0_ r ∧ Below w.heap.size w w' := by
  have HR0 := Aside0.mk hr0
  have HC0 := Aside0.mk hc0
  clear hr0 hc0
  have HR1 := Aside0.mk hr1
  have HC1 := Aside0.mk hc1
  clear hr1 hc1
  have HB := Aside0.mk (Below.refl w.heap.size w)
  have H : (nat_Mul.l0 k l0 ([] : List Int) l1 (l1.length : Int) 0) = some r := h
  clear h
  have H' := Aside0.mk H
  clear H
  go_enter Tryz.func76, Tryz.ntmps76
  go_wp2
  go_loopg [5, 10] k (fun kq v5 v10 w' => ∃ (x5_1 : List Int) (x10_1 : Int), v10 = .int .i64 x10_1 ∧ Aside0 (nat_Mul.l0 kq l0 x5_1 l1 (l1.length : Int) x10_1 = some r) ∧ Aside0 (kq ≤ k) ∧ Aside0 (Kd.R (Kd.int .u32) 56 w' w.heap.size (fun _ => True) v5 x5_1) ∧ Aside0 (Below w.heap.size w w'))
  case atStart => exact ⟨(([] : List Int)), (0), (by first | rfl | (simp; done) | (simp [*]; done)), H', ⟨Nat.le_refl _⟩, ⟨by first | exact Kd.R_nil _ _ _ _ _ | exact Kd.N_nil _ _ _ _ _ | exact Kd.V_nil _ _ _ _ _ | exact Kd.Q_nil _ _ _ _ _ | exact Kd.S_nil _ _ _ _ _⟩, ⟨by repeat (first | (with_reducible first | exact HB.out | apply below_alloc | apply pw_below_drewN | apply below_drew1) | exact HB.out)⟩⟩
  case round =>
    clear H'
    try clear c1
    try clear p2
    obtain ⟨x5_1, x10_1, rfl, HA, HK1, HO_5, HB⟩ := hrel
    cases gk with
    | zero => exact absurd HA.out (by simp [nat_Mul.l0])
    | succ k1 =>
      have H := HA.out
      clear HA
      simp only [nat_Mul.l0] at H
      by_cases c3 : x10_1 < (l1.length : Int)
      · rw [if_pos c3] at H
        have c3b0 : decide (x10_1 < (l1.length : Int)) = true := decide_eq_true c3
        clear c3
        by_cases c4 : 0 ≤ x10_1
        · rw [if_pos c4] at H
          have c4b0 : decide (0 ≤ x10_1) = true := decide_eq_true c4
          clear c4
          by_cases c5 : x10_1 < (l1.length : Int)
          · rw [if_pos c5] at H
            have c5b0 : decide (x10_1 < (l1.length : Int)) = true := decide_eq_true c5
            clear c5
            replace H := Option.bind_eq_some_iff.mp H
            obtain ⟨t224, A60, H⟩ := H
            try dsimp only at H
            have A6 := Aside0.mk A60
            clear A60
            replace H := Option.bind_eq_some_iff.mp H
            obtain ⟨t227, A70, H⟩ := H
            try dsimp only at H
            have A7 := Aside0.mk A70
            clear A70
            have H' := Aside0.mk H
            clear H
            have p223 : 0 ≤ (x10_1 : Int) := of_decide_eq_true (by first | (with_reducible assumption) | assumption)
            have q223 : x10_1 < (l1.length : Int) := of_decide_eq_true (by first | (with_reducible assumption) | assumption)
            obtain ⟨ad223, e223, hx223_0⟩ := Kd.at_int HR1.out x10_1 p223 q223
            cases e223
            replace hx223_0 := (HB.out.cell (World.block_lt_of_cell? w _ hx223_0)).trans hx223_0
            replace p223 := eq_true p223
            replace q223 := eq_true q223
            go_wp2_with (first | ((with_reducible refine gate_callee (f := 111) rfl ?_); refine goesL_ (some 19) rfl rfl Tryz.func111 (by kernel_rfl) rfl #[.slice A0 l0.length c0, .int .u32 (rd l1 x10_1), .int .i64 x10_1] rfl (by (try simp only [List.map_toArray, List.map_cons, List.map_nil]); first | done | rfl | (simp only [List.length_drop, List.length_take]; rfl)) ?_; (with_reducible refine (nat_row.calls _ _ l0 (rd l1 x10_1) x10_1 t224 _ ?side1 ?side2 A6.out).mono ?_); (case side1 => repeat (first | exact (Kd.C_below HR0.out HB.out) | (with_reducible refine Kd.C_alloc ?_ _) | (with_reducible refine Kd.C_drewN ?_ _) | (with_reducible refine Kd.C_drew ?_))); (case side2 => exact HC0.out); rintro e w8 ⟨v225, rfl, ho0, hb⟩; refine ⟨_, rfl, ?_⟩; have n0_ := Aside0.mk (Kd.R_elder' (by exact HO_5.out) (Kd.R_base ho0) hb); have n1_ := Aside0.mk (Kd.R_lower (Kd.R_new' ho0 (Kd.R_lt (by exact HO_5.out))) (below_size (by repeat (first | (with_reducible first | exact HB.out | apply below_alloc | apply pw_below_drewN | apply below_drew1) | exact HB.out)))); have n2_ := Aside0.mk (below_step (by repeat (first | (with_reducible first | exact HB.out | apply below_alloc | apply pw_below_drewN | apply below_drew1) | exact HB.out)) hb); clear HO_5; clear HB; have HO_5 := n0_; have HO226 := n1_; have HB := n2_; clear n0_ n1_ n2_; (try clear hb); (try clear hb2); (try clear hk); (try clear hi); (try clear ho0); obtain ⟨Ao9, co9, eo9⟩ := Kd.R_slice HO_5.out; subst eo9; obtain ⟨Ao10, co10, eo10⟩ := Kd.R_slice HO226.out; subst eo10) | ((with_reducible refine gate_callee (f := 75) rfl ?_); refine goesL_ (some 20) rfl rfl Tryz.func75 (by kernel_rfl) rfl #[.slice Ao9 x5_1.length co9, .slice Ao10 t224.length co10] rfl (by (try simp only [List.map_toArray, List.map_cons, List.map_nil]); first | done | rfl | (simp only [List.length_drop, List.length_take]; rfl)) ?_; (with_reducible refine (nat_Add.calls _ _ x5_1 _ _ t224 t227 _ ?side1 ?side2 ?side3 ?side4 A7.out).mono ?_); (case side1 => repeat (first | exact (Kd.R_reads' HO_5.out).2.2 | (with_reducible refine Kd.C_alloc ?_ _) | (with_reducible refine Kd.C_drewN ?_ _) | (with_reducible refine Kd.C_drew ?_))); (case side2 => exact (Kd.R_reads' HO_5.out).2.1); (case side3 => repeat (first | exact (Kd.R_reads' HO226.out).2.2 | (with_reducible refine Kd.C_alloc ?_ _) | (with_reducible refine Kd.C_drewN ?_ _) | (with_reducible refine Kd.C_drew ?_))); (case side4 => exact (Kd.R_reads' HO226.out).2.1); rintro e w11 ⟨v228, rfl, ho0, hb⟩; refine ⟨_, rfl, ?_⟩; have n0_ := Aside0.mk (Kd.R_elder' (by exact HO_5.out) (Kd.R_base ho0) hb); have n1_ := Aside0.mk (Kd.R_elder' (by exact HO226.out) (Kd.R_base ho0) hb); have n2_ := Aside0.mk (Kd.R_lower (Kd.R_new' (Kd.R_new' ho0 (Kd.R_lt (by exact HO_5.out))) (Kd.R_lt (by exact HO226.out))) (below_size (by repeat (first | (with_reducible first | exact HB.out | apply below_alloc | apply pw_below_drewN | apply below_drew1) | exact HB.out)))); have n3_ := Aside0.mk (below_step (by repeat (first | (with_reducible first | exact HB.out | apply below_alloc | apply pw_below_drewN | apply below_drew1) | exact HB.out)) hb); clear HO_5; clear HO226; clear HB; have HO_5 := n0_; have HO226 := n1_; have HO229 := n2_; have HB := n3_; clear n0_ n1_ n2_ n3_; (try clear hb); (try clear hb2); (try clear hk); (try clear hi); (try clear ho0)))
            go_roundg k1
            case measure => have := HK1.out; omega
            case rel => exact ⟨(t227), (wrap64 (x10_1 + 1)), (by first | rfl | (simp; done) | (simp [*]; done)), H', ⟨by have := HK1.out; omega⟩, ⟨by exact Kd.R_mono HO229.out (fun _ hk => trivial)⟩, ⟨by repeat (first | (with_reducible first | exact HB.out | apply below_alloc | apply pw_below_drewN | apply below_drew1) | exact HB.out)⟩⟩
          · rw [if_neg c5] at H
            exact absurd H (by simp)
        · rw [if_neg c4] at H
          exact absurd H (by simp)
      · rw [if_neg c3] at H
        have c3b0 : decide (x10_1 < (l1.length : Int)) = false := decide_eq_false c3
        clear c3
        obtain rfl := Option.some.inj H
        go_wp2
        go_ret
        exact ⟨_, by first | rfl | (simp [errW_none, errW_some] <;> rfl) | (simp [*, errW_none, errW_some] <;> rfl), by exact HO_5.out, by repeat (first | (with_reducible first | exact HB.out | apply below_alloc | apply pw_below_drewN | apply below_drew1) | exact HB.out)⟩

end Go.Proofs.YtpncflaoikeidaaGreatDoor.P
namespace Go.Proofs.YtpncflaoikeidaaGreatDoor.H
open Go.RowKit Go.Lib Go.Proofs.YtpncflaoikeidaaGreatDoorW.PrintWords Go.Proofs.YtpncflaoikeidaaGreatDoorW.PrintLast Go.Proofs.YtpncflaoikeidaaGreatDoorW.PrintMore Go.Proofs.YtpncflaoikeidaaGreatDoor.P
/-- the number that digits spell, behind another one -/
def dgv (c : UInt8) : Nat := c.toNat - 48
theorem dgv_eq (c : UInt8) : dgv c = c.toNat - 48 := rfl
def dvS (a d : Nat) : Nat := 10 * a + d
theorem dvS_eq (a d : Nat) : dvS a d = 10 * a + d := rfl
def dvF (l : List UInt8) (a : Nat) : Nat := l.foldl (fun a c => dvS a (dgv c)) a
theorem dvF_nil (a : Nat) : dvF [] a = a := rfl
theorem dvF_cons (c : UInt8) (l : List UInt8) (a : Nat) : dvF (c :: l) a = dvF l (10 * a + dgv c) := by unfold dvF; rw [List.foldl_cons, dvS_eq]
def dv (l : List UInt8) : Nat := dvF l 0
theorem dvF_eq (l : List UInt8) : ∀ (a : Nat), dvF l a = a * 10 ^ l.length + dvF l 0 := by
  induction l with
  | nil => intro a; simp [dvF_nil]
  | cons c l ih =>
    intro a
    rw [dvF_cons, dvF_cons, ih (10 * a + dgv c), ih (10 * 0 + dgv c), List.length_cons, Nat.pow_succ, Nat.mul_zero, Nat.zero_add, Nat.add_mul, Nat.mul_comm (10 ^ l.length) 10, ← Nat.mul_assoc a, Nat.mul_comm a 10, Nat.add_assoc]
theorem dvF_append (l m : List UInt8) (a : Nat) : dvF (l ++ m) a = dvF m (dvF l a) := by unfold dvF; rw [List.foldl_append]
theorem dv_append (l m : List UInt8) : dv (l ++ m) = dv l * 10 ^ m.length + dv m := by
  unfold dv; rw [dvF_append, dvF_eq m (dvF l 0)]
theorem dv_nil : dv [] = 0 := rfl
theorem dv_one (c : UInt8) : dv [c] = dgv c := by unfold dv; rw [dvF_cons, dvF_nil, Nat.mul_zero, Nat.zero_add]
theorem digB_iff (c : UInt8) : digB c = true ↔ 48 ≤ c.toNat ∧ c.toNat ≤ 57 := by unfold digB; simp
theorem dv_lt : ∀ (l : List UInt8), l.all digB = true → dv l < 10 ^ l.length
  | [], _ => by rw [dv_nil]; decide
  | c :: l, h => by
    rw [List.all_cons, Bool.and_eq_true] at h
    have ih := dv_lt l h.2
    have hc := (digB_iff c).1 h.1
    have e : dv (c :: l) = dgv c * 10 ^ l.length + dv l := by
      have := dv_append [c] l
      rw [dv_one] at this
      exact this
    have e2 := dgv_eq c
    rw [e, List.length_cons, Nat.pow_succ]
    have : (dgv c + 1) * 10 ^ l.length ≤ 10 * 10 ^ l.length := Nat.mul_le_mul_right _ (by omega)
    rw [Nat.add_mul, Nat.one_mul] at this
    omega
theorem parseM_ok (M : Nat) (hM : M < 4294967296) : ∀ (l : List UInt8) (a : Nat), l.all digB = true → dvF l a ≤ M → parseUintM M a l = .ok (dvF l a)
  | [], _, _, _ => rfl
  | c :: l, a, h, hle => by
    rw [List.all_cons, Bool.and_eq_true] at h
    have hc := (digB_iff c).1 h.1
    rw [dvF_cons] at hle ⊢
    have e2 := dgv_eq c
    have h3 := dvF_eq l (10 * a + dgv c)
    have h4 : 10 * a + dgv c ≤ (10 * a + dgv c) * 10 ^ l.length := Nat.le_mul_of_pos_right _ (Nat.pow_pos (by decide))
    rw [parseUintM, if_pos hc, if_neg (by omega), if_neg (by omega), Nat.mul_comm a 10, ← e2, parseM_ok M hM l _ h.2 hle]
theorem parse_ok (l : List UInt8) (h : l.all digB = true) (h0 : l ≠ []) (h9 : l.length ≤ 9) : parseUintB 32 l = .ok (dv l) := by
  unfold parseUintB
  rw [if_neg h0]
  refine parseM_ok _ (by decide) l 0 h ?_
  have h1 := dv_lt l h
  have h2 : 10 ^ l.length ≤ 10 ^ 9 := Nat.pow_le_pow_right (by decide) h9
  show dv l ≤ _
  omega
theorem limbs_ten9 : limbs 1000000000 = [1000000000] := by
  rw [limbs_pos _ (by decide), show 1000000000 / 4294967296 = 0 by decide, limbs_zero]; rfl
theorem mul_ten9 {m : Nat} (h : (limbs m).length < 900000) : nat_Mul.f 2 (limbs m) (limbs 1000000000) = some (limbs (m * 1000000000)) := by
  rw [limbs_ten9]
  unfold nat_Mul.f
  have hl : (limbs (m * 1000000000)).length < 1000000 := by
    have h1 : m * 1000000000 < 4294967296 ^ ((limbs m).length + 1) := by
      have h2 := nval_lt (okl_limbs m)
      rw [nval_limbs] at h2
      rw [Nat.pow_succ]
      exact Nat.lt_of_lt_of_le (Nat.mul_lt_mul_of_pos_right h2 (by decide)) (Nat.mul_le_mul_left _ (by decide))
    have := limbs_length_le _ _ h1
    omega
  have er : nat_row.f (limbs m) (rd ([1000000000] : List Int) 0) 0 = some (limbs (m * 1000000000)) := by
    unfold nat_row.f
    rw [if_pos ⟨okl_limbs m, by omega, ⟨by decide, by decide⟩, by decide, by decide⟩, nval_limbs]
    simp [rd]
  have ea : nat_Add.f [] (limbs (m * 1000000000)) = some (limbs (m * 1000000000)) := by
    unfold nat_Add.f
    rw [if_pos ⟨okl_nil, okl_limbs _, by decide, hl⟩, nval_limbs]
    simp [nval]
  rw [nat_Mul.l0, if_pos (by decide), if_pos (by decide), if_pos (by decide), er, Option.bind_some, ea, Option.bind_some, nat_Mul.l0, if_neg (by unfold wrap64; decide)]
end Go.Proofs.YtpncflaoikeidaaGreatDoor.H
namespace Go.Proofs.YtpncflaoikeidaaGreatDoor.H
open Go.Lib
/-- j digits -/
def padd : Nat → Nat → List UInt8
  | 0, _ => []
  | j + 1, r => padd j (r / 10) ++ [UInt8.ofNat (48 + r % 10)]
theorem padd_length : ∀ j r, (padd j r).length = j
  | 0, _ => rfl
  | j + 1, r => by simp [padd, padd_length j]
theorem padd_zero : ∀ j, padd j 0 = List.replicate j 48
  | 0 => rfl
  | j + 1 => by rw [padd, Nat.zero_div, padd_zero j, List.replicate_succ']; rfl
theorem dec_step {u : Nat} (h : 10 ≤ u) : decDigits u = decDigits (u / 10) ++ [UInt8.ofNat (48 + u % 10)] := by
  rw [decDigits, dif_neg (by omega)]
theorem dec_low : ∀ (j a r : Nat), 0 < a → r < 10 ^ j → decDigits (a * 10 ^ j + r) = decDigits a ++ padd j r
  | 0, a, r, _, hr => by
    have : r = 0 := by simpa using hr
    subst this
    simp [padd]
  | j + 1, a, r, ha, hr => by
    rw [Nat.pow_succ] at hr ⊢
    have hp : 0 < 10 ^ j := Nat.pow_pos (by decide)
    have h1 : 10 ^ j ≤ a * 10 ^ j := Nat.le_mul_of_pos_left _ ha
    rw [dec_step (by rw [← Nat.mul_assoc]; omega)]
    have e1 : (a * (10 ^ j * 10) + r) / 10 = a * 10 ^ j + r / 10 := by rw [← Nat.mul_assoc]; omega
    have e2 : (a * (10 ^ j * 10) + r) % 10 = r % 10 := by rw [← Nat.mul_assoc]; omega
    rw [e1, e2, dec_low j a (r / 10) ha (by omega), List.append_assoc, padd]
theorem dec_pad : ∀ (j r : Nat), 0 < j → r < 10 ^ j → List.replicate (j - (decDigits r).length) 48 ++ decDigits r = padd j r
  | 0, _, h, _ => by omega
  | j + 1, r, _, hr => by
    by_cases h : r < 10
    · rw [decDigits_one h, padd, Nat.div_eq_of_lt h, padd_zero, Nat.mod_eq_of_lt h]
      simp
    · rw [dec_step (by omega), padd]
      rw [Nat.pow_succ] at hr
      have hj : 0 < j := by
        rcases Nat.eq_zero_or_pos j with h0 | h0
        · subst h0; omega
        · exact h0
      rw [← dec_pad j (r / 10) hj (by omega), List.append_assoc, List.length_append, List.length_singleton, Nat.add_sub_add_right]
theorem dec_len {j r : Nat} (hj : 0 < j) (hr : r < 10 ^ j) : (decDigits r).length ≤ j := by
  have h := congrArg List.length (dec_pad j r hj hr)
  rw [padd_length, List.length_append, List.length_replicate] at h
  omega
/-- one piece of nine digits -/
def piece (xs : List Nat) (x : Nat) : List UInt8 :=
  (if x + 1 < xs.length then List.replicate (9 - (decDigits (xs.getD x 0)).length) 48 else []) ++ decDigits (xs.getD x 0)
def outD (xs : List Nat) : Nat → List UInt8
  | 0 => []
  | k + 1 => outD xs k ++ piece xs (xs.length - 1 - k)
def v9 : List Nat → Nat
  | [] => 0
  | x :: l => x + 1000000000 * v9 l
theorem outD_cons (r : Nat) (xs : List Nat) : ∀ k, k ≤ xs.length → outD (r :: xs) k = outD xs k
  | 0, _ => rfl
  | k + 1, hk => by
    rw [outD, outD, outD_cons r xs k (by omega)]
    congr 1
    obtain ⟨m, hm⟩ : ∃ m, xs.length = k + 1 + m := ⟨xs.length - (k + 1), by omega⟩
    unfold piece
    rw [List.length_cons, hm, show k + 1 + m + 1 - 1 - k = m + 1 by omega, show k + 1 + m - 1 - k = m by omega, List.getD_cons_succ]
    by_cases h : m + 1 < k + 1 + m
    · rw [if_pos (by omega), if_pos h]
    · rw [if_neg (by omega), if_neg h]
/-- the digits of a number in pieces of nine -/
theorem outD_all : ∀ (xs : List Nat), (∀ x ∈ xs, x < 1000000000) → (∀ h : xs ≠ [], xs.getLast h ≠ 0) → xs ≠ [] → outD xs xs.length = decDigits (v9 xs)
  | [], _, _, h => absurd rfl h
  | [r], _, _, _ => by simp [outD, piece, v9]
  | r :: y :: xs, hb, hl, _ => by
    have hr := hb r (by simp)
    have ih := outD_all (y :: xs) (fun x hx => hb x (by simp at hx ⊢; exact .inr hx)) (fun h => by have := hl (by simp); rwa [List.getLast_cons (by simp)] at this) (by simp)
    have hpos : 0 < v9 (y :: xs) := by
      rcases Nat.eq_zero_or_pos (v9 (y :: xs)) with h0 | h0
      · exfalso
        have hz : ∀ (l : List Nat), v9 l = 0 → ∀ x ∈ l, x = 0 := by
          intro l
          induction l with
          | nil => intro _ x hx; cases hx
          | cons a l ih => intro h x hx; simp only [v9] at h; rcases List.mem_cons.1 hx with rfl | hx; omega; exact ih (by omega) x hx
        exact hl (by simp) (by rw [List.getLast_cons (by simp)]; exact hz _ h0 _ (List.getLast_mem _))
      · exact h0
    rw [List.length_cons, outD, outD_cons r (y :: xs) _ (Nat.le_refl _), ih]
    have e : v9 (r :: y :: xs) = v9 (y :: xs) * 10 ^ 9 + r := by rw [v9]; omega
    rw [e, dec_low 9 _ r hpos (by omega)]
    congr 1
    unfold piece
    rw [show (r :: y :: xs).length - 1 - (y :: xs).length = 0 by simp, List.getD_cons_zero, if_pos (by simp)]
    exact dec_pad 9 r (by decide) (by omega)
theorem v9_append : ∀ (l m : List Nat), v9 (l ++ m) = v9 l + 1000000000 ^ l.length * v9 m
  | [], m => by simp [v9]
  | x :: l, m => by
    rw [List.cons_append, v9, v9, v9_append l m, List.length_cons, Nat.pow_succ, Nat.mul_add, Nat.add_assoc, Nat.mul_comm (1000000000 ^ l.length) 1000000000, Nat.mul_assoc]
end Go.Proofs.YtpncflaoikeidaaGreatDoor.H
namespace Go.Proofs.YtpncflaoikeidaaGreatDoor.P
open Go.RowKit Go.Proofs.YtpncflaoikeidaaGreatDoorW.PrintWords Go.Proofs.YtpncflaoikeidaaGreatDoorW.PrintLast Go.Proofs.YtpncflaoikeidaaGreatDoorW.PrintMore
theorem borrow_nat (x y b d : Nat) (hx : x < 4294967296) (hy : y < 4294967296) (hb : b ≤ 1) (hd : d = (x + 4294967296 - y - b) % 4294967296) :
    ((((4294967295 ^^^ x) &&& y) ||| ((4294967295 ^^^ (x ^^^ y)) &&& d)) / 2147483648) = if x < y + b then 1 else 0 := by
  have e : ∀ n : Nat, n / 2147483648 = n >>> 31 := fun n => by rw [Nat.shiftRight_eq_div_pow]
  rw [e, Nat.shiftRight_or_distrib, Nat.shiftRight_and_distrib, Nat.shiftRight_and_distrib, Nat.shiftRight_xor_distrib, Nat.shiftRight_xor_distrib, Nat.shiftRight_xor_distrib, ← e x, ← e y, ← e d, show (4294967295 : Nat) >>> 31 = 1 from rfl]
  have hX : x / 2147483648 = 0 ∨ x / 2147483648 = 1 := by omega
  have hY : y / 2147483648 = 0 ∨ y / 2147483648 = 1 := by omega
  have hD : d / 2147483648 = 0 ∨ d / 2147483648 = 1 := by omega
  rcases hX with hX | hX <;> rcases hY with hY | hY <;> rcases hD with hD | hD <;> rw [hX, hY, hD]
  all_goals (simp only [Nat.reduceXor, Nat.reduceAnd, Nat.reduceOr]; split <;> first | rfl | (exfalso; omega))
theorem borrow_int (x y b : Int) (hx0 : 0 ≤ x) (hx : x < 4294967296) (hy0 : 0 ≤ y) (hy : y < 4294967296) (hb : b = 0 ∨ b = 1) :
    bits .or .u32 (bits .and .u32 (bits .xor .u32 IntKind.u32.max x) y) (bits .and .u32 (bits .xor .u32 IntKind.u32.max (bits .xor .u32 x y)) ((x - y - b) % 4294967296)) / 2147483648 = if x < y + b then 1 else 0 := by
  obtain ⟨X, rfl⟩ := Int.eq_ofNat_of_zero_le hx0
  obtain ⟨Y, rfl⟩ := Int.eq_ofNat_of_zero_le hy0
  obtain ⟨B, rfl⟩ : ∃ B : Nat, b = (B : Int) := ⟨b.toNat, by omega⟩
  obtain ⟨d, hd⟩ : ∃ d : Nat, d = (X + 4294967296 - Y - B) % 4294967296 := ⟨_, rfl⟩
  have e1 : (((X : Int) - Y - B) % 4294967296) = (d : Int) := by omega
  have e2 : IntKind.u32.max = ((4294967295 : Nat) : Int) := rfl
  have l1 : X ^^^ Y < 4294967296 := Nat.xor_lt_two_pow (n := 32) (by omega) (by omega)
  have l2 : 4294967295 ^^^ X < 4294967296 := Nat.xor_lt_two_pow (n := 32) (by decide) (by omega)
  have l3 : 4294967295 ^^^ (X ^^^ Y) < 4294967296 := Nat.xor_lt_two_pow (n := 32) (by decide) l1
  have l4 : (4294967295 ^^^ X) &&& Y < 4294967296 := Nat.and_lt_two_pow (n := 32) _ (by omega)
  have l5 : (4294967295 ^^^ (X ^^^ Y)) &&& d < 4294967296 := Nat.and_lt_two_pow (n := 32) _ (by omega)
  rw [e1, e2, u32_xor_nat _ _ (by decide) (by omega), u32_xor_nat _ _ (by omega) (by omega), u32_xor_nat _ _ (by decide) l1, u32_and_nat _ _ l2 (by omega), u32_and_nat _ _ l3 (by omega), u32_or_nat _ _ l4 l5]
  have h := borrow_nat X Y B d (by omega) (by omega) (by omega) hd
  have h2 : (((((4294967295 ^^^ X) &&& Y) ||| ((4294967295 ^^^ (X ^^^ Y)) &&& d) : Nat) : Int) / 2147483648) = ((((((4294967295 ^^^ X) &&& Y) ||| ((4294967295 ^^^ (X ^^^ Y)) &&& d)) / 2147483648 : Nat)) : Int) := rfl
  rw [h2, h]
  split <;> split <;> first | rfl | (exfalso; omega)
def bits_Sub32.f (a0 a1 a2 : Int) : Option (Int × Int) := if (0 ≤ a0 ∧ a0 < 4294967296) ∧ (0 ≤ a1 ∧ a1 < 4294967296) ∧ (a2 = 0 ∨ a2 = 1) then some ((a0 - a1 - a2) % 4294967296, if a0 < a1 + a2 then 1 else 0) else none
theorem ret_tuple2 {a b c d : Int} (h : a = c) (k : b = d) : Ending.returned (.tuple #[.int .u32 a, .int .u32 b]) = .returned (.tuple #[.int .u32 c, .int .u32 d]) := by rw [h, k]
set_option maxHeartbeats 400000 in
set_option maxRecDepth 100000 in
theorem bits_Sub32.calls (a0 : Int) (a1 : Int) (a2 : Int) (r1 : Int) (r2 : Int) (w : World) (h : bits_Sub32.f a0 a1 a2 = some (r1, r2)) :
    Calls Tryz.prog 164 #[.int .u32 a0, .int .u32 a1, .int .u32 a2] w fun e w' => e = .returned (.tuple #[.int .u32 r1, .int .u32 r2]) ∧ Drawn0 w w' := by
  unfold bits_Sub32.f at h
  split at h
  case isFalse => cases h
  case isTrue hg =>
  simp only [Option.some.injEq, Prod.mk.injEq] at h
  obtain ⟨rfl, h2⟩ := h
  have HG := Aside0.mk (borrow_int a0 a1 a2 hg.1.1 hg.1.2 hg.2.1.1 hg.2.1.2 hg.2.2)
  rw [h2] at HG
  clear hg h2
  go_enter Tryz.func164, Tryz.ntmps164
  go_wp2
  go_ret2
  exact ⟨ret_tuple2 rfl HG.out, Drawn0.refl _⟩
end Go.Proofs.YtpncflaoikeidaaGreatDoor.P
namespace Go.Proofs.YtpncflaoikeidaaGreatDoor.P
open Go.RowKit Go.Proofs.YtpncflaoikeidaaGreatDoorW.PrintWords Go.Proofs.YtpncflaoikeidaaGreatDoorW.PrintLast Go.Proofs.YtpncflaoikeidaaGreatDoorW.PrintMore
attribute [local go_sem] max2_int max_two
set_option linter.unusedVariables false
set_option linter.unusedSimpArgs false
def bits_Add32.f (a0 : Int) (a1 : Int) (a2 : Int) : Option (Int × Int) := some ((IntKind.u64.wrap ((IntKind.u64.wrap ((IntKind.u64.wrap (a0)) + (IntKind.u64.wrap (a1)))) + (IntKind.u64.wrap (a2)))) % 4294967296, ((IntKind.u64.wrap ((IntKind.u64.wrap ((IntKind.u64.wrap (a0)) + (IntKind.u64.wrap (a1)))) + (IntKind.u64.wrap (a2)))) / 4294967296) % 4294967296)
set_option maxHeartbeats 8000000 in
set_option maxRecDepth 100000 in
theorem bits_Add32.calls (a0 : Int) (a1 : Int) (a2 : Int) (r1 : Int) (r2 : Int) (w : World) (h : bits_Add32.f a0 a1 a2 = some (r1, r2)) :
    Calls Tryz.prog 165 #[.int .u32 a0, .int .u32 a1, .int .u32 a2] w fun e w' => e = .returned (.tuple #[.int .u32 r1, .int .u32 r2]) ∧ Drawn0 w w' := by
  have H : (some ((IntKind.u64.wrap ((IntKind.u64.wrap ((IntKind.u64.wrap (a0)) + (IntKind.u64.wrap (a1)))) + (IntKind.u64.wrap (a2)))) % 4294967296, ((IntKind.u64.wrap ((IntKind.u64.wrap ((IntKind.u64.wrap (a0)) + (IntKind.u64.wrap (a1)))) + (IntKind.u64.wrap (a2)))) / 4294967296) % 4294967296)) = some (r1, r2) := h
  clear h
  simp only [Option.some.injEq, Prod.mk.injEq] at H
  obtain ⟨rfl, rfl⟩ := H
  go_enter Tryz.func165, Tryz.ntmps165
  go_wp2
  go_ret2
  exact ⟨by first | rfl | (simp; done) | (simp [*]; done), by repeat (first | exact Drawn0.refl _ | apply Drawn0.step)⟩

end Go.Proofs.YtpncflaoikeidaaGreatDoor.P
namespace Go.Proofs.YtpncflaoikeidaaGreatDoor.H
open Go.RowKit Go.Proofs.YtpncflaoikeidaaGreatDoorW.PrintWords Go.Proofs.YtpncflaoikeidaaGreatDoorW.PrintLast Go.Proofs.YtpncflaoikeidaaGreatDoorW.PrintMore Go.Proofs.YtpncflaoikeidaaGreatDoor.P
/-- Block g holds just these limbs. -/
def Blk32 (W : World) (g : Nat) (us : List Int) : Prop := W.heap[g]? = some (.cells (us.map (Value.int .u32)).toArray 56 (0, 0))
theorem Blk32.cell {W : World} {g : Nat} {us : List Int} (h : Blk32 W g us) (hu : okl us) {i : Nat} (hi : i < us.length) : W.cell? ⟨g, i, none⟩ = some (.int .u32 ((lim us i : Nat) : Int)) := by
  rw [blk_cell h i, ← rd_lim hu i]
  simp [rd, List.getD_eq_getElem?_getD, hi]
theorem Blk32.frozen {W : World} {g : Nat} {us : List Int} (h : Blk32 W g us) (i : Nat) : W.frozen? ⟨g, i, none⟩ = false := blk_frozen h i
theorem Blk32.set {W : World} {g : Nat} {us : List Int} (h : Blk32 W g us) (i : Nat) (d : Int) : Blk32 (W.setCell ⟨g, i, none⟩ (.int .u32 d)) g (us.set i d) :=
  blk_put h i _ (by simp [List.map_set])
structure Put32 (g : Nat) (w : World) (us : List Int) (W : World) : Prop where
  blk : Blk32 W g us
  keep : KeepBut w W g none
  bel : ∀ B, B ≤ g → Below B w W
theorem Put32.set {g : Nat} {w : World} {us : List Int} {W : World} (h : Put32 g w us W) (i : Nat) (d : Int) : Put32 g w (us.set i d) (W.setCell ⟨g, i, none⟩ (.int .u32 d)) :=
  ⟨h.blk.set i d, h.keep.set_ i _, fun B hB => (h.bel B hB).setCell (p := ⟨g, i, none⟩) hB _⟩
theorem Put32.drewN {g : Nat} {w : World} {us : List Int} {W : World} (h : Put32 g w us W) (q : Nat) : Put32 g w us (W.drewN q) :=
  ⟨h.blk, keep_drewN h.keep q, fun B hB => pw_below_drewN (h.bel B hB) q⟩

set_option maxHeartbeats 1000000 in
set_option maxRecDepth 100000 in
theorem take_any (g j cap : Nat) (us vs : List Int) (A1 : Option Addr) (c1 : Nat) (q : Nat) (w : World) (hq : q < 4294967296) (hu : okl us) (hv : okl vs) (hj : j + vs.length < us.length) (hl : us.length < 1000000)
    (hb : Blk32 w g us) (hr : ∀ W_, KeepBut w W_ g none → Kd.C (Kd.int .u32) W_ A1 vs.length vs) (_hc1 : vs.length ≤ c1) :
    Calls Tryz.prog 150 #[.slice (some ⟨g, j, none⟩) (vs.length + 1) cap, .slice A1 vs.length c1, .int .u64 ((q : Nat) : Int)] w fun e w' =>
      e = .returned (.bool ((takeF q us vs j).2 == 1)) ∧ Put32 g w (takeF q us vs j).1 w' := by
  have HR := Aside0.mk hr
  have HU := Aside0.mk hu
  have HV := Aside0.mk hv
  have HQ := Aside0.mk hq
  have HJ := Aside0.mk hj
  have HL := Aside0.mk hl
  have HB := Aside0.mk hb
  have hq0 : (0 : Int) ≤ ((q : Nat) : Int) := Int.natCast_nonneg _
  obtain ⟨n, hn⟩ : ∃ n, vs.length = n := ⟨_, rfl⟩
  have HN := Aside0.mk hn
  rw [hn] at HR HJ ⊢
  have hn0 : (n : Int) < 1000000 := by omega
  clear hr hu hv hq hj hl hb hn
  go_enter Tryz.func150, Tryz.ntmps150
  go_wp2
  go_loopw [7, 8, 14] (fun v7 v8 v14 wr => ∃ k : Nat, k ≤ n ∧ v14 = .int .i64 (k : Int) ∧ v7 = .int .u64 (((takeU q us vs j k).2.1 : Nat) : Int) ∧ v8 = .int .u32 (((takeU q us vs j k).2.2 : Nat) : Int) ∧ Aside0 (Put32 g w (takeU q us vs j k).1 wr)) (fun _ _ v14 _ => n - (intOf v14).toNat)
  case atStart => exact ⟨0, Nat.zero_le _, rfl, rfl, rfl, ⟨HB.out, KeepBut.refl _ _ _, fun B _ => Below.refl _ _⟩⟩
  case round =>
    obtain ⟨k, hk, rfl, rfl, rfl, HP⟩ := hrel
    have ok := take_ok HQ.out HU.out HV.out (j := j) k (by have := HJ.out; omega)
    have HOK := Aside0.mk ok
    have HS : Aside0 (∃ s, s = takeU q us vs j k) := ⟨⟨_, rfl⟩⟩
    obtain ⟨s, hs⟩ := HS.out
    have HSS := Aside0.mk hs
    rw [← hs] at HP HOK ok ⊢
    have c0 : (0 : Int) ≤ ((s.2.1 : Nat) : Int) := Int.natCast_nonneg _
    have c1' : ((s.2.1 : Nat) : Int) < 4294967296 := by have := ok.c; omega
    clear ok hs HS
    by_cases hlt : k < n
    · have hkn : (k : Int) < (n : Int) := by omega
      obtain ⟨ad, e101, hx101⟩ := Kd.at_int (HR.out _ HP.out.keep) (k : Int) (by omega) (by omega)
      rw [rd_lim HV.out] at hx101
      have hcu := HP.out.blk.cell HOK.out.ok (i := j + k) (by rw [HOK.out.len]; have := HJ.out; omega)
      have hfz := HP.out.blk.frozen (j + k)
      rw [Int.toNat_natCast] at hx101
      subst e101
      have hlv := lim_lt HV.out k
      have hlx := lim_lt HOK.out.ok (j + k)
      have hmul : q * lim vs k ≤ 4294967295 * 4294967295 := Nat.mul_le_mul (by have := HQ.out; omega) (by omega)
      obtain ⟨p, hp⟩ : ∃ p : Nat, q * lim vs k = p := ⟨_, rfl⟩
      obtain ⟨y, hy⟩ : ∃ y : Nat, lim vs k = y := ⟨_, rfl⟩
      obtain ⟨x, hx⟩ : ∃ x : Nat, lim s.1 (j + k) = x := ⟨_, rfl⟩
      rw [hx] at hcu hlx
      rw [hy] at hx101
      have hw0 : IntKind.u64.wrap ((y : Nat) : Int) = (y : Int) := IntWalk.u64_in _ (by omega)
      have hw1 : IntKind.u64.wrap (((q : Nat) : Int) * ((y : Nat) : Int)) = (p : Int) := by
        rw [← hp, ← hy, Int.natCast_mul]; exact IntWalk.u64_in _ ⟨by rw [← Int.natCast_mul]; exact Int.natCast_nonneg _, by rw [← Int.natCast_mul]; omega⟩
      rw [hp] at hmul
      have hp1 : ((p : Nat) : Int) ≤ 18446744065119617025 := by omega
      have hp0 : (0 : Int) ≤ ((p : Nat) : Int) := Int.natCast_nonneg _
      obtain ⟨d, hd⟩ : ∃ d : Int, ((x : Int) - ((p + s.2.1 : Nat) % 4294967296 : Nat) - (s.2.2 : Nat)) % 4294967296 = d := ⟨_, rfl⟩
      obtain ⟨b', hb'⟩ : ∃ b' : Nat, (if x < (p + s.2.1) % 4294967296 + s.2.2 then 1 else 0 : Nat) = b' := ⟨_, rfl⟩
      have hstep : takeU q us vs j (k + 1) = (s.1.set (j + k) d, (p + s.2.1) / 4294967296, b') := by
        simp only [takeU, ← HSS.out, hx, hp, hd, hb']
      have hcall : bits_Sub32.f (x : Int) (((p : Int) + (s.2.1 : Int)) % 4294967296) (s.2.2 : Int) = some (d, (b' : Int)) := by
        unfold bits_Sub32.f
        rw [if_pos ⟨⟨by omega, by omega⟩, ⟨by omega, by omega⟩, by have := HOK.out.b; omega⟩]
        have e1 : ((p : Int) + (s.2.1 : Int)) % 4294967296 = (((p + s.2.1 : Nat) % 4294967296 : Nat) : Int) := by omega
        rw [e1, hd, ← hb']
        congr 2
        split <;> split <;> first | rfl | (exfalso; omega)
      have HC := Aside0.mk (fun W => bits_Sub32.calls _ _ _ _ _ W hcall)
      have HST := Aside0.mk hstep
      clear hx hy hp hlx hlv hmul hstep hcall hd hb'
      go_wp2_with (go_at_call 164; with_reducible refine (HC.out _).mono ?_; rintro e w' ⟨rfl, ⟨nd, rfl⟩⟩)
      go_roundw
      case rel => exact ⟨k + 1, by omega, by go_num, by rw [HST.out]; rfl, by rw [HST.out], ⟨by rw [HST.out]; exact (HP.out.drewN nd).set (j + k) d⟩⟩
      case measure => simp [intOf]; omega
    · obtain rfl : k = n := by omega
      have hcu := HP.out.blk.cell HOK.out.ok (i := j + k) (by rw [HOK.out.len]; have := HJ.out; omega)
      have hfz := HP.out.blk.frozen (j + k)
      have hlx := lim_lt HOK.out.ok (j + k)
      obtain ⟨x, hx⟩ : ∃ x : Nat, lim s.1 (j + k) = x := ⟨_, rfl⟩
      rw [hx] at hcu hlx
      obtain ⟨d, hd⟩ : ∃ d : Int, ((x : Int) - (s.2.1 : Nat) - (s.2.2 : Nat)) % 4294967296 = d := ⟨_, rfl⟩
      obtain ⟨b', hb'⟩ : ∃ b' : Nat, (if x < s.2.1 + s.2.2 then 1 else 0 : Nat) = b' := ⟨_, rfl⟩
      have hstep : takeF q us vs j = (s.1.set (j + k) d, b') := by
        simp only [takeF, HN.out, ← HSS.out, hx, hd, hb']
      have hcall : bits_Sub32.f (x : Int) (s.2.1 : Int) (s.2.2 : Int) = some (d, (b' : Int)) := by
        unfold bits_Sub32.f
        rw [if_pos ⟨⟨by omega, by omega⟩, ⟨by omega, by omega⟩, by have := HOK.out.b; omega⟩]
        rw [hd, ← hb']
        congr 2
        split <;> split <;> first | rfl | (exfalso; omega)
      have HC := Aside0.mk (fun W => bits_Sub32.calls _ _ _ _ _ W hcall)
      have HST := Aside0.mk hstep
      clear hx hlx hstep hcall hd hb' hlt hk
      have hm : ((s.2.1 : Nat) : Int) % 4294967296 = ((s.2.1 : Nat) : Int) := by omega
      go_wp2_with (go_at_call 164; with_reducible refine (HC.out _).mono ?_; rintro e w' ⟨rfl, ⟨nd, rfl⟩⟩)
      go_ret
      refine ⟨?_, ?_⟩
      · rw [HST.out]
        show Ending.returned (.bool _) = .returned (.bool _)
        congr 2
        show ((b' : Int) == 1) = (b' == 1)
        rw [Bool.eq_iff_iff]; simp; omega
      · rw [HST.out]; exact (HP.out.drewN nd).set (j + k) d
set_option maxHeartbeats 1000000 in
set_option maxRecDepth 100000 in
theorem back_any (g j cap : Nat) (us vs : List Int) (A1 : Option Addr) (c1 : Nat) (w : World) (hu : okl us) (hv : okl vs) (hj : j + vs.length < us.length) (hl : us.length < 1000000)
    (hb : Blk32 w g us) (hr : ∀ W_, KeepBut w W_ g none → Kd.C (Kd.int .u32) W_ A1 vs.length vs) (_hc1 : vs.length ≤ c1) :
    Calls Tryz.prog 151 #[.slice (some ⟨g, j, none⟩) (vs.length + 1) cap, .slice A1 vs.length c1] w fun e w' =>
      e = .returned (.tuple #[]) ∧ Put32 g w (backF us vs j) w' := by
  have HR := Aside0.mk hr
  have HU := Aside0.mk hu
  have HV := Aside0.mk hv
  have HJ := Aside0.mk hj
  have HL := Aside0.mk hl
  have HB := Aside0.mk hb
  obtain ⟨n, hn⟩ : ∃ n, vs.length = n := ⟨_, rfl⟩
  have HN := Aside0.mk hn
  rw [hn] at HR HJ ⊢
  have hn0 : (n : Int) < 1000000 := by omega
  clear hr hu hv hj hl hb hn
  go_enter Tryz.func151, Tryz.ntmps151
  go_wp2
  go_loopw [4, 9] (fun v4 v9 wr => ∃ k : Nat, k ≤ n ∧ v9 = .int .i64 (k : Int) ∧ v4 = .int .u32 (((backU us vs j k).2 : Nat) : Int) ∧ Aside0 (Put32 g w (backU us vs j k).1 wr)) (fun _ v9 _ => n - (intOf v9).toNat)
  case atStart => exact ⟨0, Nat.zero_le _, rfl, rfl, ⟨HB.out, KeepBut.refl _ _ _, fun B _ => Below.refl _ _⟩⟩
  case round =>
    obtain ⟨k, hk, rfl, rfl, HP⟩ := hrel
    have HOK := Aside0.mk (back_ok HU.out HV.out (j := j) k (by have := HJ.out; omega))
    have HS : Aside0 (∃ s, s = backU us vs j k) := ⟨⟨_, rfl⟩⟩
    obtain ⟨s, hs⟩ := HS.out
    have HSS := Aside0.mk hs
    rw [← hs] at HP HOK ⊢
    have c0 : (0 : Int) ≤ ((s.2 : Nat) : Int) := Int.natCast_nonneg _
    have c1' : ((s.2 : Nat) : Int) < 2 := by have := HOK.out.c; omega
    clear hs HS
    have hcu := HP.out.blk.cell HOK.out.ok (i := j + k) (by rw [HOK.out.len]; have := HJ.out; omega)
    have hfz := HP.out.blk.frozen (j + k)
    have hlx := lim_lt HOK.out.ok (j + k)
    obtain ⟨x, hx⟩ : ∃ x : Nat, lim s.1 (j + k) = x := ⟨_, rfl⟩
    rw [hx] at hcu hlx
    have hx0 : (0 : Int) ≤ ((x : Nat) : Int) := Int.natCast_nonneg _
    have hx1 : ((x : Nat) : Int) < 4294967296 := by omega
    by_cases hlt : k < n
    · have hkn : (k : Int) < (n : Int) := by omega
      obtain ⟨ad, e101, hx101⟩ := Kd.at_int (HR.out _ HP.out.keep) (k : Int) (by omega) (by omega)
      rw [rd_lim HV.out] at hx101
      rw [Int.toNat_natCast] at hx101
      subst e101
      have hlv := lim_lt HV.out k
      obtain ⟨y, hy⟩ : ∃ y : Nat, lim vs k = y := ⟨_, rfl⟩
      rw [hy] at hx101
      have hstep : backU us vs j (k + 1) = (s.1.set (j + k) (((x + y + s.2) % 4294967296 : Nat) : Int), (x + y + s.2) / 4294967296) := by
        simp only [backU, ← HSS.out, hx, hy]
      have hcall : bits_Add32.f (x : Int) (y : Int) (s.2 : Int) = some ((((x + y + s.2) % 4294967296 : Nat) : Int), (((x + y + s.2) / 4294967296 : Nat) : Int)) := by
        unfold bits_Add32.f
        rw [IntWalk.u64_in (x : Int) (by omega), IntWalk.u64_in (y : Int) (by omega), IntWalk.u64_in (s.2 : Int) (by omega), IntWalk.u64_in ((x : Int) + (y : Int)) (by omega), IntWalk.u64_in ((x : Int) + (y : Int) + (s.2 : Int)) (by omega)]
        congr 2
        omega
      have HC := Aside0.mk (fun W => bits_Add32.calls _ _ _ _ _ W hcall)
      have HST := Aside0.mk hstep
      clear hx hy hlx hlv hstep hcall
      go_wp2_with (go_at_call 165; with_reducible refine (HC.out _).mono ?_; rintro e w' ⟨rfl, ⟨nd, rfl⟩⟩)
      go_roundw
      case rel => exact ⟨k + 1, by omega, by go_num, by rw [HST.out]; rfl, ⟨by rw [HST.out]; exact (HP.out.drewN nd).set (j + k) _⟩⟩
      case measure => simp [intOf]; omega
    · obtain rfl : k = n := by omega
      have hstep : backF us vs j = s.1.set (j + k) (((x + s.2) % 4294967296 : Nat) : Int) := by
        simp only [backF, HN.out, ← HSS.out, hx]
      have HST := Aside0.mk hstep
      clear hx hlx hstep hlt hk
      go_wp2
      go_end0
      refine ⟨rfl, ?_⟩
      rw [HST.out]
      exact HP.out.set (j + k) _
theorem top_div {u2 u1 v1 T q : Nat} (hT : u2 * 4294967296 + u1 = T) (hle : u2 ≤ v1) (hv1 : 2147483648 ≤ v1) (h1 : u1 < 4294967296) (hq : T / v1 = q) : q ≤ 4294967297 := by
  have h : T / v1 < 4294967298 := Nat.div_lt_of_lt_mul (by
    have h2 : u2 * 4294967296 ≤ v1 * 4294967296 := Nat.mul_le_mul_right _ hle
    omega)
  omega
def Big32 (n : Nat) : Prop := 4294967296 ≤ n
structure GuessInv (T u0 v1 v0 q r : Nat) : Prop where
  eq : q * v1 + r = T
  rl : r < 4294967296
  ql : q ≤ 4294967297
  most : ∀ t, t < 4294967296 → t * (v1 * 4294967296 + v0) ≤ T * 4294967296 + u0 → t ≤ q
theorem guess_start {T u0 v1 v0 q r : Nat} (hv : 0 < v1) (hq : T / v1 = q) (hr : T % v1 = r) (hl : q ≤ 4294967297) (b0 : u0 < 4294967296) (_a0 : v0 < 4294967296) (_h : True ∨ True) (hrl : r < 4294967296) : GuessInv T u0 v1 v0 q r where
  eq := by rw [← hq, ← hr, Nat.mul_comm]; exact Nat.div_add_mod T v1
  rl := hrl
  ql := hl
  most := fun t _ h => by
    rw [← hq]
    refine (Nat.le_div_iff_mul_le hv).2 ?_
    have h1 : t * (v1 * 4294967296 + v0) = (t * v1) * 4294967296 + t * v0 := by rw [Nat.mul_add, Nat.mul_assoc]
    omega
theorem guess_most {T u0 v1 v0 q r p z q' : Nat} (h : GuessInv T u0 v1 v0 q r) (hq : q - 1 = q') (hl : Big32 q ∨ (¬ Big32 q ∧ q * v0 = p ∧ r * 4294967296 + u0 = z ∧ z < p)) :
    ∀ t, t < 4294967296 → t * (v1 * 4294967296 + v0) ≤ T * 4294967296 + u0 → t ≤ q' := fun t ht hle => by
  have h1 := h.most t ht hle
  rcases hl with hl | ⟨_, hp, hz, hl⟩
  · unfold Big32 at hl; omega
  · rcases Nat.lt_or_ge t q with h2 | h2
    · omega
    · obtain rfl : t = q := by omega
      have h3 := h.eq
      have h4 : t * (v1 * 4294967296 + v0) = (t * v1) * 4294967296 + t * v0 := by rw [Nat.mul_add, Nat.mul_assoc]
      omega
theorem guess_step {T u0 v1 v0 q r p z q' r' : Nat} (h : GuessInv T u0 v1 v0 q r) (hr : r + v1 = r') (hq : q - 1 = q') (hb : ¬ Big32 r') (hl : Big32 q ∨ (¬ Big32 q ∧ q * v0 = p ∧ r * 4294967296 + u0 = z ∧ z < p)) : GuessInv T u0 v1 v0 q' r' where
  eq := by
    have h0 : q ≠ 0 := by
      rcases hl with hl | ⟨_, hp, _, hl⟩
      · unfold Big32 at hl; omega
      · rintro rfl; simp at hp; omega
    obtain ⟨m, rfl⟩ : ∃ m, q = m + 1 := ⟨q - 1, by omega⟩
    have h1 := h.eq
    rw [Nat.add_mul, Nat.one_mul] at h1
    rw [show q' = m by omega]
    omega
  rl := by unfold Big32 at hb; omega
  ql := by have := h.ql; omega
  most := guess_most h hq hl
theorem guess_done {T u2 u1 u0 v1 v0 q r p z : Nat} (h : GuessInv T u0 v1 v0 q r) (hT : u2 * 4294967296 + u1 = T) (hA : ¬ Big32 q) (hp : q * v0 = p) (hz : r * 4294967296 + u0 = z) (hl : ¬ z < p) : GuessOk u2 u1 u0 v1 v0 q where
  lt := by unfold Big32 at hA; omega
  le := by
    have h3 := h.eq
    have h4 : q * (v1 * 4294967296 + v0) = (q * v1) * 4294967296 + q * v0 := by rw [Nat.mul_add, Nat.mul_assoc]
    rw [hT]; omega
  most := by rw [hT]; exact h.most
theorem guess_broke {T u2 u1 u0 v1 v0 q r p z q' r' : Nat} (h : GuessInv T u0 v1 v0 q r) (hT : u2 * 4294967296 + u1 = T) (hle : u2 ≤ v1) (hv1 : 2147483648 ≤ v1) (_a1 : v1 < 4294967296) (a0 : v0 < 4294967296) (hr : r + v1 = r') (hq : q - 1 = q') (hb : Big32 r') (hu1 : u1 < 4294967296)
    (hl : Big32 q ∨ (¬ Big32 q ∧ q * v0 = p ∧ r * 4294967296 + u0 = z ∧ z < p)) : GuessOk u2 u1 u0 v1 v0 q' := by
  have hm := guess_most h hq hl
  have h0 : q ≠ 0 := by
    rcases hl with hl | ⟨_, hp, _, hl⟩
    · unfold Big32 at hl; omega
    · rintro rfl; simp at hp; omega
  obtain ⟨m, rfl⟩ : ∃ m, q = m + 1 := ⟨q - 1, by omega⟩
  obtain rfl : q' = m := by omega
  have h1 := h.eq
  rw [Nat.add_mul, Nat.one_mul] at h1
  unfold Big32 at hb
  have hlt : q' < 4294967296 := by
    rcases Nat.lt_or_ge q' 4294967296 with h2 | h2
    · exact h2
    · have h3 : 4294967296 * v1 ≤ q' * v1 := Nat.mul_le_mul_right _ h2
      have h4 : u2 * 4294967296 ≤ v1 * 4294967296 := Nat.mul_le_mul_right _ hle
      omega
  have h5 : q' * v0 ≤ 4294967296 * 4294967296 := Nat.mul_le_mul (by omega) (by omega)
  have h4 : q' * (v1 * 4294967296 + v0) = (q' * v1) * 4294967296 + q' * v0 := by rw [Nat.mul_add, Nat.mul_assoc]
  exact ⟨hlt, by rw [hT]; omega, by rw [hT]; exact hm⟩
set_option maxHeartbeats 1000000 in
set_option maxRecDepth 100000 in
theorem guess_any (g j n cap : Nat) (us vs : List Int) (A1 : Option Addr) (c1 : Nat) (w : World) (hu : okl us) (hv : okl vs) (hn : vs.length = n + 2) (hj : j + n + 2 < us.length) (hl : us.length < 1000000)
    (hb : Blk32 w g us) (hr : Kd.C (Kd.int .u32) w A1 vs.length vs) (_hc1 : vs.length ≤ c1)
    (hv1 : 2147483648 ≤ lim vs (n + 1)) (hle : lim us (j + n + 2) ≤ lim vs (n + 1)) :
    Calls Tryz.prog 149 #[.slice (some ⟨g, j, none⟩) (n + 3) cap, .slice A1 (n + 2) c1] w fun e w' =>
      ∃ q : Nat, e = .returned (.int .u64 ((q : Nat) : Int)) ∧ GuessOk (lim us (j + n + 2)) (lim us (j + n + 1)) (lim us (j + n)) (lim vs (n + 1)) (lim vs n) q ∧ ∃ m, w' = w.drewN m := by
  have hlu : ∀ i, i < us.length → w.cell? ⟨g, i, none⟩ = some (.int .u32 ((lim us i : Nat) : Int)) := fun i hi => hb.cell hu hi
  have k2 : w.cell? ⟨g, j + (n + 2), none⟩ = some (.int .u32 ((lim us (j + n + 2) : Nat) : Int)) := hlu (j + n + 2) (by omega)
  have k1 : w.cell? ⟨g, j + (n + 1), none⟩ = some (.int .u32 ((lim us (j + n + 1) : Nat) : Int)) := hlu (j + n + 1) (by omega)
  have k0 := hlu (j + n) (by omega)
  rw [hn] at hr
  obtain ⟨ad, e101, hx1⟩ := Kd.at_int hr ((n + 1 : Nat) : Int) (by omega) (by omega)
  obtain ⟨ad', e102, hx0⟩ := Kd.at_int hr ((n : Nat) : Int) (by omega) (by omega)
  subst e101
  cases e102
  rw [rd_lim hv, Int.toNat_natCast] at hx1 hx0
  unfold Addr.add at hx1
  rw [if_neg (by omega)] at hx1
  have b2 := lim_lt hu (j + n + 2)
  have b1 := lim_lt hu (j + n + 1)
  have b0 := lim_lt hu (j + n)
  have a1 := lim_lt hv (n + 1)
  have a0 := lim_lt hv n
  generalize lim us (j + n + 2) = u2 at *
  generalize lim us (j + n + 1) = u1 at *
  generalize lim us (j + n) = u0 at *
  generalize lim vs (n + 1) = v1 at *
  generalize lim vs n = v0 at *
  have hnn : (n : Int) < 1000000 := by omega
  have hi1 : IntKind.i64.wrap ((n : Int) + 2 - 1) = (n : Int) + 1 := by rw [IntWalk.i64_in _ (by omega)]; omega
  have hi2 : IntKind.i64.wrap (n : Int) = (n : Int) := IntWalk.i64_in _ (by omega)
  have ht2 : ((n : Int) + 2).toNat = n + 2 := by omega
  have ht1 : ((n : Int) + 1).toNat = n + 1 := by omega
  have hp2 : (0 : Int) ≤ (n : Int) + 2 := by omega
  have hp1 : (0 : Int) ≤ (n : Int) + 1 := by omega
  have hp0 : (0 : Int) ≤ (n : Int) := by omega
  have hq2 : (n : Int) + 2 < (n : Int) + 3 := by omega
  have hq1 : (n : Int) + 1 < (n : Int) + 3 := by omega
  have hq0 : (n : Int) < (n : Int) + 3 := by omega
  have hq1' : (n : Int) + 1 < (n : Int) + 2 := by omega
  have hq0' : (n : Int) < (n : Int) + 2 := by omega
  obtain ⟨T, hT⟩ : ∃ T : Nat, u2 * 4294967296 + u1 = T := ⟨_, rfl⟩
  have hor : bits .or .u64 ((u2 : Int) * 4294967296) (u1 : Int) = (T : Int) := by rw [join32 (by omega) (by omega) (by omega) (by omega) (by omega)]; omega
  have hT0 : (0 : Int) ≤ (T : Int) := by omega
  have hT1 : (T : Int) < 18446744073709551616 := by omega
  have hz : ((v1 : Int) == 0) = false := by simpa using (show ¬ (v1 : Int) = 0 by omega)
  have hz0 : (0 : Int) ≤ (v1 : Int) := by omega
  have hz2 : ¬ v1 = 0 := by omega
  have hz3 : (0 : Int) < (v1 : Int) := by omega
  have hz1 : (v1 : Int) < 4294967296 := by omega
  obtain ⟨q0, hqe⟩ : ∃ q0 : Nat, T / v1 = q0 := ⟨_, rfl⟩
  obtain ⟨r0, hre⟩ : ∃ r0 : Nat, T % v1 = r0 := ⟨_, rfl⟩
  have hql : q0 ≤ 4294967297 := top_div hT hle hv1 (by omega) hqe
  have hqw : IntKind.u64.wrap ((T : Int) / (v1 : Int)) = (q0 : Int) := by
    rw [← hqe, show (T : Int) / (v1 : Int) = ((T / v1 : Nat) : Int) from rfl]; exact IntWalk.u64_in _ (by omega)
  have hrw : (T : Int) % (v1 : Int) = (r0 : Int) := by rw [← hre]; rfl
  have HI : Aside0 (GuessInv T u0 v1 v0 q0 r0) := ⟨guess_start (by omega) hqe hre hql b0 a0 (.inl trivial) (by rw [← hre]; exact Nat.lt_trans (Nat.mod_lt _ (by omega)) (by omega))⟩
  have hwv1 : IntKind.u64.wrap (v1 : Int) = (v1 : Int) := IntWalk.u64_in _ (by omega)
  have hwv0 : IntKind.u64.wrap (v0 : Int) = (v0 : Int) := IntWalk.u64_in _ (by omega)
  have hwu0 : IntKind.u64.wrap (u0 : Int) = (u0 : Int) := IntWalk.u64_in _ (by omega)
  have HTT := Aside0.mk hT
  have HU1 := Aside0.mk b1
  have HV1 := Aside0.mk hv1
  have HLE := Aside0.mk hle
  clear hlu hb hu hv hr hj hn hl hT hqe hre hql hv1 hle
  go_enter Tryz.func149, Tryz.ntmps149
  go_wp2
  go_step3
  go_wp2
  go_quiet (fail)
  go_wp2
  go_quiet (fail)
  go_wp2
  go_step3
  go_wp2
  go_loopg [7, 8] q0 (fun gk v7 v8 wr => ∃ q r : Nat, v7 = .int .u64 (q : Int) ∧ v8 = .int .u64 (r : Int) ∧ Aside0 (GuessInv T u0 v1 v0 q r) ∧ Aside0 (gk = q) ∧ Aside0 (∃ m, wr = w.drewN m))
  case atStart => exact ⟨q0, r0, rfl, by rw [hrw], HI, ⟨rfl⟩, ⟨_, World.drewN_drewN _ _ _⟩⟩
  case round =>
    obtain ⟨q, r, rfl, rfl, HQ, HG, HW⟩ := hrel
    obtain ⟨m, hm⟩ := HW.out
    obtain rfl : gk = q := HG.out
    subst hm
    have hqr := HQ.out
    have hr1 : (r : Int) < 4294967296 := by have := hqr.rl; omega
    have hr0 : (0 : Int) ≤ (r : Int) := by omega
    have hg0 : (0 : Int) ≤ (gk : Int) := by omega
    have hg1 : (gk : Int) ≤ 4294967297 := by have := hqr.ql; omega
    clear hqw hrw hz hz0 hz1 hz2 hz3 hT0 hT1 hor b2 b1 HI
    have HNN := Aside0.mk hnn
    have HA1 := Aside0.mk a1
    have HA0 := Aside0.mk a0
    have HB0 := Aside0.mk b0
    have HR1 := Aside0.mk hr1
    obtain ⟨r', hr'⟩ : ∃ r' : Nat, r + v1 = r' := ⟨_, rfl⟩
    obtain ⟨q', hq'⟩ : ∃ q' : Nat, gk - 1 = q' := ⟨_, rfl⟩
    have hrv : IntKind.u64.wrap ((r : Int) + (v1 : Int)) = (r' : Int) := by rw [IntWalk.u64_in _ (by omega)]; omega
    have HRR := Aside0.mk hr'
    have HQQ := Aside0.mk hq'
    by_cases hA : 4294967296 ≤ gk
    · have hA1 : decide ((0 : Int) < (gk : Int) / 4294967296) = true := by simp; omega
      have hgq : IntKind.u64.wrap ((gk : Int) - 1) = (q' : Int) := by rw [IntWalk.u64_in _ (by omega)]; omega
      have HAA : Big32 gk := hA
      by_cases hB : 4294967296 ≤ r'
      · have hB1 : (0 : Int) < (r' : Int) / 4294967296 := by omega
        have HBB : Big32 r' := hB
        clear hr' hq' hB hA hqr hr1 a1 a0 b0 hnn hg1 hg0 hr0 HW HG
        go_wp2
        go_quiet (fail)
        go_wp2
        rw [Exit.noGoto_ret]; go_ret; exact ⟨q', rfl, guess_broke (p := 0) (z := 0) HQ.out HTT.out HLE.out HV1.out HA1.out HA0.out HRR.out HQQ.out HBB HU1.out (.inl HAA), _, rfl⟩
      · have hB1 : ¬ (0 : Int) < (r' : Int) / 4294967296 := by omega
        have HBB : ¬ Big32 r' := hB
        clear hr' hq' hB hA hqr hr1 a1 a0 b0 hnn hg1 hg0 hr0 HW HG
        go_wp2
        go_quiet (fail)
        go_wp2
        go_roundg q'; (case measure => (have h := HQQ.out; have h2 : 4294967296 ≤ gk := HAA; omega)); case rel => exact ⟨q', r', rfl, rfl, ⟨guess_step (p := 0) (z := 0) HQ.out HRR.out HQQ.out HBB (.inl HAA)⟩, ⟨rfl⟩, ⟨_, rfl⟩⟩
    · have hA1 : ¬ (0 : Int) < (gk : Int) / 4294967296 := by omega
      obtain ⟨p, hp⟩ : ∃ p : Nat, gk * v0 = p := ⟨_, rfl⟩
      have hpl : gk * v0 ≤ 4294967295 * 4294967295 := Nat.mul_le_mul (by omega) (by omega)
      have hmul : IntKind.u64.wrap ((gk : Int) * (v0 : Int)) = (p : Int) := by rw [← Int.natCast_mul, hp]; exact IntWalk.u64_in _ (by omega)
      obtain ⟨z, hzz⟩ : ∃ z : Nat, r * 4294967296 + u0 = z := ⟨_, rfl⟩
      have hor2 : bits .or .u64 ((r : Int) * 4294967296) (u0 : Int) = (z : Int) := by rw [join32 (by omega) (by omega) (by omega) (by omega) (by omega)]; omega
      have hsh : IntKind.u64.wrap ((r : Int) * 4294967296) = (r : Int) * 4294967296 := IntWalk.u64_in _ (by omega)
      have HP := Aside0.mk hp
      have HZ := Aside0.mk hzz
      have HAA : ¬ Big32 gk := hA
      have hA2 : decide ((0 : Int) < (gk : Int) / 4294967296) = false := by simpa using hA1
      by_cases hlt : z < p
      · have hlt1 : decide (z < p) = true := by simpa using hlt
        have HLT := Aside0.mk hlt
        have hgk : gk ≠ 0 := by rintro rfl; simp at hp; omega
        have HGK := Aside0.mk hgk
        have hgq : IntKind.u64.wrap ((gk : Int) - 1) = (q' : Int) := by rw [IntWalk.u64_in _ (by omega)]; omega
        by_cases hB : 4294967296 ≤ r'
        · have hB1 : (0 : Int) < (r' : Int) / 4294967296 := by omega
          have HBB : Big32 r' := hB
          clear hp hzz hpl hlt hA hA1 hgk hr' hq' hB hqr hr1 a1 a0 b0 hnn hg1 hg0 hr0 HW HG
          go_wp2
          go_quiet (fail)
          go_wp2
          rw [Exit.noGoto_ret]; go_ret; exact ⟨q', rfl, guess_broke HQ.out HTT.out HLE.out HV1.out HA1.out HA0.out HRR.out HQQ.out HBB HU1.out (.inr ⟨HAA, HP.out, HZ.out, HLT.out⟩), _, rfl⟩
        · have hB1 : ¬ (0 : Int) < (r' : Int) / 4294967296 := by omega
          have HBB : ¬ Big32 r' := hB
          clear hp hzz hpl hlt hA hA1 hgk hr' hq' hB hqr hr1 a1 a0 b0 hnn hg1 hg0 hr0 HW HG
          go_wp2
          go_quiet (fail)
          go_wp2
          go_roundg q'; (case measure => (have h := HQQ.out; have h2 := HGK.out; omega)); case rel => exact ⟨q', r', rfl, rfl, ⟨guess_step HQ.out HRR.out HQQ.out HBB (.inr ⟨HAA, HP.out, HZ.out, HLT.out⟩)⟩, ⟨rfl⟩, ⟨_, rfl⟩⟩
      · have hlt2 : decide (z < p) = false := by simpa using hlt
        have HLT := Aside0.mk hlt
        clear hp hzz hpl hlt hA hA1 hr' hq' hqr hr1 a1 a0 b0 hnn hg1 hg0 hr0 HW HG
        go_wp2
        go_quiet (fail)
        go_wp2
        rw [Exit.noGoto_ret]; go_ret; exact ⟨gk, rfl, guess_done HQ.out HTT.out HAA HP.out HZ.out HLT.out, _, World.drewN_drewN _ _ _⟩
end Go.Proofs.YtpncflaoikeidaaGreatDoor.H
namespace Go.Proofs.YtpncflaoikeidaaGreatDoor.H
open Go.RowKit Go.Shelf Go.Proofs.YtpncflaoikeidaaGreatDoorW.PrintWords Go.Proofs.YtpncflaoikeidaaGreatDoorW.PrintLast Go.Proofs.YtpncflaoikeidaaGreatDoorW.PrintMore Go.Proofs.YtpncflaoikeidaaGreatDoor.P
attribute [local go_sem] Oper.semAt_some
/-- the places from N - 1 down, k of them -/
def downTo (N k : Nat) : List Nat := (List.range k).map fun j => N - 1 - j
theorem downTo_succ (N k : Nat) : downTo N (k + 1) = downTo N k ++ [N - 1 - k] := by simp [downTo, List.range_succ]
theorem downTo_length (N k : Nat) : (downTo N k).length = k := by simp [downTo]
abbrev encN : Nat → Array Value := fun x => #[.int .i64 (x : Int)]

set_option maxRecDepth 100000 in
set_option maxHeartbeats 1000000 in
theorem down1_in (F : Fence) (n : Nat) (h7 : F.fn 100) (hro : F.round = none) (hn : 1 ≤ n) (l Bn n₀ N : Nat) (hN : N < 1000000000) (J Jx : List Nat → World → Prop)
    (hY : ∀ pre x W, J pre W → pre.length < N → YieldAt F (n - 1) Tryz.prog l (encN x) W fun e W' =>
      (e = .returned (.bool true) ∧ J (pre ++ [x]) W' ∧ Below n₀ W W') ∨ (e = .returned (.bool false) ∧ Jx (pre ++ [x]) W'))
    (W : World) (hBn : W.cell? ⟨Bn, 0, none⟩ = some (.int .i64 (N : Int))) (h0 : J [] W) :
    CallsIn F n Tryz.prog 100 #[.func (.yield l) #[] #[], .pointer (some ⟨Bn, 0, none⟩)] W fun e W' => (∃ v, e = .returned v) ∧
      ((∃ ys, ys = downTo N N ∧ J ys W') ∨ (∃ pre, (∃ k, k ≤ N ∧ pre = downTo N k) ∧ Jx pre W')) := by
  refine callsIn_of_wp Tryz.func100 rfl h7 ?_ hro
  simp only [Tryz.ntmps100, List.size_toArray, List.length_cons, List.length_nil, Nat.reduceAdd, Nat.reduceSub, Array.replicate_succ, Array.replicate_zero, List.push_toArray, List.append_toArray, List.nil_append, List.cons_append]
  gi_wp2
  gi_loopw [3] (fun i wr => ∃ k : Nat, k ≤ N ∧ i = .int .i64 ((N : Int) - 1 - (k : Int)) ∧ J (downTo N k) wr)
    (fun i _ => (intOf i + 1).toNat)
  case atStart => exact ⟨0, Nat.zero_le _, by simp, h0⟩
  case round =>
    obtain ⟨k, hk, rfl, hJs⟩ := hrel
    by_cases hlt : k < N
    · have hx0 : (0 : Int) ≤ (N : Int) - 1 - (k : Int) := by omega
      obtain ⟨x, hx⟩ : ∃ x : Nat, N - 1 - k = x := ⟨_, rfl⟩
      have hxe : (N : Int) - 1 - (k : Int) = (x : Int) := by omega
      obtain ⟨fn, tmps, assign, body, hy, hR⟩ := hY _ x wr hJs (by rw [downTo_length]; exact hlt)
      dsimp only [encN] at hy
      rw [hxe]
      have HX := Aside0.mk hxe
      have HX2 := Aside0.mk hx
      clear hxe hx hx0
      have hx0 : (0 : Int) ≤ (x : Int) := Int.natCast_nonneg _
      have hx1 : (x : Int) < 1000000000 := by have := HX.out; omega
      gi_wp2
      refine hR.mono ?_
      rintro e W3 (⟨rfl, hJ3, hk3⟩ | ⟨rfl, hJx3⟩)
      · gi_wp2
        go_roundw
        case rel => exact ⟨k + 1, by omega, by have := HX.out; have e : (x : Int) - 1 = (N : Int) - 1 - ((k + 1 : Nat) : Int) := by omega
                                               rw [← e], by rw [downTo_succ, HX2.out]; exact hJ3⟩
        case measure => simp [intOf]
      · gi_wp2
        refine bodyPost_ret (results_none rfl _ _ _) rfl ?_
        exact ⟨⟨_, rfl⟩, .inr ⟨_, ⟨k + 1, by omega, by rw [downTo_succ, HX2.out]⟩, hJx3⟩⟩
    · obtain rfl : k = N := by omega
      have e1 : ((k : Int) - 1 - (k : Int)) = -1 := by omega
      rw [e1]
      gi_wp2
      go_end0
      exact ⟨⟨_, rfl⟩, .inl ⟨_, rfl, hJs⟩⟩
theorem down_stops (F : Fence) (n : Nat) (h7 : F.fn 100) (hro : F.round = none) (hn : 1 ≤ n) (Bn n₀ N : Nat) (hN : N < 1000000000) (w : World) (hBn : w.cell? ⟨Bn, 0, none⟩ = some (.int .i64 (N : Int))) :
    SeqStopsK F n Tryz.prog 100 #[.pointer (some ⟨Bn, 0, none⟩)] encN (Below n₀) (fun ys => ys = downTo N N) (fun pre => ∃ k, k ≤ N ∧ pre = downTo N k) N w :=
  fun l J Jx W hW _ _ hY h0 => down1_in F n h7 hro hn l Bn n₀ N hN J Jx hY W (pw_cell_below hW hBn) h0

set_option maxRecDepth 100000 in
set_option maxHeartbeats 1000000 in
theorem down_any (b : Nat) (v0 v1 : Value) (n0 n1 c0 c1 : Nat) (A0 A1 : Option Addr) (w : World) (h0 : n0 < 1000000) (h1 : n1 < 1000000)
    (hb0 : w.cell? ⟨b, 0, none⟩ = some (.slice A0 n0 c0)) (hb1 : w.cell? ⟨b, 1, none⟩ = some (.slice A1 n1 c1)) :
    Calls Tryz.prog 63 #[.slice (some ⟨b, 0, none⟩) 2 2] w fun e w' => e = .returned (.func (.func 100) #[] #[.pointer (some ⟨w.heap.size, 0, none⟩)]) ∧ w'.heap[w.heap.size]? = some (.cells #[.int .i64 ((max n0 n1 : Nat) : Int)] 3 (0, 0)) ∧ Below w.heap.size w w' := by
  go_enter Tryz.func63, Tryz.ntmps63
  go_wp2
  have C0 := Aside0.mk hb0
  have C1 := Aside0.mk hb1
  clear hb0 hb1
  go_loopw [5, 8] (fun _ v8 wr => ∃ k m : Nat, v8 = .int .i64 (k : Int) ∧ Aside0 ((k = 0 ∧ m = 0) ∨ (k = 1 ∧ m = n0) ∨ (k = 2 ∧ m = max n0 n1)) ∧ Aside0 (wr.heap[w.heap.size]? = some (.cells #[.int .i64 (m : Int)] 3 (0, 0))) ∧ Aside0 (Below w.heap.size w wr)) (fun _ v8 _ => 2 - (intOf v8).toNat)
  case atStart => exact ⟨0, 0, rfl, ⟨.inl ⟨rfl, rfl⟩⟩, ⟨heap_alloc_new _ _⟩, ⟨(Below.refl _ _).alloc (Nat.le_refl _) _⟩⟩
  case round =>
    obtain ⟨k, m, rfl, HC, HM, HB⟩ := hrel
    have hm : wr.cell? ⟨w.heap.size, 0, none⟩ = some (.int .i64 (m : Int)) := (blk_cell HM.out 0).trans rfl
    have hfz := blk_frozen HM.out 0
    have hb0 := pw_cell_below HB.out C0.out
    have hb1 := pw_cell_below HB.out C1.out
    rcases HC.out with ⟨rfl, rfl⟩ | ⟨rfl, rfl⟩ | ⟨rfl, rfl⟩
    · clear HC
      go_wp2
      go_roundw
      case rel => exact ⟨1, n0, rfl, ⟨.inr (.inl ⟨rfl, rfl⟩)⟩, ⟨blk_put HM.out 0 _ (by first | (rw [show (if 0 < n0 then (n0 : Int) else 0) = (n0 : Int) by split <;> omega]; rfl) | rfl | (rw [show max (0 : Int) (n0 : Int) = (n0 : Int) by omega]; rfl))⟩, ⟨HB.out.setCell (p := ⟨w.heap.size, 0, none⟩) (Nat.le_refl _) _⟩⟩
      case measure => simp [intOf]
    · clear HC
      go_wp2
      go_roundw
      case rel => exact ⟨2, max m n1, rfl, ⟨.inr (.inr ⟨rfl, rfl⟩)⟩, ⟨blk_put HM.out 0 _ (by first | (rw [show (if m < n1 then (n1 : Int) else (m : Int)) = ((max m n1 : Nat) : Int) by split <;> omega]; rfl) | (rw [show max (m : Int) (n1 : Int) = ((max m n1 : Nat) : Int) by omega]; rfl))⟩, ⟨HB.out.setCell (p := ⟨w.heap.size, 0, none⟩) (Nat.le_refl _) _⟩⟩
      case measure => simp [intOf]
    · clear HC
      obtain ⟨M, hM⟩ : ∃ M, max n0 n1 = M := ⟨_, rfl⟩
      rw [hM] at HM hm
      have HMX := Aside0.mk hM
      clear hM
      go_wp2
      go_ret
      exact ⟨rfl, by rw [HMX.out]; exact HM.out, HB.out⟩
end Go.Proofs.YtpncflaoikeidaaGreatDoor.H
namespace Go.Proofs.YtpncflaoikeidaaGreatDoor.P
open Go.RowKit Go.Shelf Go.Proofs.YtpncflaoikeidaaGreatDoorW.PrintWords Go.Proofs.YtpncflaoikeidaaGreatDoorW.PrintLast Go.Proofs.YtpncflaoikeidaaGreatDoorW.PrintMore Go.Proofs.YtpncflaoikeidaaGreatDoor.H
attribute [local go_sem] Oper.semAt_some
theorem KeepsOthers.drewN' (W : World) (q : Nat) : KeepsOthers W (W.drewN q) := ⟨Nat.le_refl _, fun _ _ h _ => h⟩
theorem less_by {l0 l1 : List Int} (o0 : okl l0) (o1 : okl l1) {N k x : Nat} {pre' : List Nat} (h0 : l0.length ≤ N) (h1 : l1.length ≤ N) (hk : k ≤ N) (hp : downTo N k = pre' ++ [x]) (heq : ∀ y ∈ pre', lim l0 y = lim l1 y) (hne : lim l0 x ≠ lim l1 x) :
    (if nval l0 < nval l1 then (-1 : Int) else if nval l1 < nval l0 then 1 else 0) = if lim l0 x < lim l1 x then -1 else 1 := by
  have hk0 : k ≠ 0 := by rintro rfl; simp [downTo] at hp
  obtain ⟨j, rfl⟩ : ∃ j, k = j + 1 := ⟨k - 1, by omega⟩
  rw [downTo_succ] at hp
  obtain ⟨e1, e2⟩ := List.append_inj' hp rfl
  have e3 : N - 1 - j = x := by simpa using e2
  have habove : ∀ y, x < y → lim l0 y = lim l1 y := fun y hy => by
    rcases Nat.lt_or_ge y N with hyN | hyN
    · refine heq y ?_
      rw [← e1]
      exact List.mem_map.2 ⟨N - 1 - y, List.mem_range.2 (by omega), by omega⟩
    · rw [lim_out (by omega), lim_out (by omega)]
  by_cases hlt : lim l0 x < lim l1 x
  · have := nval_less x o0 o1 habove hlt
    rw [if_pos this, if_pos hlt]
  · have := nval_less x o1 o0 (fun y hy => (habove y hy).symm) (by omega)
    rw [if_neg (by omega), if_pos this, if_neg hlt]
theorem same_by {l0 l1 : List Int} {N : Nat} (h0 : l0.length ≤ N) (h1 : l1.length ≤ N) (heq : ∀ y ∈ downTo N N, lim l0 y = lim l1 y) : nval l0 = nval l1 :=
  nval_eq fun y => by
    rcases Nat.lt_or_ge y N with hyN | hyN
    · exact heq y (List.mem_map.2 ⟨N - 1 - y, List.mem_range.2 (by omega), by omega⟩)
    · rw [lim_out (by omega), lim_out (by omega)]
/-- a region that draws has come to one frame; the world has drawn -/
def RegPost (A : Act) (W : World) : Exit → Act → World → Prop
  | .normal, a, w => a = A ∧ ∃ q, w = W.drewN q
  | _, _, _ => False
/-- nat.Cmp: which one is the greater. -/
def nat_Cmp.f (l0 l1 : List Int) : Option Int := if okl l0 ∧ okl l1 ∧ l0.length < 1000000 ∧ l1.length < 1000000 then some (if nval l0 < nval l1 then -1 else if nval l1 < nval l0 then 1 else 0) else none
set_option maxRecDepth 100000 in
set_option maxHeartbeats 2000000 in
theorem nat_Cmp.calls (A0 : Option Addr) (c0 : Nat) (l0 : List Int) (A1 : Option Addr) (c1 : Nat) (l1 : List Int) (r : Int) (w : World) (hr0 : Kd.C (Kd.int .u32) w A0 l0.length l0) (hc0 : l0.length ≤ c0) (hr1 : Kd.C (Kd.int .u32) w A1 l1.length l1) (hc1 : l1.length ≤ c1) (h : nat_Cmp.f l0 l1 = some r) :
    Calls Tryz.prog 30 #[.slice A0 l0.length c0, .slice A1 l1.length c1] w fun e w' => e = .returned (.int .i64 r) ∧ Below w.heap.size w w' := by
  unfold nat_Cmp.f at h
  split at h
  case isFalse => cases h
  case isTrue hg =>
  obtain rfl := Option.some.inj h
  clear h
  obtain ⟨o0, o1, n0, n1⟩ := hg
  generalize hR : (if nval l0 < nval l1 then (-1 : Int) else if nval l1 < nval l0 then 1 else 0) = R
  have HRR := Aside0.mk hR
  clear hR
  refine (callsIn_wide (n := 3)).1 ?_
  refine callsIn_of_wp_marks Tryz.func30 rfl trivial ?_ rfl
  simp only [Tryz.ntmps30, List.size_toArray, List.length_cons, List.length_nil, Nat.reduceAdd, Nat.reduceSub, Array.replicate_succ, Array.replicate_zero, List.push_toArray, List.append_toArray, List.nil_append, List.cons_append]
  obtain ⟨W0, hW0⟩ : ∃ W0 : World, W0 = (((w.alloc (.cells #[.slice A0 l0.length c0] 23)).alloc (.cells #[.slice A1 l1.length c1] 23)).alloc (.cells #[.int .i64 0] 3)).alloc (.cells #[.slice A0 l0.length c0, .slice A1 l1.length c1] 23) := ⟨_, rfl⟩
  have hb3 : W0.heap[w.heap.size + 1 + 1 + 1]? = some (.cells #[.slice A0 l0.length c0, .slice A1 l1.length c1] 23 (0, 0)) := by
    have h := heap_alloc_new (((w.alloc (.cells #[.slice A0 l0.length c0] 23)).alloc (.cells #[.slice A1 l1.length c1] 23)).alloc (.cells #[.int .i64 0] 3)) (.cells #[.slice A0 l0.length c0, .slice A1 l1.length c1] 23)
    rw [← hW0] at h
    simpa using h
  have hsz : W0.heap.size = w.heap.size + 4 := by rw [hW0]; simp
  have hBW : Below w.heap.size w W0 := by rw [hW0]; exact ((((Below.refl _ _).alloc (Nat.le_refl _) _).alloc (by simp) _).alloc (by simp; omega) _).alloc (by simp; omega) _
  have hq0 : W0.heap[w.heap.size]? = some (.cells #[.slice A0 l0.length c0] 23 (0, 0)) := by rw [hW0]; exact blk_alloc (blk_alloc (blk_alloc (heap_alloc_new _ _) _) _) _
  have hq1 : W0.heap[w.heap.size + 1]? = some (.cells #[.slice A1 l1.length c1] 23 (0, 0)) := by
    have h := heap_alloc_new (w.alloc (.cells #[.slice A0 l0.length c0] 23)) (.cells #[.slice A1 l1.length c1] 23)
    rw [hW0]; rw [World.size_alloc] at h; exact blk_alloc (blk_alloc h _) _
  have hq2 : W0.heap[w.heap.size + 1 + 1]? = some (.cells #[.int .i64 0] 3 (0, 0)) := by
    have h := heap_alloc_new ((w.alloc (.cells #[.slice A0 l0.length c0] 23)).alloc (.cells #[.slice A1 l1.length c1] 23)) (.cells #[.int .i64 0] 3)
    rw [hW0]; simp only [World.size_alloc] at h; exact blk_alloc h _
  have D := Aside0.mk (down_any (w.heap.size + 1 + 1 + 1) .nilFunc .nilFunc l0.length l1.length c0 c1 A0 A1 W0 n0 n1 ((blk_cell hb3 0).trans rfl) ((blk_cell hb3 1).trans rfl))
  rw [hsz, hW0] at D
  gi_wp2_with (refine ⟨trivial, ?_⟩; gi_at_call 63; refine (callsIn_wide.2 D.out).mono ?_; rintro e W1 ⟨rfl, hbn, hbl⟩)
  rw [← hW0] at hbl
  clear D
  have hB1 : Below w.heap.size w W1 := hBW.trans (hbl.mono (by omega))
  have q0 := blk_of_below hbl hq0 (by omega)
  have q1 := blk_of_below hbl hq1 (by omega)
  have q2 := blk_of_below hbl hq2 (by omega)
  have hN : max l0.length l1.length < 1000000 := by omega
  have hl0 : l0.length ≤ max l0.length l1.length := by omega
  have hl1 : l1.length ≤ max l0.length l1.length := by omega
  obtain ⟨N, hNe⟩ : ∃ N, max l0.length l1.length = N := ⟨_, rfl⟩
  rw [hNe] at hbn hN hl0 hl1
  clear hNe hbl hq0 hq1 hq2 hb3 hBW hW0 hsz W0
  have hw1 : w.heap.size + 4 < W1.heap.size := blk_lt hbn
  have hmx : (fun z : Int => z) 0 = 0 := rfl
  clear hmx
  have e0 : W1.cell? ⟨w.heap.size, 0, none⟩ = some (.slice A0 l0.length c0) := (blk_cell q0 0).trans rfl
  have e1 : W1.cell? ⟨w.heap.size + 1, 0, none⟩ = some (.slice A1 l1.length c1) := (blk_cell q1 0).trans rfl
  have e2 : W1.cell? ⟨w.heap.size + 1 + 1, 0, none⟩ = some (.int .i64 0) := (blk_cell q2 0).trans rfl
  have f2 := blk_frozen q2 0
  have K0 := Aside0.mk (fun (W' : World) (x : Nat) (hB : Below w.heap.size w W') => nat_limb.calls A0 c0 l0 _ _ W' (Kd.C_below hr0 hB) hc0 (limb_f o0 x))
  have K1 := Aside0.mk (fun (W' : World) (x : Nat) (hB : Below w.heap.size w W') => nat_limb.calls A1 c1 l1 _ _ W' (Kd.C_below hr1 hB) hc1 (limb_f o1 x))
  refine wpIn_rangeFunc_ownF rfl (by omega) (gf := 100) (lb := #[.pointer (some ⟨w.heap.size + 4, 0, none⟩)]) rfl trivial (enters_of Tryz.func100 (by kernel_rfl) rfl)
    (down_stops Fence.wide 2 trivial rfl (by omega) (w.heap.size + 4) w.heap.size N (by omega) W1 ((blk_cell hbn 0).trans rfl)) belowK_t (belowK_b (by omega)) (Below.refl _ _) (fun _ => rfl)
    (fun pre W => ((∀ y ∈ pre, lim l0 y = lim l1 y) ∧ W.cell? ⟨w.heap.size, 0, none⟩ = some (.slice A0 l0.length c0) ∧ W.cell? ⟨w.heap.size + 1, 0, none⟩ = some (.slice A1 l1.length c1) ∧ W.cell? ⟨w.heap.size + 1 + 1, 0, none⟩ = some (.int .i64 0) ∧ W.frozen? ⟨w.heap.size + 1 + 1, 0, none⟩ = false) ∧ Below w.heap.size w W)
    (fun c pre W => (c = .ret ∧ ∃ pre' x, pre = pre' ++ [x] ∧ (∀ y ∈ pre', lim l0 y = lim l1 y) ∧ lim l0 x ≠ lim l1 x ∧ W.cell? ⟨w.heap.size + 1 + 1, 0, none⟩ = some (.int .i64 (if lim l0 x < lim l1 x then -1 else 1))) ∧ Below w.heap.size w W)
    (OwnFrom.and (Own.from (fun s A B row hs hg hr => ⟨hs.1, cell_kept hs.2.1 hg hr, cell_kept hs.2.2.1 hg hr, cell_kept hs.2.2.2.1 hg hr, (frozen_kept hs.2.2.2.1 hg hr).trans hs.2.2.2.2⟩) _) (ownFrom_below (Nat.le_refl _) (by omega)))
    (fun c => OwnFrom.and (Own.from (fun s A B row hs hg hr => by
      obtain ⟨h1, pre', x, h2, h3, h4, h5⟩ := hs
      exact ⟨h1, pre', x, h2, h3, h4, cell_kept h5 hg hr⟩) _) (ownFrom_below (Nat.le_refl _) (by omega)))
    ⟨⟨by simp, e0, e1, e2, f2⟩, hB1⟩
    (fun x => { tmps := #[.slice A0 l0.length c0, .slice A1 l1.length c1, .pointer (some ⟨w.heap.size, 0, none⟩), .pointer (some ⟨w.heap.size + 1, 0, none⟩), .pointer (some ⟨w.heap.size + 1 + 1, 0, none⟩), .int .i64 (x : Int), undef, undef, .slice A0 l0.length c0, .slice A1 l1.length c1, .slice (some ⟨w.heap.size + 1 + 1 + 1, 0, none⟩) 2 2, .func (.func 100) #[] #[.pointer (some ⟨w.heap.size + 4, 0, none⟩)], .int .i64 (x : Int), undef, undef, undef, undef, undef, undef, undef, undef, undef, undef, undef, undef, undef, undef], defers := [] }) ?assign ?body ?done ?stop
  case assign =>
    intro l x W K hK
    gi_wp2
    exact hK
  case body =>
    rintro l pre x W ⟨⟨hp, hca, hcb, hcr, hfr⟩, hB⟩ _
    have HB := Aside0.mk hB
    have L0 := lim_lt o0 x
    have L1 := lim_lt o1 x
    have HP := Aside0.mk hp
    clear hp hB
    gi_wp2
    refine wpIn_mono (Q := RegPost { tmps := #[.slice A0 l0.length c0, .slice A1 l1.length c1, .pointer (some ⟨w.heap.size, 0, none⟩), .pointer (some ⟨w.heap.size + 1, 0, none⟩), .pointer (some ⟨w.heap.size + 1 + 1, 0, none⟩), .int .i64 (x : Int), .int .u64 ((lim l0 x : Nat) : Int), .int .u64 ((lim l1 x : Nat) : Int), .slice A0 l0.length c0, .slice A1 l1.length c1, .slice (some ⟨w.heap.size + 1 + 1 + 1, 0, none⟩) 2 2, .func (.func 100) #[] #[.pointer (some ⟨w.heap.size + 4, 0, none⟩)], .int .i64 (x : Int), .slice A0 l0.length c0, .int .i64 (x : Int), .int .u64 ((lim l0 x : Nat) : Int), .slice A1 l1.length c1, .int .i64 (x : Int), .int .u64 ((lim l1 x : Nat) : Int), undef, undef, undef, undef, undef, undef, undef, undef], defers := [] } W) ?reg ?rest
    case reg =>
      gi_region_with (first | (refine ⟨trivial, ?_⟩; gi_at_call 64; with_reducible refine (CallsIn.inRound l (callsIn_wide.2 (K0.out _ x (by repeat (first | exact HB.out | apply below_drew1 | apply pw_below_drewN))))).mono ?_; rintro e w' ⟨rfl, m, rfl⟩) | (refine ⟨trivial, ?_⟩; gi_at_call 64; with_reducible refine (CallsIn.inRound l (callsIn_wide.2 (K1.out _ x (by repeat (first | exact HB.out | apply below_drew1 | apply pw_below_drewN))))).mono ?_; rintro e w' ⟨rfl, m, rfl⟩))
      all_goals exact ⟨rfl, _, rfl⟩
    case rest =>
      clear K0 K1
      intro e a W' h
      cases e with
      | normal =>
        obtain ⟨rfl, q, rfl⟩ := h
        rcases Nat.lt_trichotomy (lim l0 x) (lim l1 x) with hlt | heq | hgt
        · have h1 : ((lim l0 x : Nat) : Int) < ((lim l1 x : Nat) : Int) := by omega
          have HX := Aside0.mk hlt
          clear hlt
          gi_wp2
          refine ⟨(KeepsOthers.drewN' _ _).trans (KeepsOthers.setCell _ _ _), ⟨rfl, pre, x, rfl, HP.out, by have := HX.out; omega, ?_⟩, ((pw_below_drewN HB.out _).setCell (p := ⟨w.heap.size + 1 + 1, 0, none⟩) (by simp; omega) _)⟩
          rw [if_pos HX.out]
          exact World.cell?_setCell_same' _ _ _ (by show (W.cell? _).isSome = _; rw [hcr]; rfl)
        · have h1 : ¬ ((lim l0 x : Nat) : Int) < ((lim l1 x : Nat) : Int) := by omega
          have h2 : ¬ ((lim l1 x : Nat) : Int) < ((lim l0 x : Nat) : Int) := by omega
          have HX := Aside0.mk heq
          clear heq
          gi_wp2
          exact ⟨KeepsOthers.drewN' _ _, pw_below_drewN (Below.refl _ _) _, ⟨fun y hy => (List.mem_append.1 hy).elim (HP.out y) (fun h => by rw [List.mem_singleton.1 h]; exact HX.out), hca, hcb, hcr, hfr⟩, pw_below_drewN HB.out _⟩
        · have h1 : ¬ ((lim l0 x : Nat) : Int) < ((lim l1 x : Nat) : Int) := by omega
          have h2 : ((lim l1 x : Nat) : Int) < ((lim l0 x : Nat) : Int) := by omega
          have HX := Aside0.mk hgt
          clear hgt
          gi_wp2
          refine ⟨(KeepsOthers.drewN' _ _).trans (KeepsOthers.setCell _ _ _), ⟨rfl, pre, x, rfl, HP.out, by have := HX.out; omega, ?_⟩, ((pw_below_drewN HB.out _).setCell (p := ⟨w.heap.size + 1 + 1, 0, none⟩) (by simp; omega) _)⟩
          rw [if_neg (by have := HX.out; omega)]
          exact World.cell?_setCell_same' _ _ _ (by show (W.cell? _).isSome = _; rw [hcr]; rfl)
      | _ => exact h.elim
  case done =>
    rintro D ys W hD rfl ⟨⟨hne, _, _, hcr, hfr⟩, hB⟩ hK
    have HE := Aside0.mk (same_by hl0 hl1 hne)
    clear hne K0 K1
    gi_wp2
    have hK' := (KeepsOthers.setCell W ⟨w.heap.size + 1 + 1, 0, none⟩ (.int .i64 0)).same D _ hK rfl
    refine ⟨by simp, .inl ⟨_, _, rfl, run_takeDeferred hK', ?_⟩⟩
    have hc5 := cell_kept (World.cell?_setCell_same' W ⟨w.heap.size + 1 + 1, 0, none⟩ (.int .i64 0) (by rw [hcr]; rfl)) (grownBy_putObj' _ D (.deferred none)) (fun r e => by cases e; exact ⟨_, hK', rfl⟩)
    refine ⟨.int .i64 0, ?_, by rw [← HRR.out, HE.out]; simp, (hB.setCell (p := ⟨w.heap.size + 1 + 1, 0, none⟩) (by simp; omega) _).trans (belowK_b (w := w) (Nat.le_refl _) _ D _ _ (by omega) hK' rfl rfl)⟩
    simp [results, Tryz.f30, go_sem, hc5]
  case stop =>
    rintro D c pre W hD ⟨k, hk, rfl⟩ ⟨⟨rfl, pre', x, hpre, heq, hne, hcr⟩, hB⟩ hK
    have HE := Aside0.mk (less_by o0 o1 hl0 hl1 hk hpre heq hne)
    clear heq hne hpre K0 K1
    gi_wp2
    refine ⟨by simp, .inl ⟨_, _, rfl, run_takeDeferred hK, ?_⟩⟩
    rw [← HE.out, HRR.out] at hcr
    have hc5 := cell_kept hcr (grownBy_putObj' _ D (.deferred none)) (fun r e => by cases e; exact ⟨_, hK, rfl⟩)
    refine ⟨.int .i64 R, ?_, rfl, hB.trans (belowK_b (w := w) (Nat.le_refl _) W D _ _ (by omega) hK rfl rfl)⟩
    simp [results, Tryz.f30, go_sem, hc5]
end Go.Proofs.YtpncflaoikeidaaGreatDoor.P
namespace Go.Proofs.YtpncflaoikeidaaGreatDoor.H
open Go.RowKit Go.Proofs.YtpncflaoikeidaaGreatDoorW.PrintWords Go.Proofs.YtpncflaoikeidaaGreatDoorW.PrintLast Go.Proofs.YtpncflaoikeidaaGreatDoorW.PrintMore Go.Proofs.YtpncflaoikeidaaGreatDoor.P
theorem shl_val (q0 q1 s : Nat) (l0 : q0 < 4294967296) (l1 : q1 < 4294967296) (hs : s < 32) :
    bits .and .u64 (IntKind.u64.wrap (bits .or .u64 ((q0 : Int) * 4294967296) (q1 : Int) * 2 ^ (s % 32)) / 4294967296) 4294967295 = (((q0 * 2 ^ s + q1 * 2 ^ s / 4294967296) % 4294967296 : Nat) : Int) := by
  have e1 : bits .or .u64 ((q0 : Int) * 4294967296) (q1 : Int) = ((q0 * 4294967296 + q1 : Nat) : Int) := by
    rw [join32 (by omega) (by omega) (by omega) (by omega) (by omega)]; omega
  have e2 : ((q0 * 4294967296 + q1 : Nat) : Int) * 2 ^ (s % 32) = (((q0 * 4294967296 + q1) * 2 ^ s : Nat) : Int) := by
    rw [Nat.mod_eq_of_lt hs]; simp
  have e3 : (q0 * 4294967296 + q1) * 2 ^ s = q1 * 2 ^ s + q0 * 2 ^ s * 4294967296 := by
    rw [Nat.add_mul, Nat.mul_right_comm, Nat.add_comm]
  have e4 := Nat.mod_mul_right_div_self ((q0 * 4294967296 + q1) * 2 ^ s) 4294967296 4294967296
  have e5 : (q1 * 2 ^ s + q0 * 2 ^ s * 4294967296) / 4294967296 = q1 * 2 ^ s / 4294967296 + q0 * 2 ^ s := Nat.add_mul_div_right _ _ (by decide)
  rw [e1, e2, IntKind.wrap_u64, mask32 (by omega) (by omega)]
  rw [e3, e5] at e4
  rw [e3]
  generalize q1 * 2 ^ s + q0 * 2 ^ s * 4294967296 = Y at e4 ⊢
  rw [Nat.add_comm (q0 * 2 ^ s)]
  generalize q1 * 2 ^ s / 4294967296 + q0 * 2 ^ s = Z at e4 ⊢
  omega
theorem shr_val (q0 q1 s : Nat) (l0 : q0 < 4294967296) (l1 : q1 < 4294967296) (hs : s < 32) :
    bits .and .u64 (bits .or .u64 ((q1 : Int) * 4294967296) (q0 : Int) / 2 ^ (s % 32)) 4294967295 = (((q1 * 4294967296 + q0) / 2 ^ s % 4294967296 : Nat) : Int) := by
  have e1 : bits .or .u64 ((q1 : Int) * 4294967296) (q0 : Int) = ((q1 * 4294967296 + q0 : Nat) : Int) := by
    rw [join32 (by omega) (by omega) (by omega) (by omega) (by omega)]; omega
  have e2 : ((q1 * 4294967296 + q0 : Nat) : Int) / 2 ^ (s % 32) = (((q1 * 4294967296 + q0) / 2 ^ s : Nat) : Int) := by
    rw [Nat.mod_eq_of_lt hs]; simp
  have e3 : (q1 * 4294967296 + q0) / 2 ^ s ≤ q1 * 4294967296 + q0 := Nat.div_le_self _ _
  rw [e1, e2]
  generalize (q1 * 4294967296 + q0) / 2 ^ s = z at e3 ⊢
  rw [mask32 (by omega) (by omega)]
  omega
set_option maxHeartbeats 400000 in
set_option maxRecDepth 100000 in
theorem shl1_any (i s : Nat) (A : Option Addr) (c : Nat) (l : List Int) (q0 q1 : Nat) (b0 b1 : Nat) (W : World) (hs : s < 32) (hi : i < 100000000)
    (hr : Kd.C (Kd.int .u32) W A l.length l) (hc : l.length ≤ c) (h0 : nat_limb.f l (i : Int) = some (q0 : Int)) (h1 : nat_limb.f l ((i : Int) - 1) = some (q1 : Int)) (l0 : q0 < 4294967296) (l1 : q1 < 4294967296)
    (hb0 : W.cell? ⟨b0, 0, none⟩ = some (.int .i64 (s : Int))) (hb1 : W.cell? ⟨b1, 0, none⟩ = some (.slice A l.length c)) :
    Calls Tryz.prog 163 #[.int .i64 (i : Int), .pointer (some ⟨b0, 0, none⟩), .pointer (some ⟨b1, 0, none⟩)] W fun e W' =>
      e = .returned (.int .u64 (((q0 * 2 ^ s + q1 * 2 ^ s / 4294967296) % 4294967296 : Nat) : Int)) ∧ Drawn0 W W' := by
  have Q0 := Aside0.mk h0
  have Q1 := Aside0.mk h1
  have HR := Aside0.mk hr
  have k0 : ∀ nd, Calls Tryz.prog 64 #[.slice A l.length c, .int .i64 (i : Int)] (W.drewN nd) fun e w' => e = .returned (.int .u64 (q0 : Int)) ∧ ∃ m, w' = W.drewN m := fun nd => Calls.quiet_of ((nat_limb.calls A c l _ _ _ (Kd.C_drewN HR.out _) hc Q0.out).mono fun _ _ ⟨he, hd⟩ => ⟨he, hd.out⟩)
  have k1 : ∀ nd, Calls Tryz.prog 64 #[.slice A l.length c, .int .i64 ((i : Int) - 1)] (W.drewN nd) fun e w' => e = .returned (.int .u64 (q1 : Int)) ∧ ∃ m, w' = W.drewN m := fun nd => Calls.quiet_of ((nat_limb.calls A c l _ _ _ (Kd.C_drewN HR.out _) hc Q1.out).mono fun _ _ ⟨he, hd⟩ => ⟨he, hd.out⟩)
  have K0 := Aside0.mk k0
  have K1 := Aside0.mk k1
  clear k0 k1 h0 h1 hr
  have hs0 : (0 : Int) ≤ (s : Int) := Int.natCast_nonneg _
  have hs1 : (s : Int) < 32 := by omega
  have hd : (s : Int) / 32 = 0 := by omega
  have hi1 : IntKind.i64.wrap ((i : Int) - 1) = (i : Int) - 1 := IntWalk.i64_in _ (by omega)
  go_enter Tryz.func163, Tryz.ntmps163
  go_wp2
  go_quiet ((first | (go_at_call 64; with_reducible exact K0.out _) | (go_at_call 64; with_reducible exact K1.out _)))
  go_wp2
  go_ret
  exact ⟨ret_u64 (shl_val q0 q1 s l0 l1 hs), ⟨⟨_, rfl⟩⟩⟩
set_option maxHeartbeats 400000 in
set_option maxRecDepth 100000 in
theorem shr1_any (i s : Nat) (A : Option Addr) (c : Nat) (l : List Int) (q0 q1 : Nat) (b0 b1 : Nat) (W : World) (hs : s < 32) (hi : i < 100000000)
    (hr : Kd.C (Kd.int .u32) W A l.length l) (hc : l.length ≤ c) (h0 : nat_limb.f l (i : Int) = some (q0 : Int)) (h1 : nat_limb.f l ((i : Int) + 1) = some (q1 : Int)) (l0 : q0 < 4294967296) (l1 : q1 < 4294967296)
    (hb0 : W.cell? ⟨b0, 0, none⟩ = some (.int .i64 (s : Int))) (hb1 : W.cell? ⟨b1, 0, none⟩ = some (.slice A l.length c)) :
    Calls Tryz.prog 166 #[.int .i64 (i : Int), .pointer (some ⟨b0, 0, none⟩), .pointer (some ⟨b1, 0, none⟩)] W fun e W' =>
      e = .returned (.int .u64 (((q1 * 4294967296 + q0) / 2 ^ s % 4294967296 : Nat) : Int)) ∧ Drawn0 W W' := by
  have Q0 := Aside0.mk h0
  have Q1 := Aside0.mk h1
  have HR := Aside0.mk hr
  have k0 : ∀ nd, Calls Tryz.prog 64 #[.slice A l.length c, .int .i64 (i : Int)] (W.drewN nd) fun e w' => e = .returned (.int .u64 (q0 : Int)) ∧ ∃ m, w' = W.drewN m := fun nd => Calls.quiet_of ((nat_limb.calls A c l _ _ _ (Kd.C_drewN HR.out _) hc Q0.out).mono fun _ _ ⟨he, hd⟩ => ⟨he, hd.out⟩)
  have k1 : ∀ nd, Calls Tryz.prog 64 #[.slice A l.length c, .int .i64 ((i : Int) + 1)] (W.drewN nd) fun e w' => e = .returned (.int .u64 (q1 : Int)) ∧ ∃ m, w' = W.drewN m := fun nd => Calls.quiet_of ((nat_limb.calls A c l _ _ _ (Kd.C_drewN HR.out _) hc Q1.out).mono fun _ _ ⟨he, hd⟩ => ⟨he, hd.out⟩)
  have K0 := Aside0.mk k0
  have K1 := Aside0.mk k1
  clear k0 k1 h0 h1 hr
  have hs0 : (0 : Int) ≤ (s : Int) := Int.natCast_nonneg _
  have hs1 : (s : Int) < 32 := by omega
  have hd : (s : Int) / 32 = 0 := by omega
  have hi1 : IntKind.i64.wrap ((i : Int) + 1) = (i : Int) + 1 := IntWalk.i64_in _ (by omega)
  go_enter Tryz.func166, Tryz.ntmps166
  go_wp2
  go_quiet ((first | (go_at_call 64; with_reducible exact K0.out _) | (go_at_call 64; with_reducible exact K1.out _)))
  go_wp2
  go_ret
  exact ⟨ret_u64 (shr_val q0 q1 s l0 l1 hs), ⟨⟨_, rfl⟩⟩⟩
def prev (l : List Int) (i : Nat) : Nat := if i = 0 then 0 else lim l (i - 1)
theorem prev_lt {l : List Int} (hl : okl l) (i : Nat) : prev l i < 4294967296 := by
  unfold prev; split
  · decide
  · exact lim_lt hl _
theorem prev_f {l : List Int} (hl : okl l) (i : Nat) : nat_limb.f l ((i : Int) - 1) = some ((prev l i : Nat) : Int) := by
  unfold prev
  split
  · rename_i h; subst h; exact limb_neg _ _ (by omega)
  · rw [show ((i : Int) - 1) = ((i - 1 : Nat) : Int) by omega]; exact limb_f hl _
theorem shift_div (x c s : Nat) (hs : s < 32) (hc : c < 2 ^ s) : (x * 2 ^ s + c) / 4294967296 = x * 2 ^ s / 4294967296 := by
  have hB : (4294967296 : Nat) = 2 ^ s * 2 ^ (32 - s) := by rw [← Nat.pow_add, show s + (32 - s) = 32 by omega]
  have hp : 0 < 2 ^ s := Nat.two_pow_pos s
  rw [hB, ← Nat.div_div_eq_div_mul, ← Nat.div_div_eq_div_mul, Nat.mul_div_cancel _ hp, Nat.add_comm, Nat.add_mul_div_right _ _ hp, Nat.div_eq_of_lt hc, Nat.zero_add]
theorem rcar_shift {l : List Int} (hl : okl l) {s : Nat} (hs : s < 32) : ∀ i, rcar l (2 ^ s) i < 2 ^ s ∧ rcar l (2 ^ s) i = prev l i * 2 ^ s / 4294967296
  | 0 => ⟨Nat.two_pow_pos s, by simp [rcar, prev]⟩
  | i + 1 => by
    have h1 := (rcar_shift hl hs i).1
    have h2 := lim_lt hl i
    have h3 : lim l i * 2 ^ s ≤ 4294967295 * 2 ^ s := Nat.mul_le_mul_right _ (by omega)
    have e : rcar l (2 ^ s) (i + 1) = lim l i * 2 ^ s / 4294967296 := by rw [rcar, shift_div _ _ s hs h1]
    refine ⟨?_, by rw [e]; simp [prev]⟩
    rw [e]
    exact Nat.div_lt_of_lt_mul (by have := Nat.two_pow_pos s; omega)
theorem shl_row {l : List Int} (hl : okl l) {s : Nat} (hs : s < 32) (i : Nat) : (lim l i * 2 ^ s + prev l i * 2 ^ s / 4294967296) % 4294967296 = rowf l (2 ^ s) 0 i := by
  rw [← (rcar_shift hl hs i).2]; rfl
theorem pow_lt32 {s : Nat} (hs : s < 32) : 2 ^ s < 4294967296 := (Nat.pow_lt_pow_iff_right (by decide : 1 < 2)).2 hs
theorem nval_split {l : List Int} (hl : okl l) : ∀ i, ∃ y, nval l / 4294967296 ^ i = lim l i + 4294967296 * lim l (i + 1) + 18446744073709551616 * y := by
  intro i
  induction i generalizing l with
  | zero =>
    match l with
    | [] => exact ⟨0, by simp [nval, lim]⟩
    | [x] => exact ⟨0, by simp [nval, lim]⟩
    | x :: x2 :: m => exact ⟨nval m, by simp [nval, lim]; omega⟩
  | succ i ih =>
    cases l with
    | nil => exact ⟨0, by simp [nval, lim]⟩
    | cons x m =>
      rw [okl_cons] at hl
      obtain ⟨y, hy⟩ := ih hl.2
      refine ⟨y, ?_⟩
      have e : nval (x :: m) / 4294967296 = nval m := by rw [nval]; omega
      rw [Nat.pow_succ, Nat.mul_comm, ← Nat.div_div_eq_div_mul, e, hy]
      rfl
theorem shr_digit {l : List Int} (hl : okl l) {s : Nat} (hs : s < 32) (i : Nat) : (lim l (i + 1) * 4294967296 + lim l i) / 2 ^ s % 4294967296 = nval l / 2 ^ s / 4294967296 ^ i % 4294967296 := by
  obtain ⟨y, hy⟩ := nval_split hl i
  have hB : (18446744073709551616 : Nat) = 2 ^ s * (4294967296 * 2 ^ (32 - s)) := by
    rw [show (4294967296 : Nat) = 2 ^ 32 by decide, ← Nat.pow_add, ← Nat.pow_add, show s + (32 + (32 - s)) = 64 by omega]
  rw [Nat.div_div_eq_div_mul, Nat.mul_comm (2 ^ s), ← Nat.div_div_eq_div_mul, hy, hB, Nat.mul_assoc, Nat.add_mul_div_left _ _ (Nat.two_pow_pos s), Nat.mul_assoc, Nat.add_mul_mod_self_left, Nat.mul_comm (lim l (i + 1)), Nat.add_comm (4294967296 * lim l (i + 1))]
def shrF (l : List Int) (s i : Nat) : Nat := (lim l (i + 1) * 4294967296 + lim l i) / 2 ^ s % 4294967296
theorem shrF_lt (l : List Int) (s i : Nat) : shrF l s i < 4294967296 := by unfold shrF; omega
theorem gsum_shr {l : List Int} (hl : okl l) {s : Nat} (hs : s < 32) : gsum (shrF l s) l.length = nval l / 2 ^ s := by
  rw [gsum_congr l.length (fun i _ => show shrF l s i = _ from shr_digit hl hs i), gsum_digits]
  exact Nat.mod_eq_of_lt (Nat.lt_of_le_of_lt (Nat.div_le_self _ _) (nval_lt hl))
end Go.Proofs.YtpncflaoikeidaaGreatDoor.H
namespace Go.Proofs.YtpncflaoikeidaaGreatDoor.P
open Go.RowKit Go.Proofs.YtpncflaoikeidaaGreatDoorW.PrintWords Go.Proofs.YtpncflaoikeidaaGreatDoorW.PrintLast Go.Proofs.YtpncflaoikeidaaGreatDoorW.PrintMore Go.Proofs.YtpncflaoikeidaaGreatDoor.H
attribute [local go_sem] max2_int max_two
/-- nat.Shl, by less than a limb. -/
def nat_Shl.f (l0 : List Int) (a1 : Int) : Option (List Int) := if okl l0 ∧ l0.length < 1000000 ∧ 0 ≤ a1 ∧ a1 < 32 then some (limbs (nval l0 * 2 ^ a1.toNat)) else none
/-- nat.Shr, by less than a limb. -/
def nat_Shr.f (l0 : List Int) (a1 : Int) : Option (List Int) := if okl l0 ∧ l0.length < 1000000 ∧ 0 ≤ a1 ∧ a1 < 32 then some (limbs (nval l0 / 2 ^ a1.toNat)) else none
structure TwoJ (A : Option Addr) (c : Nat) (l : List Int) (s : Nat) (w : World) (W : World) : Prop where
  b : Below w.heap.size w W
  h0 : W.heap[w.heap.size]? = some (.cells #[.slice A l.length c] 23 (0, 0))
  h1 : W.heap[w.heap.size + 1]? = some (.cells #[.int .i64 (s : Int)] 3 (0, 0))
theorem TwoJ.below {A : Option Addr} {c : Nat} {l : List Int} {s : Nat} {w : World} {W W1 : World} {B : Nat} (h : TwoJ A c l s w W) (hb : Below B W W1) (hB : w.heap.size + 2 ≤ B) : TwoJ A c l s w W1 :=
  ⟨h.b.trans (hb.mono (by omega)), blk_of_below hb h.h0 (by omega), blk_of_below hb h.h1 (by omega)⟩
theorem shl_at (A : Option Addr) (c : Nat) (l : List Int) (s : Nat) (w : World) (hl : okl l) (hr : Kd.C (Kd.int .u32) w A l.length l) (hc : l.length ≤ c) (hs : s < 32) (n : Nat) (hn : n < 10000000) :
    AtGives 163 #[.pointer (some ⟨w.heap.size + 1, 0, none⟩), .pointer (some ⟨w.heap.size, 0, none⟩)] (rowf l (2 ^ s) 0) (fun _ => TwoJ A c l s w) (w.heap.size + 2) n := by
  intro i W hi hJ hsz
  refine (shl1_any i s A c l (lim l i) (prev l i) _ _ W hs (by omega) (Kd.C_below hr hJ.b) hc (limb_f hl i) (prev_f hl i) (lim_lt hl i) (prev_lt hl i) ((blk_cell hJ.h1 0).trans rfl) ((blk_cell hJ.h0 0).trans rfl)).mono fun e W' ⟨he, hd⟩ => ?_
  obtain ⟨q, rfl⟩ := hd.out
  exact ⟨by rw [he, shl_row hl hs], ⟨pw_below_drewN hJ.b _, hJ.h0, hJ.h1⟩, Nat.le_refl _, fun _ _ _ => rfl⟩
theorem shr_at (A : Option Addr) (c : Nat) (l : List Int) (s : Nat) (w : World) (hl : okl l) (hr : Kd.C (Kd.int .u32) w A l.length l) (hc : l.length ≤ c) (hs : s < 32) (n : Nat) (hn : n < 10000000) :
    AtGives 166 #[.pointer (some ⟨w.heap.size + 1, 0, none⟩), .pointer (some ⟨w.heap.size, 0, none⟩)] (shrF l s) (fun _ => TwoJ A c l s w) (w.heap.size + 2) n := by
  intro i W hi hJ hsz
  refine (shr1_any i s A c l (lim l i) (lim l (i + 1)) _ _ W hs (by omega) (Kd.C_below hr hJ.b) hc (limb_f hl i) (limb_f hl (i + 1)) (lim_lt hl i) (lim_lt hl (i + 1)) ((blk_cell hJ.h1 0).trans rfl) ((blk_cell hJ.h0 0).trans rfl)).mono fun e W' ⟨he, hd⟩ => ?_
  obtain ⟨q, rfl⟩ := hd.out
  exact ⟨by rw [he, shrF], ⟨pw_below_drewN hJ.b _, hJ.h0, hJ.h1⟩, Nat.le_refl _, fun _ _ _ => rfl⟩
theorem two_start (A : Option Addr) (c : Nat) (l : List Int) (s : Nat) (w : World) : TwoJ A c l s w ((w.alloc (.cells #[.slice A l.length c] 23)).alloc (.cells #[.int .i64 (s : Int)] 3)) :=
  ⟨((Below.refl _ _).alloc (Nat.le_refl _) _).alloc (by simp) _, blk_alloc (heap_alloc_new _ _) _, by have h := heap_alloc_new (w.alloc (.cells #[.slice A l.length c] 23)) (.cells #[.int .i64 (s : Int)] 3); rw [World.size_alloc] at h; exact h⟩
set_option maxHeartbeats 400000 in
set_option maxRecDepth 100000 in
theorem nat_Shl.calls (A0 : Option Addr) (c0 : Nat) (l0 : List Int) (a1 : Int) (r : List Int) (w : World) (hr0 : Kd.C (Kd.int .u32) w A0 l0.length l0) (hc0 : l0.length ≤ c0) (h : nat_Shl.f l0 a1 = some r) :
    Calls Tryz.prog 148 #[.slice A0 l0.length c0, .int .i64 a1] w fun e w' => ∃ v0_ : Value, e = .returned (v0_) ∧ Kd.R (Kd.int .u32) 56 w' w.heap.size (fun _ => True) v0_ r ∧ Below w.heap.size w w' := by
  unfold nat_Shl.f at h
  split at h
  case isFalse => cases h
  case isTrue hg =>
  obtain rfl := Option.some.inj h
  clear h
  obtain ⟨o0, n0, hs0, hs1⟩ := hg
  obtain ⟨s, rfl⟩ : ∃ s : Nat, a1 = (s : Int) := ⟨a1.toNat, by omega⟩
  have hs : s < 32 := by omega
  have G := Aside0.mk (fun q => gather_any (l0.length + 1) 163 #[.pointer (some ⟨w.heap.size + 1, 0, none⟩), .pointer (some ⟨w.heap.size, 0, none⟩)] (rowf l0 (2 ^ s) 0)
    (fun _ => TwoJ A0 c0 l0 s w)
    (((w.alloc (.cells #[.slice A0 l0.length c0] 23)).alloc (.cells #[.int .i64 (s : Int)] 3)).drewN q) (by omega) (enters_ Tryz.func163 (by kernel_rfl) rfl)
    (gcar_fits (fun i _ => by have := rowf_lt l0 (2 ^ s) 0 i; omega))
    ((two_start A0 c0 l0 s w).below (pw_below_drewN (Below.refl (w.heap.size + 2) _) _) (Nat.le_refl _))
    (fun i W W1 hJ hb hsz => hJ.below hb (by simp))
    (by simpa using shl_at A0 c0 l0 s w o0 hr0 hc0 hs (l0.length + 1) (by omega)))
  have HS := Aside0.mk (gsum_row o0 (pow_lt32 hs) 0)
  have htop := top_f l0 (by omega) (l0.length + 1) (by omega)
  have hT : Kd.C (Kd.int .u32) ((w.alloc (.cells #[.slice A0 l0.length c0] 23)).alloc (.cells #[.int .i64 (s : Int)] 3)) A0 l0.length l0 := Kd.C_alloc (Kd.C_alloc hr0 _) _
  have T := Aside0.mk (nat_top.calls (l0.length + 1) A0 c0 l0 _ _ hT hc0 htop)
  have hz := topN_zero o0
  obtain ⟨m, hm⟩ : ∃ m, topN l0 = m := ⟨_, rfl⟩
  rw [hm] at T hz
  have hcast : (((l0.length + 1 : Nat) : Int)) = (l0.length : Int) + 1 := by omega
  rw [hcast] at G
  have hn0 : (l0.length : Int) < 1000000 := by omega
  have hd : (s : Int) / 32 = 0 := by omega
  clear hcast o0 n0 hr0 htop hT hm
  by_cases hm0 : m = 0
  · subst hm0
    have HZ := Aside0.mk (hz.1 rfl)
    clear hz G
    go_enter Tryz.func148, Tryz.ntmps148
    go_wp2_with (go_at_call 80; with_reducible refine T.out.mono ?_; rintro e w' ⟨rfl, ⟨nd, rfl⟩⟩)
    go_ret
    exact ⟨.slice none 0 0, rfl, by rw [HZ.out, Nat.zero_mul, limbs_zero]; exact Kd.R_nil _ _ _ _ _, pw_below_drewN (((Below.refl _ _).alloc (Nat.le_refl _) _).alloc (by simp) _) _⟩
  · have hm1 : ((m : Int) == 0) = false := by simpa using hm0
    clear hz
    go_enter Tryz.func148, Tryz.ntmps148
    go_wp2_with (first | (go_at_call 80; with_reducible refine T.out.mono ?_; rintro e w' ⟨rfl, ⟨nd, rfl⟩⟩) | (go_at_call 65; with_reducible refine (G.out _).mono ?_; rintro e W' ⟨v, rfl, hR, hJ, _⟩))
    go_ret
    exact ⟨v, rfl, by rw [show l0.length + 1 = l0.length + 0 + 1 from rfl, HS.out, Nat.pow_zero, Nat.one_mul] at hR; rw [Int.toNat_natCast]; exact Kd.R_lower hR (by simp; omega), hJ.b⟩
set_option maxHeartbeats 400000 in
set_option maxRecDepth 100000 in
theorem nat_Shr.calls (A0 : Option Addr) (c0 : Nat) (l0 : List Int) (a1 : Int) (r : List Int) (w : World) (hr0 : Kd.C (Kd.int .u32) w A0 l0.length l0) (hc0 : l0.length ≤ c0) (h : nat_Shr.f l0 a1 = some r) :
    Calls Tryz.prog 152 #[.slice A0 l0.length c0, .int .i64 a1] w fun e w' => ∃ v0_ : Value, e = .returned (v0_) ∧ Kd.R (Kd.int .u32) 56 w' w.heap.size (fun _ => True) v0_ r ∧ Below w.heap.size w w' := by
  unfold nat_Shr.f at h
  split at h
  case isFalse => cases h
  case isTrue hg =>
  obtain rfl := Option.some.inj h
  clear h
  obtain ⟨o0, n0, hs0, hs1⟩ := hg
  obtain ⟨s, rfl⟩ : ∃ s : Nat, a1 = (s : Int) := ⟨a1.toNat, by omega⟩
  have hs : s < 32 := by omega
  have G := Aside0.mk (gather_any l0.length 166 #[.pointer (some ⟨w.heap.size + 1, 0, none⟩), .pointer (some ⟨w.heap.size, 0, none⟩)] (shrF l0 s)
    (fun _ => TwoJ A0 c0 l0 s w)
    ((w.alloc (.cells #[.slice A0 l0.length c0] 23)).alloc (.cells #[.int .i64 (s : Int)] 3)) (by omega) (enters_ Tryz.func166 (by kernel_rfl) rfl)
    (gcar_fits (fun i _ => by have := shrF_lt l0 s i; omega))
    (two_start A0 c0 l0 s w)
    (fun i W W1 hJ hb hsz => hJ.below hb (by simp))
    (by simpa using shr_at A0 c0 l0 s w o0 hr0 hc0 hs l0.length (by omega)))
  have HS := Aside0.mk (gsum_shr o0 hs)
  have hn0 : (l0.length : Int) < 1000000 := by omega
  have hd : (s : Int) / 32 = 0 := by omega
  by_cases hm0 : l0 = []
  · subst hm0
    clear G o0 n0 hr0 HS hn0
    go_enter Tryz.func152, Tryz.ntmps152
    go_wp2
    go_ret
    exact ⟨.slice none 0 0, rfl, by simp only [nval, Nat.zero_div]; rw [limbs_zero]; exact Kd.R_nil _ _ _ _ _, (((Below.refl _ _).alloc (Nat.le_refl _) _).alloc (by simp) _)⟩
  · obtain ⟨N, hN⟩ : ∃ N, l0.length = N := ⟨_, rfl⟩
    have hN0 : 0 < N := by rw [← hN]; exact List.length_pos_iff.2 hm0
    have hN1 : (0 : Int) < (N : Int) := by omega
    rw [hN] at G HS hc0
    clear o0 n0 hr0 hm0 hn0
    rw [hN]
    clear hN
    go_enter Tryz.func152, Tryz.ntmps152
    go_wp2_with (go_at_call 65; with_reducible refine G.out.mono ?_; rintro e W' ⟨v, rfl, hR, hJ, _⟩)
    go_ret
    exact ⟨v, rfl, by rw [HS.out] at hR; rw [Int.toNat_natCast]; exact Kd.R_lower hR (by simp; omega), hJ.b⟩
end Go.Proofs.YtpncflaoikeidaaGreatDoor.P
namespace Go.Proofs.YtpncflaoikeidaaGreatDoor.H
open Go.RowKit Go.Proofs.YtpncflaoikeidaaGreatDoorW.PrintWords Go.Proofs.YtpncflaoikeidaaGreatDoorW.PrintLast Go.Proofs.YtpncflaoikeidaaGreatDoorW.PrintMore Go.Proofs.YtpncflaoikeidaaGreatDoor.P
theorem Blk32.C {W : World} {g : Nat} {us : List Int} (h : Blk32 W g us) (hn : us.length ≤ 9223372036854775807) : Kd.C (Kd.int .u32) W (some ⟨g, 0, none⟩) us.length us :=
  Kd.C_of_reads (enc := Value.int .u32) (d := 0) ⟨rfl, hn, fun _ => ⟨_, rfl, fun j hj => by
    show W.cell? ((⟨g, 0, none⟩ : Addr).add j) = _
    have e : (⟨g, 0, none⟩ : Addr).add j = ⟨g, j, none⟩ := by unfold Addr.add; split <;> simp_all
    rw [e, blk_cell h]
    simp [List.getD_eq_getElem?_getD, hj]⟩⟩
/-- what stands while the loop of DivMod runs -/
structure DivJ (B gu gq : Nat) (w : World) (v : Value) (vs us qs : List Int) (W : World) : Prop where
  u : Blk32 W gu us
  q : Blk32 W gq qs
  v : Kd.R (Kd.int .u32) 56 W B (fun k => k ≠ gu ∧ k ≠ gq) v vs
  b : Below B w W
theorem DivJ.drewN {B gu gq : Nat} {w : World} {v : Value} {vs us qs : List Int} {W : World} (h : DivJ B gu gq w v vs us qs W) (m : Nat) : DivJ B gu gq w v vs us qs (W.drewN m) :=
  ⟨h.u, h.q, Kd.R_drewN h.v _, pw_below_drewN h.b _⟩
theorem DivJ.take {B gu gq : Nat} {w : World} {v : Value} {vs us qs us' : List Int} {W W1 : World} (h : DivJ B gu gq w v vs us qs W) (hp : Put32 gu W us' W1) (hB : B ≤ gu) (hne : gq ≠ gu) : DivJ B gu gq w v vs us' qs W1 :=
  ⟨hp.blk, hp.keep.blk h.q hne (by simp), Kd.R_keep h.v hp.keep (fun _ hk => hk.1), h.b.trans (hp.bel B hB)⟩
theorem DivJ.set {B gu gq : Nat} {w : World} {v : Value} {vs us qs : List Int} {W : World} (h : DivJ B gu gq w v vs us qs W) (hB : B ≤ gq) (hne : gu ≠ gq) (j : Nat) (t : Int) : DivJ B gu gq w v vs us (qs.set j t) (W.setCell ⟨gq, j, none⟩ (.int .u32 t)) :=
  ⟨blk_far h.u hne _, h.q.set j t, Kd.R_keep h.v ((KeepBut.refl W gq none).set_ j _) (fun _ hk => hk.2), h.b.setCell (p := ⟨gq, j, none⟩) hB _⟩
end Go.Proofs.YtpncflaoikeidaaGreatDoor.H
namespace Go.Proofs.YtpncflaoikeidaaGreatDoor.P
open Go.RowKit Go.Proofs.YtpncflaoikeidaaGreatDoorW.PrintWords Go.Proofs.YtpncflaoikeidaaGreatDoorW.PrintLast Go.Proofs.YtpncflaoikeidaaGreatDoorW.PrintMore Go.Proofs.YtpncflaoikeidaaGreatDoor.H
/-- quo.DivMod -/
def quo_DivMod.f (l0 l1 : List Int) : Option (List Int × List Int × Int) := if okl l0 ∧ okl l1 ∧ l0.length < 900000 ∧ l1.length < 900000 then some (if nval l1 = 0 then ([], [], 17) else (limbs (nval l0 / nval l1), limbs (nval l0 % nval l1), 0)) else none
def DivPost (w : World) (r1 r2 : List Int) (r3 : Int) (e : Ending) (w' : World) : Prop := ∃ v0_ v1_ : Value, e = .returned (.tuple #[v0_, v1_, .int .i64 r3]) ∧ Kd.R (Kd.int .u32) 56 w' w.heap.size (fun k_ => some k_ ≠ (v1_ : Value).ownBlock) v0_ r1 ∧ Kd.R (Kd.int .u32) 56 w' w.heap.size (fun k_ => some k_ ≠ (v0_ : Value).ownBlock) v1_ r2 ∧ Below w.heap.size w w'
theorem trim_any {l : List Int} (hl : okl l) (hn : l.length < 1000000) (A : Option Addr) (c : Nat) (W : World) (hr : Kd.C (Kd.int .u32) W A l.length l) (hc : l.length ≤ c) :
    Calls Tryz.prog 42 #[.slice A l.length c] W fun e w' => ∃ v0_ : Value, e = .returned (v0_) ∧ Kd.R (Kd.int .u32) 56 w' W.heap.size (fun _ => True) v0_ (limbs (nval l)) ∧ Below W.heap.size W w' :=
  nat_Trim.calls (l.length + 1) A c l _ W hr hc (trim_f hl (by omega) (by omega))
set_option maxHeartbeats 1000000 in
set_option maxRecDepth 100000 in
theorem div_zero (A0 : Option Addr) (c0 : Nat) (l0 : List Int) (A1 : Option Addr) (c1 : Nat) (l1 : List Int) (w : World) (hr0 : Kd.C (Kd.int .u32) w A0 l0.length l0) (hc0 : l0.length ≤ c0) (hr1 : Kd.C (Kd.int .u32) w A1 l1.length l1) (hc1 : l1.length ≤ c1)
    (o0 : okl l0) (o1 : okl l1) (n0 : l0.length < 900000) (n1 : l1.length < 900000) (hb : nval l1 = 0) :
    Calls Tryz.prog 124 #[.slice A0 l0.length c0, .slice A1 l1.length c1] w (DivPost w [] [] 17) := by
  have T0 := Aside0.mk (trim_any o0 (by omega) A0 c0 w hr0 hc0)
  have T1 := Aside0.mk (fun W h => trim_any o1 (by omega) A1 c1 W h hc1)
  have HR1 := Aside0.mk hr1
  rw [hb, limbs_zero] at T1
  clear hr0 hr1 n0 n1
  go_enter Tryz.func124, Tryz.ntmps124
  go_wp2_with (first | (go_at_call 42; with_reducible refine T0.out.mono ?_; rintro e w5 ⟨v0, rfl, ho0, hb0⟩; have HB0 := Aside0.mk hb0; obtain ⟨A2, c2, rfl⟩ := Kd.R_slice ho0; have HO0 := Aside0.mk ho0; clear ho0 hb0) | (go_at_call 42; with_reducible refine (T1.out _ ?side).mono ?_; (case side => exact Kd.C_below HR1.out HB0.out); rintro e w6 ⟨v1, rfl, ho1, hb1⟩; have HB1 := Aside0.mk hb1; obtain ⟨A3, c3, rfl⟩ := Kd.R_slice ho1; have HO1 := Aside0.mk ho1; clear ho1 hb1))

  go_ret3
  exact ⟨_, _, rfl, Kd.R_nil _ _ _ _ _, Kd.R_nil _ _ _ _ _, below_step HB0.out HB1.out⟩
theorem cmp_any {a b : Nat} (ha : (limbs a).length < 1000000) (hb : (limbs b).length < 1000000) (A0 : Option Addr) (c0 : Nat) (A1 : Option Addr) (c1 : Nat) (W : World) (hr0 : Kd.C (Kd.int .u32) W A0 (limbs a).length (limbs a)) (hc0 : (limbs a).length ≤ c0) (hr1 : Kd.C (Kd.int .u32) W A1 (limbs b).length (limbs b)) (hc1 : (limbs b).length ≤ c1) :
    Calls Tryz.prog 30 #[.slice A0 (limbs a).length c0, .slice A1 (limbs b).length c1] W fun e w' => e = .returned (.int .i64 (if a < b then -1 else if b < a then 1 else 0)) ∧ Below W.heap.size W w' := by
  refine nat_Cmp.calls A0 c0 _ A1 c1 _ _ W hr0 hc0 hr1 hc1 ?_
  unfold nat_Cmp.f
  rw [if_pos ⟨okl_limbs a, okl_limbs b, ha, hb⟩, nval_limbs, nval_limbs]
/-- what the two Trims leave -/
structure Two (w w5 w6 : World) (A2 A3 : Option Addr) (c2 c3 : Nat) (la lb : List Int) : Prop where
  b0 : Below w.heap.size w w5
  b1 : Below w5.heap.size w5 w6
  r0 : Kd.R (Kd.int .u32) 56 w5 w.heap.size (fun _ => True) (.slice A2 la.length c2) la
  r1 : Kd.R (Kd.int .u32) 56 w6 w5.heap.size (fun _ => True) (.slice A3 lb.length c3) lb
theorem Two.b {w w5 w6 : World} {A2 A3 : Option Addr} {c2 c3 : Nat} {la lb : List Int} (h : Two w w5 w6 A2 A3 c2 c3 la lb) : Below w.heap.size w w6 := below_step h.b0 h.b1
theorem Two.r0' {w w5 w6 : World} {A2 A3 : Option Addr} {c2 c3 : Nat} {la lb : List Int} (h : Two w w5 w6 A2 A3 c2 c3 la lb) : Kd.R (Kd.int .u32) 56 w6 w.heap.size (fun k => True ∧ k < w5.heap.size) (.slice A2 la.length c2) la := Kd.R_old h.r0 h.b1
theorem Two.C0 {w w5 w6 : World} {A2 A3 : Option Addr} {c2 c3 : Nat} {la lb : List Int} (h : Two w w5 w6 A2 A3 c2 c3 la lb) : Kd.C (Kd.int .u32) w6 A2 la.length la := (Kd.R_reads' h.r0').2.2
theorem Two.C1 {w w5 w6 : World} {A2 A3 : Option Addr} {c2 c3 : Nat} {la lb : List Int} (h : Two w w5 w6 A2 A3 c2 c3 la lb) : Kd.C (Kd.int .u32) w6 A3 lb.length lb := (Kd.R_reads' h.r1).2.2
theorem Two.c0 {w w5 w6 : World} {A2 A3 : Option Addr} {c2 c3 : Nat} {la lb : List Int} (h : Two w w5 w6 A2 A3 c2 c3 la lb) : la.length ≤ c2 := (Kd.R_reads' h.r0).2.1
theorem Two.c1 {w w5 w6 : World} {A2 A3 : Option Addr} {c2 c3 : Nat} {la lb : List Int} (h : Two w w5 w6 A2 A3 c2 c3 la lb) : lb.length ≤ c3 := (Kd.R_reads' h.r1).2.1
set_option maxHeartbeats 1000000 in
set_option maxRecDepth 100000 in
theorem div_less (A0 : Option Addr) (c0 : Nat) (l0 : List Int) (A1 : Option Addr) (c1 : Nat) (l1 : List Int) (w : World) (hr0 : Kd.C (Kd.int .u32) w A0 l0.length l0) (hc0 : l0.length ≤ c0) (hr1 : Kd.C (Kd.int .u32) w A1 l1.length l1) (hc1 : l1.length ≤ c1)
    (o0 : okl l0) (o1 : okl l1) (n0 : l0.length < 900000) (n1 : l1.length < 900000) (a b : Nat) (ha : nval l0 = a) (hb : nval l1 = b) (hab : a < b) :
    Calls Tryz.prog 124 #[.slice A0 l0.length c0, .slice A1 l1.length c1] w (DivPost w [] (limbs a) 0) := by
  have T0 := Aside0.mk (trim_any o0 (by omega) A0 c0 w hr0 hc0)
  have T1 := Aside0.mk (fun W h => trim_any o1 (by omega) A1 c1 W h hc1)
  have HR1 := Aside0.mk hr1
  have h0 := topN_le l0
  have h1 := topN_le l1
  have h2 := trim_limbs o0
  have h3 := trim_limbs o1
  rw [ha] at T0 h2
  rw [hb] at T1 h3
  have l0' : (limbs a).length < 900000 := by rw [← h2, List.length_take]; omega
  have l1' : (limbs b).length < 900000 := by rw [← h3, List.length_take]; omega
  have K := Aside0.mk (fun A0 c0 A1 c1 W => cmp_any (a := a) (b := b) (by omega) (by omega) A0 c0 A1 c1 W)
  rw [if_pos hab] at K
  obtain ⟨n, hn⟩ : ∃ n, (limbs b).length = n := ⟨_, rfl⟩
  have hn0 : n ≠ 0 := by
    have h4 := nval_limbs b
    intro h5
    rw [h5] at hn
    rw [List.eq_nil_of_length_eq_zero hn] at h4
    simp only [nval] at h4; omega
  have HN := Aside0.mk hn
  have hz : ((n : Int) == 0) = false := by simpa using hn0
  rw [hn] at K
  clear hr0 hr1 n0 n1 h0 h1 h2 h3 l0' l1' ha hb hab hn hn0
  go_enter Tryz.func124, Tryz.ntmps124
  go_wp2_with (first | (go_at_call 42; with_reducible refine T0.out.mono ?_; rintro e w5 ⟨v0, rfl, ho0, hb0⟩; have HB0 := Aside0.mk hb0; obtain ⟨A2, c2, rfl⟩ := Kd.R_slice ho0; have HO0 := Aside0.mk ho0; clear ho0 hb0) | (go_at_call 42; with_reducible refine (T1.out _ ?side).mono ?_; (case side => exact Kd.C_below HR1.out HB0.out); rintro e w6 ⟨v1, rfl, ho1, hb1⟩; obtain ⟨A3, c3, rfl⟩ := Kd.R_slice ho1; have HT := Aside0.mk (Two.mk HB0.out hb1 HO0.out ho1); clear ho1 hb1; clear HB0 HO0; (have HT' := HT); rw [HN.out]) | (go_at_call 30; with_reducible refine (K.out _ _ _ _ _ ?s1 ?s2 ?s3 ?s4).mono ?_; (case s1 => exact HT.out.C0); (case s2 => exact HT.out.c0); (case s3 => have h_ := HT.out.C1; rw [HN.out] at h_; exact h_); (case s4 => have h_ := HT.out.c1; rw [HN.out] at h_; exact h_); rintro e w7 ⟨rfl, hb2⟩; have HB2 := Aside0.mk hb2; clear hb2))
  go_ret3
  exact ⟨_, _, rfl, Kd.R_nil _ _ _ _ _, Kd.R_mono (Kd.R_old HT.out.r0' HB2.out) (fun _ _ => by simp [Value.ownBlock]), below_step HT.out.b HB2.out⟩
set_option maxHeartbeats 1000000 in
set_option maxRecDepth 100000 in
theorem div_short (A0 : Option Addr) (c0 : Nat) (l0 : List Int) (A1 : Option Addr) (c1 : Nat) (l1 : List Int) (w : World) (hr0 : Kd.C (Kd.int .u32) w A0 l0.length l0) (hc0 : l0.length ≤ c0) (hr1 : Kd.C (Kd.int .u32) w A1 l1.length l1) (hc1 : l1.length ≤ c1)
    (o0 : okl l0) (o1 : okl l1) (n0 : l0.length < 900000) (n1 : l1.length < 900000) (a b : Nat) (ha : nval l0 = a) (hb : nval l1 = b) (hab : b ≤ a) (hn : (limbs b).length = 1) :
    Calls Tryz.prog 124 #[.slice A0 l0.length c0, .slice A1 l1.length c1] w (DivPost w (limbs (a / b)) (limbs (a % b)) 0) := by
  have T0 := Aside0.mk (trim_any o0 (by omega) A0 c0 w hr0 hc0)
  have T1 := Aside0.mk (fun W h => trim_any o1 (by omega) A1 c1 W h hc1)
  have HR1 := Aside0.mk hr1
  have h0 := topN_le l0
  have h1 := topN_le l1
  have h2 := trim_limbs o0
  have h3 := trim_limbs o1
  rw [ha] at T0 h2
  rw [hb] at T1 h3
  have l0' : (limbs a).length < 900000 := by rw [← h2, List.length_take]; omega
  have l1' : (limbs b).length < 900000 := by rw [← h3, List.length_take]; omega
  have K := Aside0.mk (fun A0 c0 A1 c1 W => cmp_any (a := a) (b := b) (by omega) (by omega) A0 c0 A1 c1 W)
  rw [if_neg (by omega)] at K
  obtain ⟨d, hd, hd1⟩ : ∃ d : Int, limbs b = [d] ∧ d = (b : Int) := by
    cases hl : limbs b with
    | nil => rw [hl] at hn; cases hn
    | cons x r =>
      rw [hl] at hn
      have : r = [] := by simpa using hn
      subst this
      refine ⟨x, rfl, ?_⟩
      have h4 := nval_limbs b
      have h5 := okl_limbs b
      rw [hl, okl_cons] at h5
      rw [hl] at h4
      simp only [nval] at h4
      omega
  have hbl : b < 4294967296 := by
    have := nval_lt (okl_limbs b)
    rw [nval_limbs, hn] at this
    simpa using this
  have hb0 : 0 < b := by
    rcases Nat.eq_zero_or_pos b with h | h
    · subst h; rw [limbs_zero] at hn; cases hn
    · exact h
  have S := Aside0.mk (fun A c W h hc => quo_Short.calls (2 * (limbs a).length + 2) A c (limbs a) (b : Int) _ _ _ W h hc (short_f (okl_limbs a) (by omega) hb0 hbl (by omega)))
  rw [nval_limbs] at S
  have hm := Nat.mod_lt a hb0
  obtain ⟨m, hmm⟩ : ∃ m, a % b = m := ⟨_, rfl⟩
  rw [hmm] at S hm ⊢
  have O := Aside0.mk (fun W => nat_Of.calls ((m : Nat) : Int) (limbs m) W (by unfold nat_Of.f; rw [if_pos (by omega), Int.toNat_natCast]))
  have hmw : IntKind.u64.wrap ((m : Nat) : Int) = (m : Int) := IntWalk.u64_in _ (by omega)
  have hm2 : ((m : Nat) : Int) % 18446744073709551616 = (m : Int) := by omega
  have HD := Aside0.mk hd
  have HD1 : Aside0 (rd [d] 0 = (b : Int)) := ⟨by rw [← hd1]; simp [rd]⟩
  obtain ⟨c, hc⟩ : ∃ c : Int, (if b < a then 1 else 0) = c := ⟨_, rfl⟩
  rw [hc] at K
  have hcc : decide (c < 0) = false := by rw [← hc]; split <;> rfl
  rw [hn] at K
  clear hr0 hr1 n0 n1 h0 h1 h2 h3 l0' l1' ha hb hab hd hd1 hbl hb0 hm hmm hc
  have HN := Aside0.mk hn
  clear hn
  go_enter Tryz.func124, Tryz.ntmps124
  go_wp2_with (first | (go_at_call 42; with_reducible refine T0.out.mono ?_; rintro e w5 ⟨v0, rfl, ho0, hb0⟩; have HB0 := Aside0.mk hb0; obtain ⟨A2, c2, rfl⟩ := Kd.R_slice ho0; have HO0 := Aside0.mk ho0; clear ho0 hb0) | (go_at_call 42; with_reducible refine (T1.out _ ?side).mono ?_; (case side => exact Kd.C_below HR1.out HB0.out); rintro e w6 ⟨v1, rfl, ho1, hb1⟩; obtain ⟨A3, c3, rfl⟩ := Kd.R_slice ho1; have HT := Aside0.mk (Two.mk HB0.out hb1 HO0.out ho1); clear ho1 hb1; clear HB0 HO0; rw [HN.out]) | (go_at_call 30; with_reducible refine (K.out _ _ _ _ _ ?s1 ?s2 ?s3 ?s4).mono ?_; (case s1 => exact HT.out.C0); (case s2 => exact HT.out.c0); (case s3 => have h_ := HT.out.C1; rw [HN.out] at h_; exact h_); (case s4 => have h_ := HT.out.c1; rw [HN.out] at h_; exact h_); rintro e w7 ⟨rfl, hb2⟩; have HB2 := Aside0.mk hb2; have hC := Kd.C_below HT.out.C1 hb2; rw [HD.out] at hC; obtain ⟨ad, ead, hx⟩ := Kd.at_int hC 0 (by decide) (by simp); subst ead; rw [HD1.out] at hx; have hx' : w7.cell? ad = some (.int .u32 (b : Int)) := (by simpa [Addr.add] using hx); clear hx; clear hb2 hC) | (go_at_call 43; with_reducible refine (S.out _ _ _ ?s1 ?s2).mono ?_; (case s1 => exact Kd.C_below HT.out.C0 HB2.out); (case s2 => exact HT.out.c0); rintro e w8 ⟨v2, rfl, ho2, hb3⟩; have HB3 := Aside0.mk hb3; have HO2 := Aside0.mk ho2; obtain ⟨A4, c4, rfl⟩ := Kd.R_slice ho2; clear ho2 hb3) | (go_at_call 31; with_reducible refine (O.out _).mono ?_; rintro e w9 ⟨v3, rfl, ho3, hb4⟩; have HB4 := Aside0.mk hb4; have HO3 := Aside0.mk ho3; clear ho3 hb4))
  go_ret3
  have hr2 := Kd.R_lower (Kd.R_elder' HO2.out (Kd.R_base HO3.out) HB4.out) (below_size (below_step HT.out.b HB2.out))
  have hr3 := Kd.R_lower (Kd.R_new' HO3.out (Kd.R_lt HO2.out)) (below_size (below_step (below_step HT.out.b HB2.out) HB3.out))
  exact ⟨_, _, rfl, Kd.R_mono hr2 (fun _ hk => hk.2), Kd.R_mono hr3 (fun _ hk => hk.2), below_step (below_step (below_step HT.out.b HB2.out) HB3.out) HB4.out⟩
end Go.Proofs.YtpncflaoikeidaaGreatDoor.P
