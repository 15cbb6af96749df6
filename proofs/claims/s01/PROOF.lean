import PyProof.Rows.All
import Wide.All
import OpenK.AllK
import Wide.FinOn
import Open.SpecLaws
import KE.OsGo
import KE.OsArith
import HandS.ForSpec
import HandS.Comp
import HandS.Iter
import HandS.Walk
import HandS.Text
import HandS.CallLocal
import HandS.CallSlots
import HandS.TryMany
import KE.KDictPairs
import KE.KDictKeyed
import KE.KeyNested
import HandS.Dict
import HandS.TupLen
import HandS.ExcInit
import HandS.ExcField
import PyFlatLaws
import PySem.Challenge.RW_trusthouse_s01_answers
set_option Elab.async false
set_option linter.all false
set_option maxRecDepth 100000
set_option maxHeartbeats 4000000
namespace Th
open Ql67
/-! ### bytes of a number -/
theorem be_length : ∀ k n, (be k n).length = k
  | 0, _ => rfl
  | k + 1, n => by
    show (be k (n / 256) ++ [n % 256]).length = k + 1
    rw [List.length_append, be_length k, List.length_singleton]
theorem be_lt : ∀ k n b, b ∈ be k n → b < 256
  | 0, _, b, h => by cases h
  | k + 1, n, b, h => by
    have h' : b ∈ be k (n / 256) ++ [n % 256] := h
    rcases List.mem_append.mp h' with q | q
    · exact be_lt k _ b q
    · rw [List.mem_singleton.mp q]
      exact Nat.mod_lt _ (by decide)
theorem be_get : ∀ k n i, i < k → (be k n)[i]? = some (n / 2 ^ (8 * (k - 1 - i)) % 256)
  | 0, _, i, h => absurd h (Nat.not_lt_zero i)
  | k + 1, n, i, h => by
    show (be k (n / 256) ++ [n % 256])[i]? = _
    by_cases c : i < k
    · rw [List.getElem?_append_left (by rw [be_length]; exact c), be_get k _ i c, Nat.div_div_eq_div_mul]
      have e : 256 * 2 ^ (8 * (k - 1 - i)) = 2 ^ (8 * (k + 1 - 1 - i)) := by
        have e1 : k + 1 - 1 - i = (k - 1 - i) + 1 := by omega
        rw [e1, Nat.mul_add, Nat.pow_add, Nat.mul_comm]
      rw [e]
    · have e : i = k := by omega
      subst e
      rw [List.getElem?_append_right (by rw [be_length]; exact Nat.le_refl _), be_length, Nat.sub_self]
      have e2 : i + 1 - 1 - i = 0 := by omega
      rw [e2]
      simp
theorem num_snoc (l : B) (x : Nat) : num (l ++ [x]) = 256 * num l + x := by
  unfold num
  rw [List.foldl_append]
  rfl
theorem num_be : ∀ k n, n < 2 ^ (8 * k) → num (be k n) = n
  | 0, n, h => by
    have : n = 0 := by
      have : n < 1 := by simpa using h
      omega
    subst this
    rfl
  | k + 1, n, h => by
    show num (be k (n / 256) ++ [n % 256]) = n
    have h2 : n / 256 < 2 ^ (8 * k) := by
      rw [Nat.div_lt_iff_lt_mul (by decide)]
      have e : 2 ^ (8 * k) * 256 = 2 ^ (8 * (k + 1)) := by
        rw [Nat.mul_add, Nat.pow_add]
      rw [e]
      exact h
    rw [num_snoc, num_be k _ h2]
    omega
theorem num_lt : ∀ (l : B), (∀ b, b ∈ l → b < 256) → num l < 2 ^ (8 * l.length) := by
  intro l
  have gen : ∀ (n : Nat) (l : B), l.length = n → (∀ b, b ∈ l → b < 256) → num l < 2 ^ (8 * l.length) := by
    intro n
    induction n with
    | zero =>
      intro l hl _
      have : l = [] := List.eq_nil_of_length_eq_zero hl
      subst this
      decide
    | succ n ih =>
      intro l hl hb
      obtain ⟨r, x, rfl⟩ : ∃ r x, l = r ++ [x] := by
        have hne : l ≠ [] := by intro e; rw [e] at hl; cases hl
        exact ⟨l.dropLast, l.getLast hne, (List.dropLast_concat_getLast hne).symm⟩
      have hr : r.length = n := by rw [List.length_append, List.length_singleton] at hl; omega
      have h1 := ih r hr (fun b q => hb b (List.mem_append_left _ q))
      have h2 := hb x (List.mem_append_right _ (List.mem_singleton.mpr rfl))
      rw [num_snoc, List.length_append, List.length_singleton, Nat.mul_add, Nat.pow_add]
      have e : (2 : Nat) ^ (8 * 1) = 256 := by decide
      rw [e]
      omega
  exact gen l.length l rfl
/-! ### E -/
theorem W_eq : W = 4294967296 := by decide
theorem rounds_more (n : Nat) (k : List Nat) (s a b : Nat) : rounds (n + 1) k s a b =
    rounds n k ((s + 0x9E3779B9) % W) ((a + mix b s (k.getD (s % 4) 0)) % W)
      ((b + mix ((a + mix b s (k.getD (s % 4) 0)) % W) ((s + 0x9E3779B9) % W) (k.getD (((s + 0x9E3779B9) % W) / 2048 % 4) 0)) % W) := rfl
theorem rounds_lt : ∀ (n : Nat) (k : List Nat) (s a b : Nat), a < W → b < W → (rounds n k s a b).1 < W ∧ (rounds n k s a b).2 < W
  | 0, _, _, _, _, ha, hb => ⟨ha, hb⟩
  | n + 1, k, s, a, b, _, _ => by
    rw [rounds_more]
    exact rounds_lt n _ _ _ _ (Nat.mod_lt _ (by decide)) (Nat.mod_lt _ (by decide))
def words (k : B) : List Nat := (List.range 4).map fun i => num ((k.drop (4 * i)).take 4)
theorem words_len (k : B) : (words k).length = 4 := by
  unfold words
  rw [List.length_map, List.length_range]
theorem block_eq (k : B) {x : Nat} (hx : x < 2 ^ 64) : block k x = (rounds 32 (words k) 0 (x / W) (x % W)).1 * W + (rounds 32 (words k) 0 (x / W) (x % W)).2 := by
  have e : x / W % W = x / W := Nat.mod_eq_of_lt (by
    rw [Nat.div_lt_iff_lt_mul (by decide)]
    exact hx)
  unfold block
  rw [e]
  rfl
theorem block_lt (k : B) (x : Nat) : block k x < 2 ^ 64 := by
  have h := rounds_lt 32 (words k) 0 (x / W % W) (x % W) (Nat.mod_lt _ (by decide)) (Nat.mod_lt _ (by decide))
  have e : block k x = (rounds 32 (words k) 0 (x / W % W) (x % W)).1 * W + (rounds 32 (words k) 0 (x / W % W) (x % W)).2 := rfl
  rw [e]
  rw [W_eq] at *
  have : (2 : Nat) ^ 64 = 4294967296 * 4294967296 := by decide
  rw [this]
  omega
/-! ### the sum -/
def chunk (l : B) (i : Nat) : Nat := num ((l.drop (8 * i)).take 8)
def padOf (n : Nat) : Nat := (8 - n % 8) % 8
def rowOf (m : B) : B := be 8 m.length ++ m ++ List.replicate (padOf m.length) 0
theorem rowOf_length (m : B) : (rowOf m).length = 8 * ((m.length + padOf m.length) / 8 + 1) := by
  unfold rowOf padOf
  rw [List.length_append, List.length_append, be_length, List.length_replicate]
  omega
theorem eights_nil (f : Nat) : eights f [] = [] := by
  cases f with
  | zero => rfl
  | succ f => simp [eights]
theorem eights_chunks : ∀ (c f : Nat) (l : B) (pad : Nat), l.length + pad = 8 * c → pad < 8 → c ≤ f → eights f l = (List.range c).map (chunk (l ++ List.replicate pad 0))
  | 0, f, l, pad, h, _, _ => by
    have : l = [] := List.eq_nil_of_length_eq_zero (by omega)
    subst this
    rw [eights_nil]
    rfl
  | c + 1, 0, l, pad, _, _, hf => by omega
  | c + 1, f + 1, l, pad, h, hp, hf => by
    have hne : l ≠ [] := by
      intro e
      subst e
      simp at h
      omega
    have e0 : eights (f + 1) l = num (l.take 8 ++ List.replicate (8 - (l.take 8).length) 0) :: eights f (l.drop 8) := by
      simp [eights, hne]
    rw [e0, List.range_succ_eq_map, List.map_cons, List.map_map]
    by_cases c8 : 8 ≤ l.length
    · have e1 : chunk (l ++ List.replicate pad 0) 0 = num (l.take 8 ++ List.replicate (8 - (l.take 8).length) 0) := by
        unfold chunk
        rw [Nat.mul_zero, List.drop_zero, List.take_append_of_le_length c8, List.length_take, Nat.min_eq_left c8, Nat.sub_self]
        simp
      have e2 : eights f (l.drop 8) = (List.range c).map (chunk (l.drop 8 ++ List.replicate pad 0)) :=
        eights_chunks c f (l.drop 8) pad (by rw [List.length_drop]; omega) hp (by omega)
      rw [e1, e2]
      congr 1
      apply List.map_congr_left
      intro i _
      show chunk (l.drop 8 ++ List.replicate pad 0) i = chunk (l ++ List.replicate pad 0) (i + 1)
      unfold chunk
      rw [Nat.mul_add, Nat.mul_one, Nat.add_comm (8 * i) 8, ← List.drop_drop, List.drop_append_of_le_length c8]
    · have hc : c = 0 := by omega
      subst hc
      have hl8 : l.take 8 = l := List.take_of_length_le (by omega)
      have hd8 : l.drop 8 = [] := List.drop_eq_nil_of_le (by omega)
      rw [hl8, hd8, eights_nil]
      have e1 : chunk (l ++ List.replicate pad 0) 0 = num (l ++ List.replicate (8 - l.length) 0) := by
        unfold chunk
        have : 8 - l.length = pad := by omega
        rw [Nat.mul_zero, List.drop_zero, this, List.take_of_length_le]
        rw [List.length_append, List.length_replicate]
        omega
      rw [e1]
      rfl
/-- what the loop over eights has behind c turns -/
def sumTo (k m : B) (c : Nat) : Nat := (List.range c).foldl (fun h j => block (key1 k) (h ^^^ chunk (rowOf m) j)) 0
theorem sumTo_succ (k m : B) (c : Nat) : sumTo k m (c + 1) = block (key1 k) (sumTo k m c ^^^ chunk (rowOf m) c) := by
  unfold sumTo
  rw [List.range_succ, List.foldl_append]
  rfl
theorem sumTo_lt (k m : B) (c : Nat) : sumTo k m c < 2 ^ 64 := by
  cases c with
  | zero =>
    show (0 : Nat) < 2 ^ 64
    decide
  | succ c =>
    rw [sumTo_succ]
    exact block_lt _ _
theorem foldl_map' {α β γ : Type} (f : γ → β → γ) (g : α → β) : ∀ (l : List α) (z : γ), (l.map g).foldl f z = l.foldl (fun h x => f h (g x)) z
  | [], _ => rfl
  | x :: r, z => foldl_map' f g r (f z (g x))
theorem sum_eq (k m : B) (hm : m.length < 2 ^ 64) : sumTo k m ((rowOf m).length / 8) = sum k m := by
  have hpad : padOf m.length < 8 := Nat.mod_lt _ (by decide)
  have hd : m.length + padOf m.length = 8 * ((m.length + padOf m.length) / 8) := by
    unfold padOf
    omega
  have e1 : (rowOf m).length / 8 = (m.length + padOf m.length) / 8 + 1 := by
    rw [rowOf_length, Nat.mul_div_cancel_left _ (by decide)]
  have e2 : eights (m.length + 1) m = (List.range ((m.length + padOf m.length) / 8)).map (chunk (m ++ List.replicate (padOf m.length) 0)) :=
    eights_chunks _ _ _ _ hd hpad (by omega)
  have e3 : m.length :: eights (m.length + 1) m = (List.range ((m.length + padOf m.length) / 8 + 1)).map (chunk (rowOf m)) := by
    rw [e2, List.range_succ_eq_map, List.map_cons, List.map_map]
    have c0 : chunk (rowOf m) 0 = m.length := by
      unfold chunk rowOf
      rw [Nat.mul_zero, List.drop_zero, List.append_assoc, List.take_append_of_le_length (by rw [be_length]; exact Nat.le_refl _), List.take_of_length_le (by rw [be_length]; exact Nat.le_refl _)]
      exact num_be 8 _ hm
    rw [c0]
    refine congrArg (List.cons _) (List.map_congr_left fun i _ => ?_)
    show chunk (m ++ List.replicate (padOf m.length) 0) i = chunk (rowOf m) (i + 1)
    unfold chunk rowOf
    rw [Nat.mul_add, Nat.mul_one, Nat.add_comm (8 * i) 8, ← List.drop_drop, List.append_assoc (be 8 m.length), List.drop_append_of_le_length (l₁ := be 8 m.length) (by rw [be_length]; exact Nat.le_refl _)]
    rw [List.drop_of_length_le (l := be 8 m.length) (by rw [be_length]; exact Nat.le_refl _), List.nil_append]
  unfold sum
  rw [e3, foldl_map', e1]
  rfl
/-! ### the stream -/
theorem flat8_drop (f : Nat → B) (hf : ∀ i, (f i).length = 8) : ∀ (c i : Nat), i < c → ((((List.range c).flatMap f).drop (8 * i)).take 8) = f i := by
  intro c
  have gen : ∀ (i : Nat) (l : List Nat) (x : Nat), l[i]? = some x → (((l.flatMap f).drop (8 * i)).take 8) = f x := by
    intro i
    induction i with
    | zero =>
      intro l x h
      cases l with
      | nil => simp at h
      | cons a r =>
        have : a = x := by simpa using h
        subst this
        rw [Nat.mul_zero, List.drop_zero, List.flatMap_cons, List.take_append_of_le_length (by rw [hf]; exact Nat.le_refl _), List.take_of_length_le (by rw [hf]; exact Nat.le_refl _)]
    | succ i ih =>
      intro l x h
      cases l with
      | nil => simp at h
      | cons a r =>
        have h' : r[i]? = some x := by simpa using h
        rw [List.flatMap_cons, Nat.mul_add, Nat.mul_one, Nat.add_comm (8 * i) 8, ← List.drop_drop, List.drop_append_of_le_length (by rw [hf]; exact Nat.le_refl _), List.drop_of_length_le (l := f a) (by rw [hf]; exact Nat.le_refl _), List.nil_append]
        exact ih r x h'
  intro i hi
  exact gen i (List.range c) i (by simp [hi])
theorem flat8_length (f : Nat → B) (hf : ∀ i, (f i).length = 8) (c : Nat) : ((List.range c).flatMap f).length = 8 * c := by
  have gen : ∀ l : List Nat, (l.flatMap f).length = 8 * l.length := by
    intro l
    induction l with
    | nil => rfl
    | cons a r ih =>
      rw [List.flatMap_cons, List.length_append, hf, ih, List.length_cons]
      omega
  rw [gen, List.length_range]
def eightAt (k : B) (tag i : Nat) : B := be 8 (block (key2 k) ((tag + i) % 2 ^ 64))
theorem stream_length (k : B) (tag n : Nat) : (stream k tag n).length = n := by
  unfold stream
  rw [List.length_take, flat8_length _ (fun i => be_length 8 _)]
  omega
theorem veiled_length (k : B) (tag : Nat) (m : B) : (veiled k tag m).length = m.length := by
  unfold veiled
  rw [List.length_zipWith, stream_length, Nat.min_self]
theorem zipWith_take_right {α β γ : Type} (f : α → β → γ) : ∀ (a : List α) (b : List β) (j : Nat), a.length ≤ j → List.zipWith f a (b.take j) = List.zipWith f a b
  | [], b, j, _ => by simp
  | x :: a, [], j, _ => by simp
  | x :: a, y :: b, 0, h => by simp at h
  | x :: a, y :: b, j + 1, h => by
    rw [List.take_succ_cons, List.zipWith_cons_cons, List.zipWith_cons_cons, zipWith_take_right f a b j (by simpa using h)]
theorem veiled_chunk (k : B) (tag : Nat) (m : B) (i : Nat) (hi : 8 * i ≤ m.length) : ((veiled k tag m).drop (8 * i)).take 8 = List.zipWith (fun (a b : Nat) => a ^^^ b) ((m.drop (8 * i)).take 8) (eightAt k tag i) := by
  unfold veiled stream
  rw [List.drop_zipWith, List.take_zipWith, List.drop_take, List.take_take, Nat.min_comm 8, ← List.take_take]
  rw [flat8_drop _ (fun i => be_length 8 _) _ i (by omega)]
  have := zipWith_take_right (fun (a b : Nat) => a ^^^ b) ((m.drop (8 * i)).take 8) (eightAt k tag i) (m.length - 8 * i) (by rw [List.length_take, List.length_drop]; omega)
  exact this
theorem veiled_more (k : B) (tag : Nat) (m : B) (i : Nat) (hi : 8 * i ≤ m.length) : (veiled k tag m).take (8 * (i + 1)) = (veiled k tag m).take (8 * i) ++ List.zipWith (fun (a b : Nat) => a ^^^ b) ((m.drop (8 * i)).take 8) (eightAt k tag i) := by
  rw [Nat.mul_add, Nat.mul_one, List.take_add, veiled_chunk k tag m i hi]
theorem sum_lt (k m : B) (hm : m.length < 2 ^ 64) : sum k m < 2 ^ 64 := by
  rw [← sum_eq k m hm]
  exact sumTo_lt _ _ _
theorem xor_lt {a b n : Nat} (ha : a < 2 ^ n) (hb : b < 2 ^ n) : a ^^^ b < 2 ^ n := Nat.xor_lt_two_pow ha hb
theorem veiled_lt (k : B) (tag : Nat) (m : B) (hm : ∀ b, b ∈ m → b < 256) : ∀ b, b ∈ veiled k tag m → b < 256 := by
  intro b hb
  unfold veiled at hb
  obtain ⟨i, hi, rfl⟩ := List.mem_iff_getElem.mp hb
  have hi2 := hi
  rw [List.length_zipWith] at hi2
  have hm1 : i < m.length := by omega
  have hm2 : i < (stream k tag m.length).length := by omega
  rw [List.getElem_zipWith]
  have h1 := hm _ (List.getElem_mem (l := m) hm1)
  have hs : ∀ x, x ∈ stream k tag m.length → x < 256 := by
    intro x hx
    unfold stream at hx
    obtain ⟨j, _, hj⟩ := List.mem_flatMap.mp (List.mem_of_mem_take hx)
    exact be_lt _ _ _ hj
  have h2 := hs _ (List.getElem_mem (l := stream k tag m.length) hm2)
  exact xor_lt (n := 8) h1 h2
end Th
namespace Th
open PySem PySem.Spec PyProof.Rows L2
/-! ### lists of bytes as values -/
def vb (l : List Nat) : List V := l.map fun (n : Nat) => V.int (n : Int)
theorem vb_length (l : List Nat) : (vb l).length = l.length := List.length_map _
theorem vb_append (a b : List Nat) : vb (a ++ b) = vb a ++ vb b := List.map_append
theorem vb_take (l : List Nat) (n : Nat) : vb (l.take n) = (vb l).take n := List.map_take
theorem vb_drop (l : List Nat) (n : Nat) : vb (l.drop n) = (vb l).drop n := List.map_drop
theorem vb_get {l : List Nat} {i : Nat} {n : Nat} (h : l[i]? = some n) : (vb l)[i]? = some (.int (n : Int)) := by
  unfold vb
  rw [List.getElem?_map, h]
  rfl
theorem vb_at {l : List Nat} {i : Nat} {x : V} (h : (vb l)[i]? = some x) : ∃ n : Nat, l[i]? = some n ∧ x = .int (n : Int) := by
  unfold vb at h
  rw [List.getElem?_map] at h
  cases e : l[i]? with
  | none =>
    rw [e] at h
    cases h
  | some n =>
    rw [e] at h
    exact ⟨n, rfl, (Option.some.inj h).symm⟩
theorem vb_more {l : List Nat} {i : Nat} {n : Nat} (h : l[i]? = some n) : vb (l.take (i + 1)) = vb (l.take i) ++ [.int (n : Int)] := by
  have e : l.take (i + 1) = l.take i ++ [n] := by
    rw [List.take_add_one, h]
    rfl
  rw [e, vb_append]
  rfl
theorem vb_ints (l : List Nat) : vb l = (l.map fun (x : Nat) => (x : Int)).map V.int := by
  unfold vb
  rw [List.map_map]
  rfl
theorem vb_of (l : List Int) (h : ∀ x ∈ l, 0 ≤ x) : l.map V.int = vb (l.map Int.toNat) := by
  unfold vb
  rw [List.map_map]
  refine List.map_congr_left fun x hx => ?_
  show V.int x = V.int ((x.toNat : Nat) : Int)
  rw [Int.toNat_of_nonneg (h x hx)]
theorem vb_inj : ∀ {a b : List Nat}, vb a = vb b → a = b
  | [], [], _ => rfl
  | [], _ :: _, h => by cases h
  | _ :: _, [], h => by cases h
  | x :: a, y :: b, h => by
    have h' : V.int (x : Int) :: vb a = V.int (y : Int) :: vb b := h
    injection h' with h1 h2
    injection h1 with h3
    have e : x = y := by omega
    rw [e, vb_inj h2]
/-- x[a:b] by numbers -/
theorem cut_nat (xs : List V) (a b : Nat) : cutV xs (some (a : Int)) (some (b : Int)) = (xs.drop a).take (b - a) := by
  unfold cutV
  rw [HT.sIx_nat, HT.sIx_nat]
  by_cases h : a ≤ xs.length
  · rw [Nat.min_eq_left h]
    by_cases h2 : b ≤ xs.length
    · rw [Nat.min_eq_left h2]
    · have e1 : (xs.drop a).take (xs.length - a) = xs.drop a := List.take_of_length_le (by rw [List.length_drop]; exact Nat.le_refl _)
      have e2 : (xs.drop a).take (b - a) = xs.drop a := List.take_of_length_le (by rw [List.length_drop]; omega)
      rw [Nat.min_eq_right (by omega : xs.length ≤ b), e1, e2]
  · have e1 : xs.drop a = [] := List.drop_of_length_le (by omega)
    have e2 : xs.drop xs.length = [] := List.drop_of_length_le (Nat.le_refl _)
    rw [Nat.min_eq_right (by omega : xs.length ≤ a), e1, e2, List.take_nil, List.take_nil]
theorem cut_to (xs : List V) (b : Nat) : cutV xs none (some (b : Int)) = xs.take b := by
  unfold cutV
  rw [HT.sIx_nat, HT.sIx_none, List.drop_zero, Nat.sub_zero]
  by_cases h2 : b ≤ xs.length
  · rw [Nat.min_eq_left h2]
  · have e1 : xs.take xs.length = xs := List.take_length
    have e2 : xs.take b = xs := List.take_of_length_le (by omega)
    rw [Nat.min_eq_right (by omega : xs.length ≤ b), e1, e2]
theorem cut_from (xs : List V) (a : Nat) : cutV xs (some (a : Int)) none = xs.drop a := by
  unfold cutV
  rw [HT.sIx_nat, HT.sIx_none]
  by_cases h : a ≤ xs.length
  · have e1 : (xs.drop a).take (xs.length - a) = xs.drop a := List.take_of_length_le (by rw [List.length_drop]; exact Nat.le_refl _)
    rw [Nat.min_eq_left h, e1]
  · have e1 : xs.drop a = [] := List.drop_of_length_le (by omega)
    have e2 : xs.drop xs.length = [] := List.drop_of_length_le (Nat.le_refl _)
    rw [Nat.min_eq_right (by omega : xs.length ≤ a), e1, e2, List.take_nil]
/-- x[a:a + n] of bytes -/
theorem cut_vb (l : List Nat) {u v : Int} {a n : Nat} (hu : u = (a : Int)) (hv : v = ((a + n : Nat) : Int)) : cutV (vb l) (some u) (some v) = vb ((l.drop a).take n) := by
  have e : a + n - a = n := by omega
  rw [hu, hv, cut_nat, e, vb_take, vb_drop]
theorem fits (x : Int) (h1 : -1000000 ≤ x) (h2 : x ≤ 1000000) : Builtin.Range.rangeFitsLong x = true := by
  have e1 : (-(2 ^ 63) : Int) = -9223372036854775808 := by decide
  have e2 : (2 ^ 63 : Int) = 9223372036854775808 := by decide
  have e : Builtin.Range.rangeFitsLong x = (decide (-(2 ^ 63) ≤ x) && decide (x < 2 ^ 63)) := rfl
  rw [e, e1, e2, decide_eq_true (show (-9223372036854775808 : Int) ≤ x by omega), decide_eq_true (show x < (9223372036854775808 : Int) by omega)]
  rfl
/-- range(0, 8 * c, 8) -/
theorem rg8 (n c : Nat) (h : n = 8 * c ∨ (n < 8 * c ∧ 8 * c < n + 8)) (hn : n ≤ 100000) : RgC 0 (n : Int) 8 c := by
  have hs : Builtin.Range.rangeSize 0 (n : Int) 8 = (c : Int) := by
    unfold Builtin.Range.rangeSize
    rw [if_pos (by decide)]
    by_cases h0 : (0 : Int) < (n : Int)
    · rw [if_pos h0]
      omega
    · rw [if_neg h0]
      omega
  refine ⟨by decide, by decide, ?_, hs⟩
  unfold Builtin.Range.small
  rw [hs, fits (n : Int) (by omega) (by omega), fits (c : Int) (by omega) (by omega), if_pos (by decide), fits ((n : Int) + (8 - 1)) (by omega) (by omega), Bool.or_true]
  decide
/-! ### numbers -/
theorem i_xor (a b : Nat) : Builtin.bitXor (a : Int) (b : Int) = ((a ^^^ b : Nat) : Int) := by
  rw [Bits.bitXor_pp (Int.natCast_nonneg a) (Int.natCast_nonneg b), Int.toNat_natCast, Int.toNat_natCast]
theorem i_and (a b : Nat) : Builtin.bitAnd (a : Int) (b : Int) = ((a &&& b : Nat) : Int) := PySem.W.os_band a b
theorem i_mod (a b : Nat) (h : 0 < b) : Int.fmod (a : Int) (b : Int) = ((a % b : Nat) : Int) := PySem.W.os_fmod_nat a b h
theorem i_div (a b : Nat) (h : 0 < b) : Int.fdiv (a : Int) (b : Int) = ((a / b : Nat) : Int) := PySem.W.os_fdiv_nat a b h
theorem i_shr (a k : Nat) : (a : Int) / 2 ^ ((k : Int)).toNat = ((a / 2 ^ k : Nat) : Int) := by
  rw [Int.toNat_natCast, Int.natCast_ediv, Int.natCast_pow]
  rfl
theorem i_shl (a k : Nat) : (a : Int) * 2 ^ ((k : Int)).toNat = ((a * 2 ^ k : Nat) : Int) := by
  rw [Int.toNat_natCast, Int.natCast_mul, Int.natCast_pow]
  rfl
theorem and_255 (a : Nat) : a &&& 255 = a % 256 := Nat.and_two_pow_sub_one_eq_mod a 8
/-! ### heaps -/
theorem same_upd {H : Hp} {p : Addr} {o : HO} (h : H p = none) : Same H (upd H p o) := fun b x e => by
  rw [upd_ne (ne_of_none e h)]
  exact e
/-- one step more: a new object -/
theorem same_new {H H' : Hp} {p : Addr} {o : HO} (s : Same H H') (h : H' p = none) : Same H (upd H' p o) := s.trans (same_upd h)
/-- one step more: an object that is new over H is written -/
theorem same_set {H H' : Hp} {p : Addr} {o : HO} (s : Same H H') (h : H p = none) : Same H (upd H' p o) := fun b x e => by
  rw [upd_ne (ne_of_none e h)]
  exact s b x e
theorem gen_new {H H' : Hp} {p : Addr} {o : HO} (e : upd H p o = H') (h : H p = none) : Same H H' ∧ H' p = some o := by
  subst e
  exact ⟨same_upd h, upd_same⟩
theorem Same.tup {K : PySem.W.Frag} {H H' : Hp} {a : Addr} {xs : List V} (e : Same H H') (h : SqT K H a xs) : SqT K H' a xs := by
  rcases h with (h | ⟨o, h⟩) | h
  · exact .inl (.inl (e _ _ h))
  · exact .inl (.inr ⟨o, e _ _ h⟩)
  · exact .inr h
def SqA (K : PySem.W.Frag) (H : Hp) (a : Addr) (xs : List V) : Prop := SqL K H a xs ∨ SqT K H a xs
theorem Same.any {K : PySem.W.Frag} {H H' : Hp} {a : Addr} {xs : List V} (e : Same H H') (h : SqA K H a xs) : SqA K H' a xs := by
  rcases h with h | h
  · exact .inl (e.seq h)
  · exact .inr (Same.tup e h)
theorem lst_of {K : PySem.W.Frag} {H : Hp} {a : Addr} {xs : List V} (h : H a = some (.lst xs)) : SqL K H a xs := .inl (.inl h)
theorem tup_of {K : PySem.W.Frag} {H : Hp} {a : Addr} {xs : List V} (h : H a = some (.tup xs)) : SqT K H a xs := .inl (.inl h)
/-- a new list comes out -/
def outL (H : Hp) (Q : VK) (l : List Nat) : Prop := ∀ H' p, Same H H' → H p = none → H' p = some (.lst (vb l)) → Q (.ref p) H'
/-- a value comes out, what was tracked stands -/
def outV (H : Hp) (Q : VK) (v : V) : Prop := ∀ H', Same H H' → Q v H'
theorem le_line {n : Nat} (h : n ≤ 100000) : n ≤ sizeLine := Nat.le_trans h (by decide)
theorem lt_line {n : Nat} (h : n ≤ 100000) : n < sizeLine := Nat.lt_of_le_of_lt h (by decide)
/-! ### truth values by parts -/
theorem ev_and {ta tb : TE} {σ : L2.St} {H : Hp} {a b : Bool} (h1 : ∀ Q : VK, Q (.bl a) H → ta σ H Q) (h2 : ∀ Q : VK, Q (.bl b) H → tb σ H Q) : ∀ Q : VK, Q (.bl (a && b)) H → tAndV ta tb σ H Q := by
  intro Q q
  refine h1 _ ⟨a, rfl, ?_⟩
  cases a with
  | true => exact iteT (h2 Q q)
  | false => exact iteF q
theorem ev_or {ta tb : TE} {σ : L2.St} {H : Hp} {a b : Bool} (h1 : ∀ Q : VK, Q (.bl a) H → ta σ H Q) (h2 : ∀ Q : VK, Q (.bl b) H → tb σ H Q) : ∀ Q : VK, Q (.bl (a || b)) H → tOrV ta tb σ H Q := by
  intro Q q
  refine h1 _ ⟨a, rfl, ?_⟩
  cases a with
  | true => exact iteT q
  | false => exact iteF (h2 Q q)
theorem ifB {c : Bool} {A B : Prop} (h1 : c = true → A) (h2 : c = false → B) : if c = true then A else B := by
  cases c with
  | true => exact iteT (h1 rfl)
  | false => exact iteF (h2 rfl)
/-! ### the module's constants, its defs -/
def Glo (mg : Str → Option Value) (x : Str) (v : V) : Prop := ∃ u, mg x = some u ∧ RelV v u
theorem pe_gv {X : Cx} {x : Str} {v : V} {pos : Pos} (h : Glo X.mg x v) (hg : Gl X x := by rfl) (hd : (x == ("__debug__" : Str)) = false := by decide) : PE X (.Name x pos) (tC v) := by
  obtain ⟨u, hm, r⟩ := h
  exact pe_glob hg hm r hd
/-- a def of the module by its name: its promise, where it stands, how its arguments bind -/
structure Df (P : Program) (w : World) (K : PySem.W.Frag) (mg : Str → Option Value) (base : Heap) (CX : CXT) (k : Nat) (x : Str) (ps : List Str) (sp : Sp) : Prop where
  ex : ∃ f fd, FnOk P w K mg base CX k f fd ps sp ∧ mg x = some (.ref f) ∧ PySem.W.keepIn K (.ref f) = true ∧ Binds K fd ps []
theorem pe_callD {X : Cx} {CX : CXT} {k : Nat} {x : Str} {ps : List Str} {sp : Sp} {E : XK} {e : Expr} {es : List Expr} {t : TA} {p pos : Pos} (D : Df X.prog X.w X.K X.mg X.base CX k x ps sp) (hr : Room k X.A) (hx : Passes CX X E) (ha : PA X (e :: es) t) (hg : Gl X x := by rfl)
    (hs : starEach (e :: es) X.env = (false, eval e X.env) :: starEach es X.env := by rfl) (hpl : (backTo pos (starEach es X.env)).any (·.1) = false := by rfl) (hdb : (x == ("__debug__" : Str)) = false := by decide) :
    PE X (.Call (.Name x p) (e :: es) [] pos) (tCall sp [] E t) := by
  obtain ⟨f, fd, F, hm, hk, hb⟩ := D.ex
  exact pe_call F hr hg hm hk hb .nil hx ha hdb hs hpl
end Th
namespace Th
open PySem PySem.Spec PyProof.Rows L2
/-! ### objects, errors -/
/-- all but the object at a stands -/
def KeepB (H H' : Hp) (a : Addr) : Prop := ∀ b o, b ≠ a → H b = some o → H' b = some o
theorem KeepB.refl (H : Hp) (a : Addr) : KeepB H H a := fun _ _ _ h => h
theorem KeepB.trans {H H1 H2 : Hp} {a : Addr} (x : KeepB H H1 a) (y : KeepB H1 H2 a) : KeepB H H2 a := fun b o n h => y b o n (x b o n h)
theorem KeepB.of {H H1 : Hp} {a : Addr} (s : Same H H1) : KeepB H H1 a := fun b o _ h => s b o h
theorem keepB_set {H : Hp} {a : Addr} {o : HO} : KeepB H (upd H a o) a := fun b u n h => by
  rw [upd_ne n]
  exact h
theorem KeepB.same {H0 H H' : Hp} {a : Addr} (s : Same H0 H) (k : KeepB H H' a) (n : H0 a = none) : Same H0 H' := fun b o h => k b o (ne_of_none h n) (s b o h)
theorem KeepB.seq {K : PySem.W.Frag} {H H' : Hp} {a b : Addr} {xs : List V} (k : KeepB H H' a) (hn : ∀ ys, H a ≠ some (.lst ys)) (hf : ∀ o u, H a ≠ some (.frz o u)) (h : SqL K H b xs) : SqL K H' b xs := by
  rcases h with (h | ⟨o, h⟩) | h
  · exact .inl (.inl (k _ _ (fun e => by rw [e] at h; exact hn _ h) h))
  · exact .inl (.inr ⟨o, k _ _ (fun e => by rw [e] at h; exact hf _ _ h) h⟩)
  · exact .inr h
theorem lk_here {k : Str} {v : V} {r : List (Str × V)} : List.lookup k ((k, v) :: r) = some v := by
  have e : (k == k) = true := beq_self_eq_true k
  simp only [List.lookup, e]
theorem lk_past {k g : Str} {v : V} {r : List (Str × V)} (h : (k == g) = false) : List.lookup k ((g, v) :: r) = List.lookup k r := by
  simp only [List.lookup, h]
theorem put_here {f : Str} {v x : V} {r : List (Str × V)} : putF f v ((f, x) :: r) = (f, v) :: r := if_pos rfl
theorem put_past {f g : Str} {v x : V} {r : List (Str × V)} (h : ¬ g = f) : putF f v ((g, x) :: r) = (g, x) :: putF f v r := if_neg h
/-- an error of the class at S is what «except S» names -/
theorem exm_self {K : PySem.W.Frag} {S : Addr} (h1 : PySem.W.subIn K (.ref S) (.type "BaseException") = some true) (h2 : PySem.W.isClsIn K S = true) (h3 : PySem.W.typeIn K (.ref S) = some (.type "type")) (h4 : PySem.W.subIn K (.ref S) (.ref S) = some true) :
    PySem.W.exmOne K (.ref S) (.ref S) = some true := by
  have e1 : (PySem.W.subIn K (.ref S) (.type "BaseException") == some true) = true := by rw [h1] <;> rfl
  have e2 : ((PySem.W.clsIn K S).isSome && PySem.W.typeIn K (.ref S) == some (.type "type")) = true := by
    have h2' : (PySem.W.clsIn K S).isSome = true := h2
    rw [h2', h3] <;> rfl
  show (if (PySem.W.subIn K (.ref S) (.type "BaseException") == some true) = true then (if ((PySem.W.clsIn K S).isSome && PySem.W.typeIn K (.ref S) == some (.type "type")) = true then PySem.W.subIn K (.ref S) (.ref S) else none) else none) = some true
  rw [if_pos e1, if_pos e2]
  exact h4
/-- an error of the class at A, asked by «except S» -/
theorem exm_any {K : PySem.W.Frag} {A S : Addr} {b : Bool} (h1 : PySem.W.subIn K (.ref S) (.type "BaseException") = some true) (h2 : PySem.W.isClsIn K S = true) (h3 : PySem.W.typeIn K (.ref S) = some (.type "type")) (h4 : PySem.W.subIn K (.ref A) (.ref S) = some b) :
    PySem.W.exmOne K (.ref A) (.ref S) = some b := by
  have e1 : (PySem.W.subIn K (.ref S) (.type "BaseException") == some true) = true := by rw [h1] <;> rfl
  have e2 : ((PySem.W.clsIn K S).isSome && PySem.W.typeIn K (.ref S) == some (.type "type")) = true := by
    have h2' : (PySem.W.clsIn K S).isSome = true := h2
    rw [h2', h3] <;> rfl
  show (if (PySem.W.subIn K (.ref S) (.type "BaseException") == some true) = true then (if ((PySem.W.clsIn K S).isSome && PySem.W.typeIn K (.ref S) == some (.type "type")) = true then PySem.W.subIn K (.ref A) (.ref S) else none) else none) = some b
  rw [if_pos e1, if_pos e2]
  exact h4
/-- what the def's own wish of errors takes -/
theorem passX {P : Program} {w : World} {K : PySem.W.Frag} {mg : Str → Option Value} {base : Heap} {N : List Str} {qual : Str} {scope : Scope} {f : Addr} {cd : Value} {A : Around} {outer : List Env} {s : Shared} {H : Hp} {E : XK} :
    Passes (L2.CX P w) (cxOf (L2.CX P w) P w K mg base N qual scope f cd A outer s H E) E := passes_call (takes_of rfl rfl rfl rfl) fun _ _ _ _ h => h
/-- in a try's body: what holds at any slots -/
def WA (W : WX) : XK := fun cls d H => ∀ σ : L2.St, W cls d σ H
theorem passW {X : Cx} {W : WX} (tk : Takes X W) : Passes (L2.CX X.prog X.w) X (WA W) := passes_call tk fun _ _ σ _ h => h σ
/-- a def by its name and address -/
structure DfA (P : Program) (w : World) (K : PySem.W.Frag) (mg : Str → Option Value) (base : Heap) (CX : CXT) (k : Nat) (x : Str) (ps : List Str) (sp : Sp) (f : Addr) : Prop where
  ex : ∃ fd, FnOk P w K mg base CX k f fd ps sp ∧ mg x = some (.ref f) ∧ PySem.W.keepIn K (.ref f) = true ∧ Binds K fd ps []
theorem DfA.df {P : Program} {w : World} {K : PySem.W.Frag} {mg : Str → Option Value} {base : Heap} {CX : CXT} {k : Nat} {x : Str} {ps : List Str} {sp : Sp} {f : Addr} (D : DfA P w K mg base CX k x ps sp f) : Df P w K mg base CX k x ps sp := by
  obtain ⟨fd, h⟩ := D.ex
  exact ⟨f, fd, h⟩
/-- the def as a value -/
theorem pe_fn {X : Cx} {CX : CXT} {k : Nat} {x : Str} {ps : List Str} {sp : Sp} {f : Addr} {pos : Pos} (D : DfA X.prog X.w X.K X.mg X.base CX k x ps sp f) (hg : Gl X x := by rfl) (hd : (x == ("__debug__" : Str)) = false := by decide) : PE X (.Name x pos) (tC (.ref f)) := by
  obtain ⟨fd, _, hm, _⟩ := D.ex
  exact pe_glob hg hm rfl hd
/-- a method of the class at C -/
structure Mt (P : Program) (w : World) (K : PySem.W.Frag) (mg : Str → Option Value) (base : Heap) (CX : CXT) (k : Nat) (C : Addr) (m : Str) (ps : List Str) (sp : Sp) : Prop where
  ex : ∃ f fd, FnOk P w K mg base CX k f fd ps sp ∧ Meth K C m f ∧ Binds K fd ps []
section
variable {X : Cx} {CX : CXT} {k : Nat} {C : Addr} {m : Str} {ps : List Str} {sp : Sp} {E : XK} {o e : Expr} {es : List Expr} {ta : TE} {t : TA} {pos apos p : Pos} {x : Str}
theorem pe_methD {pl : Sem Bool} (M : Mt X.prog X.w X.K X.mg X.base CX k C m ps sp) (he : PE X o ta) (c : Cls X.K C) (hr : Room k X.A) (hx : Passes CX X E) (ha : PA X (e :: es) t)
    (hst : starEach (e :: es) X.env = (false, eval e X.env) :: starEach es X.env := by rfl) (hpl : (backTo pos (starEach es X.env)).any (·.1) = false := by rfl)
    (ht : eval (.Call (.Attribute o m apos) (e :: es) [] pos) X.env = (do
      let ov ← eval o X.env
      standAt apos.atName
      let (f, first) ← holding [ov] (getMethod ov m pl)
      callWith pos f first (backTo pos (starEach (e :: es) X.env)) (backToKw pos (keywordEach [] X.env))) := by rfl) :
    PE X (.Call (.Attribute o m apos) (e :: es) [] pos) (tMeth C m sp [] E ta t) := by
  obtain ⟨f, fd, F, hm, hb⟩ := M.ex
  exact pe_meth he c hm F hr hb .nil hx ha hst hpl ht
theorem pe_meth0D {pl : Sem Bool} (M : Mt X.prog X.w X.K X.mg X.base CX k C m ps sp) (he : PE X o ta) (c : Cls X.K C) (hr : Room k X.A) (hx : Passes CX X E)
    (ht : eval (.Call (.Attribute o m apos) [] [] pos) X.env = (do
      let ov ← eval o X.env
      standAt apos.atName
      let (f, first) ← holding [ov] (getMethod ov m pl)
      callWith pos f first (backTo pos (starEach [] X.env)) (backToKw pos (keywordEach [] X.env))) := by rfl) :
    PE X (.Call (.Attribute o m apos) [] [] pos) (tMeth C m sp [] E ta tNil) := by
  obtain ⟨f, fd, F, hm, hb⟩ := M.ex
  exact pe_meth0 he c hm F hr hb .nil hx ht
end
/-- an own error with its own __init__ -/
structure Cr (P : Program) (w : World) (K : PySem.W.Frag) (mg : Str → Option Value) (base : Heap) (CX : CXT) (k : Nat) (x : Str) (C : Addr) (ps : List Str) (sp : Sp) : Prop where
  ex : ∃ f fd, FnOk P w K mg base CX k f fd ps sp ∧ PySem.W.findIn K (.ref C) "__init__" = some (some (.ref f)) ∧ PySem.W.typeIn K (.ref f) = some (.type "function") ∧ Binds K fd ps []
/-- a class that is made by its own __init__ -/
structure Cn (P : Program) (w : World) (K : PySem.W.Frag) (mg : Str → Option Value) (base : Heap) (CX : CXT) (k : Nat) (x : Str) (C : Addr) (ps : List Str) (sp : Sp) : Prop where
  ex : ∃ f fd, FnOk P w K mg base CX k f fd ps sp ∧ Mk K C f ∧ Binds K fd ps [] ∧ mg x = some (.ref C)
section
variable {X : Cx} {CX : CXT} {k : Nat} {C : Addr} {ps : List Str} {sp : Sp} {E : XK} {e : Expr} {es : List Expr} {t : TA} {pos p : Pos} {x : Str}
theorem pe_makeD (M : Cn X.prog X.w X.K X.mg X.base CX k x C ps sp) (hr : Room (k + 1) X.A) (hx : Passes CX X E) (ha : PA X (e :: es) t) (hg : Gl X x := by rfl)
    (hdb : (x == ("__debug__" : Str)) = false := by decide) (he : starEach (e :: es) X.env = (false, eval e X.env) :: starEach es X.env := by rfl) (hpl : (backTo pos (starEach es X.env)).any (·.1) = false := by rfl) :
    PE X (.Call (.Name x p) (e :: es) [] pos) (tMake C sp [] E t) := by
  obtain ⟨f, fd, F, hm, hb, gC⟩ := M.ex
  exact pe_make hm F hr hg gC hb .nil hx ha hdb he hpl
theorem pe_make0D (M : Cn X.prog X.w X.K X.mg X.base CX k x C ps sp) (hr : Room (k + 1) X.A) (hx : Passes CX X E) (hg : Gl X x := by rfl) (hdb : (x == ("__debug__" : Str)) = false := by decide) : PE X (.Call (.Name x p) [] [] pos) (tMake C sp [] E tNil) := by
  obtain ⟨f, fd, F, hm, hb, gC⟩ := M.ex
  exact pe_make0 hm F hr hg gC hb .nil hx hdb
end
end Th
namespace Th
open PySem PySem.Spec PyProof.Rows L2
/-! ### == of lists of bytes -/
def dB (l : List Nat) : List PyData := l.map fun (n : Nat) => PyData.int (n : Int)
theorem dp_all {K : PySem.W.Frag} {H : Hp} : ∀ l : List Nat, DpAll K H (vb l) (dB l)
  | [] => .nil
  | n :: r => .cons (.int (n : Int)) (dp_all r)
theorem eqv_all : ∀ a b : List Nat, PyData.eqvAll (dB a) (dB b) = decide (a = b)
  | [], [] => by simp [dB, PyData.eqvAll]
  | [], _ :: _ => by simp [dB, PyData.eqvAll]
  | _ :: _, [] => by simp [dB, PyData.eqvAll]
  | x :: a, y :: b => by
    have ih := eqv_all a b
    have e : PyData.eqvAll (dB (x :: a)) (dB (y :: b)) = (((x : Int) == (y : Int)) && PyData.eqvAll (dB a) (dB b)) := by
      simp only [dB, List.map_cons, PyData.eqvAll, PyData.eqv]
    rw [e, ih, Bool.eq_iff_iff, Bool.and_eq_true, beq_iff_eq, decide_eq_true_iff, decide_eq_true_iff, List.cons.injEq]
    exact ⟨fun h => ⟨by have := h.1; omega, h.2⟩, fun h => ⟨by have := h.1; omega, h.2⟩⟩
theorem canLay_all : ∀ l : List Nat, PyData.canLayAll0 (dB l) = true
  | [] => by simp [dB, PyData.canLayAll0]
  | x :: r => by
    have ih := canLay_all r
    have e : PyData.canLayAll0 (dB (x :: r)) = PyData.canLayAll0 (dB r) := by
      simp only [dB, List.map_cons, PyData.canLayAll0, PyData.canLay0, Bool.true_and]
    rw [e, ih]
theorem depth_all : ∀ l : List Nat, PyData.depthAll (dB l) = 0
  | [] => by simp [dB, PyData.depthAll]
  | x :: r => by
    have ih := depth_all r
    have e : PyData.depthAll (dB (x :: r)) = max 0 (PyData.depthAll (dB r)) := by
      simp only [dB, List.map_cons, PyData.depthAll, PyData.depth]
    rw [e, ih]
    rfl
theorem shaped_list (l : List Nat) : SeqAt.shaped (.list (dB l)) = true := by
  have e1 : PyData.canLay0 (.list (dB l)) = PyData.canLayAll0 (dB l) := by simp only [PyData.canLay0]
  have e2 : PyData.depth (.list (dB l)) = PyData.depthAll (dB l) + 1 := by simp only [PyData.depth]
  unfold SeqAt.shaped
  rw [e1, e2, canLay_all, depth_all]
  decide
theorem shaped_tup (l : List Nat) : SeqAt.shaped (.tuple (dB l)) = true := by
  have e1 : PyData.canLay0 (.tuple (dB l)) = PyData.canLayAll0 (dB l) := by simp only [PyData.canLay0]
  have e2 : PyData.depth (.tuple (dB l)) = PyData.depthAll (dB l) + 1 := by simp only [PyData.depth]
  unfold SeqAt.shaped
  rw [e1, e2, canLay_all, depth_all]
  decide
theorem eqv_list (a b : List Nat) : PyData.eqv (.list (dB a)) (.list (dB b)) = decide (a = b) := by
  rw [← eqv_all]
  simp only [PyData.eqv]
theorem eqv_tup (a b : List Nat) : PyData.eqv (.tuple (dB a)) (.tuple (dB b)) = decide (a = b) := by
  rw [← eqv_all]
  simp only [PyData.eqv]
end Th
namespace Th
open PySem PySem.Spec PyProof.Rows L2
/-! ### a try with clauses of both kinds, «except X» and «except X as n» -/
abbrev Clause := Value × Option Nat × (Addr → Value → Option Addr → TS)
/-- what stands behind a suite whose name goes -/
def Gone (D : Ends) (i : Nat) : Ends := { nx := fun σ' H' => D.nx (σ'.set i none) H', rt := D.rt, bk := fun σ' H' => D.bk (σ'.set i none) H', ct := fun σ' H' => D.ct (σ'.set i none) H' }
/-- what the clauses wish of an exception of the body, one after the other -/
def wMix (K : PySem.W.Frag) (Wout : WX) (D : Ends) : List Clause → WX
  | [] => Wout
  | (c, none, ts) :: r => fun cls d σ H => ∃ b, PySem.W.exmOne K cls c = some b ∧ (b = true → ∀ a, H a = none → ts a cls d D σ H) ∧ (b = false → wMix K Wout D r cls d σ H)
  | (c, some i, ts) :: r => fun cls d σ H => ∃ b, PySem.W.exmOne K cls c = some b ∧ (b = true → ∀ a, H a = none → ts a cls d (Gone D i) (σ.set i (some (.ref a))) H) ∧ (b = false → wMix K Wout D r cls d σ H)
inductive HdsMix (X : Cx) : List ExceptHandler → List Clause → Prop
  | nil : HdsMix X [] []
  | cons {x : Str} {c : Value} {ts : Addr → Value → Option Addr → TS} {b₀ : Stmt} {suite : List Stmt} {np pos' : Pos} {hds : List ExceptHandler} {l : List Clause} (hc : Names X x c)
      (hsu : ∀ (a : Addr) (oe : Obj) (cls : Value) (d : Option Addr) (pn : List (Addr × Obj)), Zc cls d oe → (∃ vs, oe.data = .fields vs) → PSs (X.suite a ((a, oe) :: pn)) (b₀ :: suite) (ts a cls d)) (r : HdsMix X hds l) :
      HdsMix X (.ExceptHandler (some (.Name x np)) none (b₀ :: suite) pos' :: hds) ((c, none, ts) :: l)
  | as {x n : Str} {i : Nat} {c : Value} {ts : Addr → Value → Option Addr → TS} {b₀ : Stmt} {suite : List Stmt} {np pos' : Pos} {hds : List ExceptHandler} {l : List Clause} (hN : X.N.Nodup) (hi : X.N[i]? = some n) (hln : X.env.kindOf n = some .local) (hc : Names X x c)
      (hsu : ∀ (a : Addr) (oe : Obj) (cls : Value) (d : Option Addr) (pn : List (Addr × Obj)), Zc cls d oe → (∃ vs, oe.data = .fields vs) → PSs (X.suite a ((a, oe) :: pn)) (b₀ :: suite) (ts a cls d)) (r : HdsMix X hds l) :
      HdsMix X (.ExceptHandler (some (.Name x np)) (some n) (b₀ :: suite) pos' :: hds) ((c, some i, ts) :: l)
section
variable {X : Cx} {body : List Stmt} {h₀ : ExceptHandler} {hds : List ExceptHandler} {l : List Clause} {pos : Pos} {tb : WX → TS} {Wout : WX}
theorem ps_try_mix (hs : X.stack = X.env :: X.outer) (hf : X.env.frame = some X.env.locals) (tk : Takes X Wout)
    (hb : ∀ (W : WX) (pn : List (Addr × Obj)) (xe : Value → Shared → Prop), Takes (X.tr pn xe) W → PassesOwn (model X.prog X.w) X.A X.env xe → PSs (X.tr pn xe) body (tb W))
    (hh : HdsMix X (h₀ :: hds) l) : PS X (.Try body (h₀ :: hds) [] [] pos) (fun D σ H => tb (wMix X.K Wout D l) D σ H) := by
  refine ⟨fun pins s σ H D I h => ?_⟩
  have ok := I.ok
  have hfr : X.A.frames = some (X.env :: X.outer) := by rw [ok.frames, hs]
  refine wpAny_Try_except ?_
  refine wpAny_mono ((hb (wMix X.K Wout D l) (X.pn ++ pins) (fun e s₁ => wpAny (model X.prog X.w) X.A (noteFrame e X.env) (fun _ s₂ => wpAny (model X.prog X.w) X.A (setFlight e none) (fun _ s₃ =>
    wpAny (model X.prog X.w) X.A (handleBy e X.env (h₀ :: hds)) (SP X pins D) X.xe s₃) X.xe s₂) X.xe s₁) (fun u s' xx => ?_) PassesOwn.looking).run [] s σ H D (I.toTry _) h) (fun f s1 hsp => ?_) (fun e s1 he => he)
  · obtain ⟨a, B, sI, pins', σ', H', cls, d, rfl, J', nb, up, sky, na, os, ag, w⟩ := xx
    have J : Inv X pins σ' H' sI := J'.ofTry ok
    have sky' : Sky B (X.env :: X.outer) a (Zc cls d) X.env.locals s'.heap := by rw [← hs]; exact sky
    show wpAny (model X.prog X.w) X.A (noteFrame (.ref a) X.env) _ _ _
    refine Sky.land Zc.steady hfr hf sky' fun h3 fl3 up3 => ?_
    have J3 : Inv X pins σ' H' { s' with heap := h3 } := J.landed nb fl3.1 (up.trans up3) os ag
    obtain ⟨oe3, vs3, he3, hz3, hd3⟩ := fl3.there
    have notFr : ∀ {h : Heap} {o : Obj} {vs : Array Value}, h.FunFrames B (X.env :: X.outer) → h.get? a = some o → o.data = .fields vs → a ∉ frs (X.env :: X.outer) := fun {h o vs} ff e dd hm => by
      obtain ⟨_, o', e', hnf⟩ := ff.mem hm
      rw [e] at e'; cases e'
      exact hnf _ dd
    have nfr := notFr fl3.2.2.1 he3 hd3
    have nL : a ≠ X.env.locals := fun z => nfr (List.mem_filterMap.mpr ⟨X.env, List.mem_cons_self, by rw [hf, z]⟩)
    have nF : a ∉ X.fs := fun hm => by
      obtain ⟨e, he, q⟩ := List.mem_filterMap.mp hm
      exact nfr (List.mem_filterMap.mpr ⟨e, List.mem_cons_of_mem _ he, q⟩)
    have S3 := J3.suite he3 hd3 na nL nF
    have LT : PySem.W.Looks (model X.prog X.w) h3 (typeOf (.ref a)) cls := fun A Q E s k q => wpAny_typeOf_ref (k _ _ he3) (by rw [hz3.1]; exact q)
    have test : ∀ {x : Str} {np : Pos} {c : Value}, Names X x c → ∀ {Q : Value → Shared → Prop} {E : Value → Shared → Prop}, Q c { s' with heap := h3 } → wpAny (model X.prog X.w) (X.A.mark (some (.ref a))) (eval (.Name x np) X.env) Q E { s' with heap := h3 } := fun {x np c} hc {Q E} q => by
      obtain ⟨hg, hdbg, hm | ⟨hm, hv, hnn⟩⟩ := hc
      · exact ld_glob (X := X.suite a ((a, oe3) :: (X.pn ++ pins))) S3 hg hm q hdbg
      · exact ld_blt (X := X.suite a ((a, oe3) :: (X.pn ++ pins))) S3 hg hm hv q hnn hdbg
    have go : ∀ {hds' : List ExceptHandler} {l' : List Clause}, HdsMix X hds' l' → wMix X.K Wout D l' cls d σ' H' →
        wpAny (model X.prog X.w) X.A (handleBy (.ref a) X.env hds') (SP X pins D) X.xe { s' with heap := h3 } := by
      intro hds' l' hk
      induction hk with
      | nil =>
        intro w
        refine wpAny_handleBy_nil ?_
        obtain ⟨k1, k2, k3, oe, vs, T, oT, ts', he, hz, hd, h1, hr⟩ := id fl3
        unfold PySem.passOn
        refine wpAny_bind (wpAny_field he hd h1 ?_)
        rw [if_neg (show ¬ ((Value.ref T == Value.none) = true) from by simp)]
        have fin : wpAny (model X.prog X.w) X.A (setFlight (.ref a) X.env.frame) (fun _ s4 => wpAny (model X.prog X.w) X.A (throw (.ref a) : Sem Flow) (SP X pins D) X.xe s4) X.xe { s' with heap := h3 } := by
          rw [hf]
          refine HandSPX.setFlight_upZ fl3 fun h4 hh4 up4 => wpAny_throw (tk _ _ ?_)
          exact ⟨a, B, sI, pins, σ', H', cls, d, rfl, J, nb, (up.trans up3).trans up4, .inr (.inr (by rw [hs]; exact hh4)), na, os, ag, w⟩
        first
          | exact wpAny_bind (wpAny_pure (wpAny_bind fin))
          | exact wpAny_bind fin
      | @cons x c ts b₀ suite np pos' hds2 l2 hc hsu r ih =>
        intro w
        obtain ⟨b, hb1, hyes, hno⟩ := w
        refine wpAny_handleBy_cons (codeAny_handlers_test ?_) (by intro q; cases q)
        have LM := PySem.W.exm_one (M := model X.prog X.w) (J3.kIn) LT hb1
        refine test hc (LM.here ?_)
        cases b with
        | true =>
          refine codeAny_handlers_suite ?_
          refine HandSPX.lands_againZ fl3 fun h4 fl4 up4 => ?_
          have J4 : Inv X pins σ' H' { s' with heap := h4 } := J.landed nb fl4.1 ((up.trans up3).trans up4) os ag
          obtain ⟨oe4, vs4, he4, hz4, hd4⟩ := fl4.there
          have S4 := J4.suite he4 hd4 na nL nF
          refine wpAny_mono ((hsu a oe4 cls d (X.pn ++ pins) hz4 ⟨_, hd4⟩).run [] _ _ H' _ S4 (hyes rfl a na)) (fun f s6 hsp => ?_) (fun _ _ z => False.elim z)
          cases f with
          | next =>
            obtain ⟨σ6, H6, S6, q6⟩ := hsp
            exact ⟨_, _, S6.unsuite ok, q6⟩
          | brk =>
            obtain ⟨σ6, H6, S6, q6⟩ := hsp
            exact ⟨_, _, S6.unsuite ok, q6⟩
          | cont =>
            obtain ⟨σ6, H6, S6, q6⟩ := hsp
            exact ⟨_, _, S6.unsuite ok, q6⟩
          | ret u =>
            obtain ⟨v6, σ6, H6, S6, r6, q6⟩ := hsp
            exact ⟨_, _, _, S6.unsuite ok, r6, q6⟩
        | false =>
          show wpAny _ X.A (handleBy (.ref a) X.env hds2) _ _ _
          exact ih (hno rfl)
      | @as x n i c ts b₀ suite np pos' hds2 l2 hN hi hln hc hsu r ih =>
        intro w
        have hloc : Loc X.env.scope n := .inl hln
        obtain ⟨b, hb1, hyes, hno⟩ := w
        refine wpAny_handleBy_cons (codeAny_handlers_test ?_) (by intro q; cases q)
        have LM := PySem.W.exm_one (M := model X.prog X.w) (J3.kIn) LT hb1
        refine test hc (LM.here ?_)
        cases b with
        | true =>
          refine codeAny_handlers_suite_as ?_
          refine HandSPX.lands_againZ fl3 fun h4 fl4 up4 => ?_
          have J4 : Inv X pins σ' H' { s' with heap := h4 } := J.landed nb fl4.1 ((up.trans up3).trans up4) os ag
          obtain ⟨oe4, vs4, he4, hz4, hd4⟩ := fl4.there
          have S4 := J4.suite he4 hd4 na nL nF
          refine store_ok (X := X.suite a ((a, oe4) :: (X.pn ++ pins))) (v := .ref a) S4 hN hi hloc rfl (fun s5 S5 => ?_) (.inr hln)
          refine wpAny_mono ((hsu a oe4 cls d (X.pn ++ pins) hz4 ⟨_, hd4⟩).run [] s5 _ H' _ S5 (hyes rfl a na)) (fun f s6 hsp => ?_) (fun _ _ z => False.elim z)
          have end_ : ∀ {σ6 : L2.St} {H6 : Hp} {Q : Shared → Prop}, Inv (X.suite a ((a, oe4) :: (X.pn ++ pins))) [] σ6 H6 s6 → (∀ s7, Inv X pins (σ6.set i none) H6 s7 → Q s7) →
              wpAny (model X.prog X.w) X.A (do bindName X.env n .none; unbindBehindTheSuite X.env n pos') (fun _ s7 => Q s7) X.xe s6 := fun {σ6 H6 Q} S6 hq => gone_ok (S6.unsuite ok) hN hi hln hq
          cases f with
          | next =>
            obtain ⟨σ6, H6, S6, q6⟩ := hsp
            exact end_ S6 fun s7 J7 => ⟨_, _, J7, q6⟩
          | brk =>
            obtain ⟨σ6, H6, S6, q6⟩ := hsp
            exact end_ S6 fun s7 J7 => ⟨_, _, J7, q6⟩
          | cont =>
            obtain ⟨σ6, H6, S6, q6⟩ := hsp
            exact end_ S6 fun s7 J7 => ⟨_, _, J7, q6⟩
          | ret u =>
            obtain ⟨v6, σ6, H6, S6, r6, q6⟩ := hsp
            exact end_ S6 fun s7 J7 => ⟨_, _, _, J7, r6, q6⟩
        | false =>
          show wpAny _ X.A (handleBy (.ref a) X.env hds2) _ _ _
          exact ih (hno rfl)
    exact go hh w
  · cases f with
    | next =>
      obtain ⟨σ', H', J', q⟩ := hsp
      exact wpAny_execs_nil ⟨σ', H', J'.ofTry ok, q⟩
    | brk =>
      obtain ⟨σ', H', J', q⟩ := hsp
      exact ⟨σ', H', J'.ofTry ok, q⟩
    | cont =>
      obtain ⟨σ', H', J', q⟩ := hsp
      exact ⟨σ', H', J'.ofTry ok, q⟩
    | ret u =>
      obtain ⟨v, σ', H', J', r, q⟩ := hsp
      exact ⟨v, σ', H', J'.ofTry ok, r, q⟩
/-- in a try's body, at the slots as they stand: f(e, ..) -/
theorem pe_callDS {CX : CXT} {k : Nat} {x : Str} {ps : List Str} {sp : Sp} {E : L2.St → XK} {e : Expr} {es : List Expr} {t : TA} {p pos : Pos} (D : Df X.prog X.w X.K X.mg X.base CX k x ps sp) (hr : Room k X.A) (hx : ∀ σ, PassesAt CX X σ (E σ)) (ha : PA X (e :: es) t) (hg : Gl X x := by rfl)
    (hs : starEach (e :: es) X.env = (false, eval e X.env) :: starEach es X.env := by rfl) (hpl : (backTo pos (starEach es X.env)).any (·.1) = false := by rfl) (hdb : (x == ("__debug__" : Str)) = false := by decide) :
    PE X (.Call (.Name x p) (e :: es) [] pos) (tCallS sp E t) := by
  obtain ⟨f, fd, F, hm, hk, hb⟩ := D.ex
  exact pe_callS F hr hg hm hk hb hx ha hdb hs hpl
/-- o.m(e, ..) -/
def tMethS (C : Addr) (m : Str) (sp : Sp) (E : L2.St → XK) (ta : TE) (t : TA) : TE := fun σ H Q => ta σ H fun x H1 => ∃ a dx fs, x = .ref a ∧ H1 a = some (.ins C dx fs) ∧ fs.lookup m = none ∧ t σ H1 fun vs H2 => sp (x :: vs) H2 Q (E σ)
theorem pe_methDS {CX : CXT} {k : Nat} {C : Addr} {sp : Sp} {ps : List Str} {E : L2.St → XK} {m : Str} {pos apos : Pos} {e o : Expr} {es : List Expr} {ta : TE} {t : TA} {pl : Sem Bool} (M : Mt X.prog X.w X.K X.mg X.base CX k C m ps sp) (he : PE X o ta) (c : Cls X.K C)
    (hr : Room k X.A) (hx : ∀ σ, PassesAt CX X σ (E σ)) (ha : PA X (e :: es) t)
    (hst : starEach (e :: es) X.env = (false, eval e X.env) :: starEach es X.env := by rfl) (hpl : (backTo pos (starEach es X.env)).any (·.1) = false := by rfl)
    (ht : eval (.Call (.Attribute o m apos) (e :: es) [] pos) X.env = (do
      let ov ← eval o X.env
      standAt apos.atName
      let (f, first) ← holding [ov] (getMethod ov m pl)
      callWith pos f first (backTo pos (starEach (e :: es) X.env)) (backToKw pos (keywordEach [] X.env))) := by rfl) :
    PE X (.Call (.Attribute o m apos) (e :: es) [] pos) (tMethS C m sp E ta t) := by
  obtain ⟨f, fd, F, hm, hb⟩ := M.ex
  refine ⟨fun pins s σ H Q I h => ?_⟩
  refine PySem.W.methodCall_KW (pl := pl) (thn (he.run pins s σ H _ I h) fun u s1 ⟨x, H1, I1, rx, a, dx, fs, ex, ea, l, q⟩ => ?_) ht
  subst ex
  obtain rfl : u = Value.ref a := rx
  refine getmeth_ok I1 ea c hm l ?_
  refine PySem.W.callWith_K (first := [.ref a]) (h₀ := X.base) I.ok.mod.kin hm.kp (thn (ha.run pos pins s1 σ H1 _ I1 q) fun us s2 ⟨vs, H2, I2, r, q2⟩ => ⟨I2.kIn, ?_⟩) hst hpl
  exact run_fnS (us := .ref a :: us) (vs := .ref a :: vs) F hr hb (hx σ) I2 (.cons rfl r) q2
end
end Th
namespace Th
open PySem PySem.Spec PyProof.Rows L2
/-! ### the dict of what was shown: its keys are tuples (client, time, service), client and service tuples of ints -/
def nk (l : List Nat) : List NestedKey := l.map fun (n : Nat) => NestedKey.num (n : Int)
def keyOf (h : Ql67.Held) : NestedKey := .tup [.tup (nk h.client), .num (h.time : Int), .tup (nk h.service)]
theorem nk_inj : ∀ {a b : List Nat}, nk a = nk b → a = b
  | [], [], _ => rfl
  | [], _ :: _, h => by cases h
  | _ :: _, [], h => by cases h
  | x :: a, y :: b, h => by
    have h' : NestedKey.num (x : Int) :: nk a = NestedKey.num (y : Int) :: nk b := h
    injection h' with h1 h2
    injection h1 with h3
    have e : x = y := by omega
    rw [e, nk_inj h2]
theorem keyOf_inj {h g : Ql67.Held} (e : keyOf h = keyOf g) : h = g := by
  obtain ⟨s, c, t⟩ := h
  obtain ⟨s', c', t'⟩ := g
  unfold keyOf at e
  injection e with e
  injection e with e1 e
  injection e with e2 e
  injection e with e3 _
  injection e1 with e1
  injection e2 with e2
  injection e3 with e3
  have h1 := nk_inj e1
  have h3 := nk_inj e3
  have h2 : t = t' := by
    have e2' : (t : Int) = (t' : Int) := e2
    omega
  dsimp only at h1 h3
  rw [h1, h2, h3]
theorem depth_nk : ∀ l : List Nat, NestedKey.depthAll (nk l) = 0
  | [] => by simp [nk, NestedKey.depthAll]
  | x :: r => by
    have ih := depth_nk r
    have e : NestedKey.depthAll (nk (x :: r)) = max 0 (NestedKey.depthAll (nk r)) := by simp only [nk, List.map_cons, NestedKey.depthAll, NestedKey.depth]
    rw [e, ih]
    rfl
theorem keyOf_depth (h : Ql67.Held) : (keyOf h).depth ≤ 8 := by
  have e : (keyOf h).depth = max (NestedKey.depthAll (nk h.client) + 1) (max 0 (max (NestedKey.depthAll (nk h.service) + 1) 0)) + 1 := by
    simp only [keyOf, NestedKey.depth, NestedKey.depthAll]
  rw [e, depth_nk, depth_nk]
  decide
/-- the tuple at q is the key of h -/
def HeldKey (K : PySem.W.Frag) (H : Hp) (q : Addr) (h : Ql67.Held) : Prop := ∃ c s : Addr, H q = some (.tup [.ref c, .int (h.time : Int), .ref s]) ∧ SqT K H c (vb h.client) ∧ SqT K H s (vb h.service)
def HeldRel (K : PySem.W.Frag) (H : Hp) (h : Ql67.Held) (x : NestedKey × Addr × Value) : Prop := x.1 = keyOf h ∧ x.2.2 = Value.bool true ∧ HeldKey K H x.2.1 h
/-- the object at a is o -/
def objO (a : Addr) (o : Obj) : HO := .ext fun h => h.get? a = some o
/-- the dict at a, of the object o, holds hs in their order -/
structure HeldIs (P : Program) (w : World) (K : PySem.W.Frag) (H : Hp) (a : Addr) (o : Obj) (es : Array DictEntry) (ep : Nat) (xs : List (NestedKey × Addr × Value)) (hs : List Ql67.Held) : Prop where
  at_ : H a = some (objO a o)
  ex : o.ExactDict
  dat : o.data = .dict es ep
  ent : es.toList = xs.map (entryOfKey (nestedKind P w))
  rel : Paired (HeldRel K H) hs xs
  nd : hs.Nodup
  len : hs.length ≤ 100000
  ns : (a == sysModules) = false
def HeldAt (P : Program) (w : World) (K : PySem.W.Frag) (H : Hp) (a : Addr) (hs : List Ql67.Held) : Prop := ∃ o es ep xs, HeldIs P w K H a o es ep xs hs
theorem Paired.imp' {α β : Type} {R R' : α → β → Prop} (h : ∀ a b, R a b → R' a b) : ∀ {l : List α} {m : List β}, Paired R l m → Paired R' l m
  | _, _, .nil => .nil
  | _, _, .cons r t => .cons (h _ _ r) (Paired.imp' h t)
/-- tuples stay -/
def KeepT (H H' : Hp) : Prop := ∀ b xs, H b = some (.tup xs) → H' b = some (.tup xs)
theorem KeepT.of {H H' : Hp} (s : Same H H') : KeepT H H' := fun b _ h => s b _ h
theorem HeldKey.keep {K : PySem.W.Frag} {H H' : Hp} {q : Addr} {h : Ql67.Held} (k : KeepT H H') (kf : ∀ b o u, H b = some (.frz o u) → H' b = some (.frz o u)) (x : HeldKey K H q h) : HeldKey K H' q h := by
  obtain ⟨c, s, h1, h2, h3⟩ := x
  have g : ∀ {a : Addr} {ys : List V}, SqT K H a ys → SqT K H' a ys := fun {a ys} z => by
    rcases z with (z | ⟨o, z⟩) | z
    · exact .inl (.inl (k _ _ z))
    · exact .inl (.inr ⟨o, kf _ _ _ z⟩)
    · exact .inr z
  exact ⟨c, s, k _ _ h1, g h2, g h3⟩
theorem HeldAt.same {P : Program} {w : World} {K : PySem.W.Frag} {H H' : Hp} {a : Addr} {hs : List Ql67.Held} (s : Same H H') (x : HeldAt P w K H a hs) : HeldAt P w K H' a hs := by
  obtain ⟨o, es, ep, xs, x⟩ := x
  exact ⟨o, es, ep, xs, s _ _ x.at_, x.ex, x.dat, x.ent, Paired.imp' (fun _ _ r => ⟨r.1, r.2.1, r.2.2.keep (KeepT.of s) fun b o u z => s b _ z⟩) x.rel, x.nd, x.len, x.ns⟩
section
variable {X : Cx} {pins : List (Addr × Obj)} {σ : L2.St} {H : Hp} {s : Shared}
theorem nested_all {h : Heap} : ∀ {l : List Nat} {us : List Value}, Vals (vb l) us → NestedAll h (nk l) us
  | [], us, r => by
    cases r
    exact .nil
  | n :: l, us, r => by
    cases r with
    | cons r1 r2 =>
      obtain ⟨t, rfl⟩ := r1
      exact .cons (.int _ t) (nested_all r2)
theorem held_key (I : Inv X pins σ H s) {q : Addr} {h : Ql67.Held} (x : HeldKey X.K H q h) : (nestedKind X.prog X.w).is s.heap (keyOf h) q := by
  obtain ⟨c, sv, h1, h2, h3⟩ := x
  obtain ⟨_, its, r, o, e1, e2, n, e3⟩ := (show ObjOk X.prog X.w H s.heap q (.tup [.ref c, .int (h.time : Int), .ref sv]) from I.hok q _ h1)
  obtain ⟨its1, rv1, ⟨o1, g1, g2, n1, g3⟩, _⟩ := I.tuple h2
  obtain ⟨its2, rv2, ⟨o2, k1, k2, n2, k3⟩, _⟩ := I.tuple h3
  refine ⟨?_, keyOf_depth h⟩
  cases r with
  | cons r1 r =>
    cases r with
    | cons r2 r =>
      cases r with
      | cons r3 r =>
        cases r
        cases r1
        obtain ⟨t, rfl⟩ := r2
        cases r3
        exact .tup e1 e2 e3 (.cons (.tup g1 g2 g3 (by simpa using nested_all rv1)) (.cons (.int _ t) (.cons (.tup k1 k2 k3 (by simpa using nested_all rv2)) .nil)))
theorem rel_nodup {K : PySem.W.Frag} : ∀ {hs : List Ql67.Held} {xs : List (NestedKey × Addr × Value)}, Paired (HeldRel K H) hs xs → xs.map (·.1) = hs.map keyOf
  | _, _, .nil => rfl
  | _, _, .cons r t => by
    rw [List.map_cons, List.map_cons, rel_nodup t, r.1]
theorem map_nodup {α β : Type} {f : α → β} (hf : ∀ a b, f a = f b → a = b) : ∀ {l : List α}, l.Nodup → (l.map f).Nodup
  | [], _ => List.nodup_nil
  | a :: l, h => by
    rw [List.map_cons, List.nodup_cons]
    rw [List.nodup_cons] at h
    refine ⟨fun m => ?_, map_nodup hf h.2⟩
    obtain ⟨b, hb, e⟩ := List.mem_map.mp m
    exact h.1 (hf _ _ e ▸ hb)
theorem held_dict (I : Inv X pins σ H s) {a : Addr} {o : Obj} {es : Array DictEntry} {ep : Nat} {xs : List (NestedKey × Addr × Value)} {hs : List Ql67.Held} (x : HeldIs X.prog X.w X.K H a o es ep xs hs) : s.heap.DictOfH (nestedKind X.prog X.w) a xs := by
  have q : ObjOk X.prog X.w H s.heap a (.ext fun h => h.get? a = some o) := I.hok a _ x.at_
  refine ⟨o, es, ep, q.1, x.ex, x.dat, x.ent, fun y hy => ?_, ?_⟩
  · have all : ∀ {l : List Ql67.Held} {m : List (NestedKey × Addr × Value)}, Paired (HeldRel X.K H) l m → ∀ y ∈ m, (nestedKind X.prog X.w).is s.heap y.1 y.2.1 := by
      intro l m r
      induction r with
      | nil =>
        intro y hy
        cases hy
      | cons r t ih =>
        intro y hy
        rcases List.mem_cons.mp hy with e | hy
        · subst e
          rw [r.1]
          exact held_key I r.2.2
        · exact ih y hy
    exact all x.rel y hy
  · rw [rel_nodup x.rel]
    exact map_nodup (fun _ _ => keyOf_inj) x.nd
theorem at_held {K : PySem.W.Frag} (h : Ql67.Held) : ∀ {hs : List Ql67.Held} {xs : List (NestedKey × Addr × Value)}, Paired (HeldRel K H) hs xs → (atKey xs (keyOf h)).isSome = decide (h ∈ hs)
  | _, _, .nil => by simp [atKey]
  | g :: hs, x :: xs, .cons r t => by
    have ih := at_held h t
    by_cases e : h = g
    · subst e
      have e2 : x.1 = keyOf h := r.1
      have e3 : (atKey (x :: xs) (keyOf h)).isSome = true := by simp [atKey, e2]
      rw [e3]
      simp
    · have e2 : ¬ x.1 = keyOf h := fun z => e (keyOf_inj (z.symm.trans r.1))
      have e3 : atKey (x :: xs) (keyOf h) = atKey xs (keyOf h) := by simp [atKey, e2]
      rw [e3, ih, Bool.eq_iff_iff, decide_eq_true_iff, decide_eq_true_iff, List.mem_cons]
      exact ⟨fun m => .inr m, fun m => m.resolve_left e⟩
/-- q not in d -/
def rHeldNo (P : Program) (w : World) (K : PySem.W.Frag) : R2 := fun x y H Q => ∃ (q a : Addr) (hs : List Ql67.Held) (h : Ql67.Held), x = .ref q ∧ y = .ref a ∧ HeldAt P w K H a hs ∧ HeldKey K H q h ∧ Q (.bl (!decide (h ∈ hs))) H
theorem op_heldNo (hu : X.A.units + 64 < cLine) : OpR X (compareOp .NotIn) (rHeldNo X.prog X.w X.K) := by
  intro pins s σ H x y v u Q I rx ry h
  obtain ⟨q, a, hs, g, rfl, rfl, ⟨o, es, ep, xs, hx⟩, hk, hq⟩ := h
  cases rx
  cases ry
  refine wpAny_notIn_heap (knd := nestedKind X.prog X.w) (show X.A.units + 1 + 8 < cLine by omega) (held_key I hk) hx.ns (held_dict I hx) ?_
  rw [at_held g hx.rel]
  exact ⟨.bl (!decide (g ∈ hs)), H, I.tok _, rfl, hq⟩
/-- len(d) -/
theorem call_lenHeld : CallR X (.builtin "len") (fun xs H Q => ∃ (a : Addr) (hs : List Ql67.Held), xs = [.ref a] ∧ HeldAt X.prog X.w X.K H a hs ∧ Q (.int (hs.length : Nat)) H) := by
  intro pins s σ H xs us Q I r h
  obtain ⟨a, hs, rfl, ⟨o, es, ep, ys, hx⟩, q⟩ := h
  obtain ⟨u, rfl, rx⟩ := vals1 r
  obtain rfl : u = .ref a := rx
  have hl : hs.length = ys.length := Paired.length hx.rel
  have hz := hx.len
  refine call_len_dictH hx.ns (held_dict I hx) (by omega) ?_
  rw [← hl]
  exact ⟨.int (hs.length : Nat), H, I.tok _, ⟨_, rfl⟩, q⟩
theorem paired_app {α β : Type} {R : α → β → Prop} {a : α} {b : β} (r : R a b) : ∀ {l : List α} {m : List β}, Paired R l m → Paired R (l ++ [a]) (m ++ [b])
  | _, _, .nil => .cons r .nil
  | _, _, .cons q t => .cons q (paired_app r t)
theorem obj_ok {P : Program} {w : World} {H : Hp} {h : Heap} {a : Addr} {o : Obj} (e : h.get? a = some o) : ObjOk P w H h a (objO a o) := ⟨e, ⟨_, e⟩, fun _ _ z k => k _ z⟩
theorem keepT_upd {H : Hp} {a : Addr} {o u : HO} (h : H a = some o) (ht : ∀ xs, o ≠ .tup xs) : KeepT H (upd H a u) := fun b xs z => by
  rw [upd_ne (fun e => by rw [e, h] at z; exact ht xs (Option.some.inj z))]
  exact z
theorem keepF_upd {H : Hp} {a : Addr} {o u : HO} (h : H a = some o) (hf : ∀ x y, o ≠ .frz x y) : ∀ b x y, H b = some (.frz x y) → upd H a u b = some (.frz x y) := fun b x y z => by
  rw [upd_ne (fun e => by rw [e, h] at z; exact hf x y (Option.some.inj z))]
  exact z
theorem objO_tup {a : Addr} {o : Obj} (xs : List V) : objO a o ≠ .tup xs := fun z => by
  have z' : HO.ext _ = HO.tup xs := z
  cases z'
theorem objO_frz {a : Addr} {o x : Obj} (y : HO) : objO a o ≠ .frz x y := fun z => by
  have z' : HO.ext _ = HO.frz x y := z
  cases z'
/-- d[q] = True, q not in d -/
def sHeld (P : Program) (w : World) (K : PySem.W.Frag) : TSet := fun o i v H Q => ∃ (a q : Addr) (hs : List Ql67.Held) (h : Ql67.Held), o = .ref a ∧ i = .ref q ∧ v = .bl true ∧ HeldAt P w K H a hs ∧ HeldKey K H q h ∧ h ∉ hs ∧ hs.length < 100000 ∧
  ∀ H' : Hp, KeepB H H' a → HeldAt P w K H' a (hs ++ [h]) → Q H'
theorem set_held (hu : X.A.units + 64 < cLine) : PSet X (sHeld X.prog X.w X.K) := by
  intro pins s σ H o i v ov iv u Q I ro ri rv h
  obtain ⟨a, q, hs, g, rfl, rfl, rfl, ⟨o, es, ep, xs, hx⟩, hk, hn, hl, hq⟩ := h
  cases ro
  cases ri
  cases rv
  have hll : hs.length = xs.length := Paired.length hx.rel
  have hnone : atKey xs (keyOf g) = none := by
    have e := at_held g hx.rel
    rw [decide_eq_false hn] at e
    cases z : atKey xs (keyOf g) with
    | none => rfl
    | some p =>
      rw [z] at e
      cases e
  refine wpAny_setItem_heap (knd := nestedKind X.prog X.w) (hsz := by rw [sizeLine_eq]; omega) (show X.A.units + 1 + 8 < cLine by omega) (held_key I hk) (held_dict I hx) fun h' dd' hs' => ?_
  rw [storedH_new hnone] at dd'
  obtain ⟨o', es', ep', e1, e2, e3, e4, _, _⟩ := dd'
  have mu : Mut (H a) := by
    rw [hx.at_]
    exact True.intro
  have J := I.write (t' := s.toks + (nestedKind X.prog X.w).draws (keyOf g)) (x := a) (e := a) (o := objO a o') mu (.inl rfl) (fun b z hb k => (hs'.2 b hb).trans k) ⟨o', e1⟩ (obj_ok e1)
  have kT := keepT_upd (u := objO a o') hx.at_ objO_tup
  have kF := keepF_upd (u := objO a o') hx.at_ fun x y => objO_frz y
  refine ⟨_, J, hq _ keepB_set ⟨o', es', ep', _, upd_same, e2, e3, e4, paired_app ⟨rfl, rfl, hk.keep kT kF⟩ (Paired.imp' (fun _ _ r => ⟨r.1, r.2.1, r.2.2.keep kT kF⟩) hx.rel), ?_, ?_, hx.ns⟩⟩
  · rw [List.nodup_append]
    refine ⟨hx.nd, by simp, fun b hb c hc => ?_⟩
    rw [List.mem_singleton.mp hc]
    exact fun e => hn (e ▸ hb)
  · rw [List.length_append, List.length_singleton]
    omega
/-- {}, to hold what is shown -/
def tDNewH (P : Program) (w : World) (K : PySem.W.Frag) : TE := fun _ H Q => ∀ (H' : Hp) (p : Addr), Same H H' → H p = none → HeldAt P w K H' p [] → Q (.ref p) H'
theorem pe_dnewH {pos : Pos} : PE X (.Dict [] [] pos) (tDNewH X.prog X.w X.K) := ⟨fun pins s σ H Q I h => by
  have hm : (s.heap.objs.size == sysModules) = false := beq_eq_false_iff_ne.mpr (Nat.ne_of_gt I.big)
  have hg : (s.heap.push { cls := .type "dict", data := .dict #[] }).get? s.heap.objs.size = some { cls := .type "dict", data := .dict #[] } := Heap.get?_push_size _ rfl
  have J := I.laid (t' := s.toks) (a := s.heap.objs.size) (o := objO s.heap.objs.size { cls := .type "dict", data := .dict #[] }) (h' := s.heap.push { cls := .type "dict", data := .dict #[] }) (fun b u e => Heap.get?_push_of_some _ e) (Nat.le_refl _) (obj_ok hg)
  exact wpAny_Dict_empty ⟨.ref s.heap.objs.size, _, J, rfl, h _ _ (same_upd I.fresh) I.fresh ⟨_, #[], 0, [], upd_same, ⟨rfl, rfl, rfl⟩, rfl, rfl, .nil, List.nodup_nil, Nat.zero_le _, hm⟩⟩⟩
end
end Th
namespace Th
open PySem PySem.Spec PyProof.Rows L2
/-! ### what is shown, walked; made anew of pairs -/
/-- the keys of the dict at a, of the object o -/
def Ith (a : Addr) (o : Obj) (qs : List Addr) : It := ⟨fun i H => H a = some (objO a o) ∧ i < qs.length, fun i H x H' => H' = H ∧ ∃ q, qs[i]? = some q ∧ x = .ref q, fun i H => H a = some (objO a o) ∧ qs.length ≤ i⟩
theorem walk_held {a : Addr} {o : Obj} {qs : List Addr} : Walk (Ith a o qs) qs.length (fun H => H a = some (objO a o)) (fun i H x H' => H' = H ∧ ∃ q, qs[i]? = some q ∧ x = .ref q) :=
  ⟨fun _ _ hi q => ⟨q, hi⟩, fun _ q => ⟨q, Nat.le_refl _⟩, fun _ _ _ _ _ _ y => y⟩
theorem obj_at {X : Cx} {pins : List (Addr × Obj)} {σ : L2.St} {H : Hp} {s : Shared} (I : Inv X pins σ H s) {a : Addr} {o : Obj} (h : H a = some (objO a o)) : s.heap.get? a = some o := by
  have q : ObjOk X.prog X.w H s.heap a (.ext fun h => h.get? a = some o) := I.hok a _ h
  exact q.1
theorem turn_held {P : Program} {w : World} {K : PySem.W.Frag} {tg : Expr} {a : Addr} {o : Obj} {es : Array DictEntry} {ep : Nat} {qs : List Addr} (it : Addr) (hod : o.data = .dict es ep) (hsz : es.size = qs.length) (hen : ∀ (i : Nat) (q : Addr), qs[i]? = some q → ∃ en : DictEntry, es[i]? = some en ∧ en.key = Value.ref q) :
    Turn P w K tg (Ith a o qs) [it] it (fun i h => h.IsKeyIter it a i qs.length ep) where
  mem := by simp
  obj := fun i h st b hb => by
    have e : b = it := by simpa using hb
    subst e
    obtain ⟨oi, e, c, dd⟩ := st
    exact ⟨oi, e, fun v z => by rw [dd] at z; cases z⟩
  keep := fun i h h' st k => st.at fun oi e => k it (by simp) oi e
  item := by
    intro X hP hw hK hc i pins s σ H E I hf st hg
    subst hP hw hK
    obtain ⟨hd, hi⟩ := hg
    obtain ⟨f0, f1, f2, f3, f4, f5⟩ := hf it (by simp)
    have hgd := obj_at I hd
    obtain ⟨q, hq⟩ : ∃ q, qs[i]? = some q := ⟨qs[i], List.getElem?_eq_getElem hi⟩
    obtain ⟨en, hen1, hkey⟩ := hen i q hq
    refine next_key_item st hgd hod hsz hen1 fun h' st' sb => ?_
    have I1 : Inv X pins σ H { s with heap := h' } := I.turned (t' := s.toks) (fun b ob hb e => (sb.2 b hb).trans e) f0 f1 f3 f4 f5
    obtain ⟨oi, e, c, dd⟩ := id st'
    exact ⟨en.key, rfl, go_of (s := { s with heap := h' }) e c dd (by decide) ⟨.ref q, H, I1, hkey, ⟨rfl, q, hq, rfl⟩, st', fun b hb => (hf b hb).1⟩⟩
  done := by
    intro X hP hw hK hc i pins s σ H E I hf st hg
    subst hP hw hK
    obtain ⟨hd, hi⟩ := hg
    obtain ⟨f0, f1, f2, f3, f4, f5⟩ := hf it (by simp)
    have hgd := obj_at I hd
    exact next_key_end (I.ok.hd hc) st hgd hod hsz hi fun h' eb => ⟨rfl, I.turned (t' := s.toks) (fun b ob hb e => eb b ob hb e) f0 f1 f3 f4 f5⟩
  self := fun A i s Q E st h => by
    refine wpAny_pyIter_slot st.typeIs F.slot_dict_keyiterator_iter (wpAny_call_entry F.slot_dict_keyiterator_iter st.typeIs F.entry_dict_keyiterator_iter ?_ (F.args_dict_keyiterator_iter_1 _))
    show wpAny _ _ (ret (.ref it)) _ _ s
    exact wpAny_pure ⟨_, rfl, "dict_keyiterator", _, st.typeIs, F.slot_dict_keyiterator_next.lookup, h⟩
/-- for q in d -/
def iHeld (P : Program) (w : World) (K : PySem.W.Frag) (td : TE) : TI := fun σ H R => td σ H fun x H1 => ∃ a o es ep xs hs, x = .ref a ∧ HeldIs P w K H1 a o es ep xs hs ∧ R (Ith a o (xs.map fun y => y.2.1)) H1
section
variable {X : Cx}
theorem pi_held {tg e : Expr} {td : TE} (he : PE X e td) : PI X tg e (iHeld X.prog X.w X.K td) := by
  refine ⟨fun pins s σ H R I h => ?_⟩
  refine thn (he.run pins s σ H _ I h) fun u s1 ⟨x, H1, I1, rx, a, o, es, ep, xs, hs, ex, hx, q⟩ => ?_
  subst ex
  obtain rfl : u = Value.ref a := rx
  have hsz : es.size = (xs.map fun y => y.2.1).length := by
    rw [size_of_entries hx.ent, List.length_map]
  refine iter_keys hx.ns (obj_at I1 hx.at_) hx.ex hx.dat (pi_one (tk := s1.toks) I1 _ (turn_held _ hx.dat hsz fun i q hq => ?_) ⟨_, Heap.get?_push_size _ rfl, rfl, ?_⟩ q)
  · rw [List.getElem?_map] at hq
    cases z : xs[i]? with
    | none =>
      rw [z] at hq
      cases hq
    | some y =>
      rw [z] at hq
      have e := entry_at hx.ent i
      rw [z] at e
      exact ⟨_, e, congrArg Value.ref (Option.some.inj hq)⟩
  · rw [hsz] <;> rfl
theorem heldkey_at {K : PySem.W.Frag} {H : Hp} : ∀ {hs : List Ql67.Held} {xs : List (NestedKey × Addr × Value)}, Paired (HeldRel K H) hs xs → ∀ {i : Nat} {q : Addr}, (xs.map fun y => y.2.1)[i]? = some q → ∃ h, hs[i]? = some h ∧ HeldKey K H q h
  | _, _, .nil, i, q, e => by simp at e
  | _, _, .cons r t, 0, q, e => by
    simp at e
    subst e
    exact ⟨_, rfl, r.2.2⟩
  | _, _, .cons r t, i + 1, q, e => by
    obtain ⟨h, e1, e2⟩ := heldkey_at t (i := i) (q := q) (by simpa using e)
    exact ⟨h, by simpa using e1, e2⟩
/-- the entries that the pairs make -/
def zOf : List Ql67.Held → List (Addr × Addr) → List (NestedKey × Addr × Value)
  | h :: hs, t :: ts => (keyOf h, t.2, Value.bool true) :: zOf hs ts
  | _, _ => []
def PairOk (K : PySem.W.Frag) (H : Hp) (h : Ql67.Held) (t : Addr × Addr) : Prop := H t.1 = some (.tup [.ref t.2, .bl true]) ∧ HeldKey K H t.2 h
theorem z_rel {K : PySem.W.Frag} {H : Hp} : ∀ {hs : List Ql67.Held} {ts : List (Addr × Addr)}, Paired (PairOk K H) hs ts → Paired (HeldRel K H) hs (zOf hs ts)
  | _, _, .nil => .nil
  | _, _, .cons r t => .cons ⟨rfl, rfl, r.2⟩ (z_rel t)
theorem z_len {K : PySem.W.Frag} {H : Hp} : ∀ {hs : List Ql67.Held} {ts : List (Addr × Addr)}, Paired (PairOk K H) hs ts → (zOf hs ts).length = ts.length
  | _, _, .nil => rfl
  | _, _, .cons r t => congrArg (· + 1) (z_len t)
theorem z_at {K : PySem.W.Frag} {H : Hp} : ∀ {hs : List Ql67.Held} {ts : List (Addr × Addr)}, Paired (PairOk K H) hs ts → ∀ {i : Nat} {t : Addr × Addr}, ts[i]? = some t → ∃ h, (zOf hs ts)[i]? = some (keyOf h, t.2, Value.bool true) ∧ PairOk K H h t
  | _, _, .nil, i, t, e => by simp at e
  | _, _, .cons r tl, 0, t, e => by
    simp at e
    subst e
    exact ⟨_, rfl, r⟩
  | _, _, .cons r tl, i + 1, t, e => by
    obtain ⟨h, e1, e2⟩ := z_at tl (i := i) (t := t) (by simpa using e)
    exact ⟨h, by simpa [zOf] using e1, e2⟩
theorem stored_all : ∀ (zs acc : List (NestedKey × Addr × Value)), ((acc ++ zs).map (·.1)).Nodup → storedAllH acc zs = acc ++ zs
  | [], acc, _ => by
    show acc = acc ++ []
    rw [List.append_nil]
  | z :: zs, acc, h => by
    show storedAllH (storedH acc z.1 z.2.1 z.2.2) zs = acc ++ z :: zs
    have hn : atKey acc z.1 = none := by
      cases e : atKey acc z.1 with
      | none => rfl
      | some p =>
        exfalso
        unfold atKey at e
        obtain ⟨y, hy, _⟩ := Option.map_eq_some_iff.mp e
        have h1 := List.mem_of_find?_eq_some hy
        have h2 := List.find?_some hy
        have h2' : y.1 = z.1 := of_decide_eq_true h2
        rw [List.map_append, List.nodup_append] at h
        exact h.2.2 y.1 (List.mem_map.mpr ⟨y, h1, rfl⟩) z.1 (by simp) h2'
    rw [storedH_new hn]
    have e1 : acc ++ [(z.1, z.2.1, z.2.2)] ++ zs = acc ++ z :: zs := by simp
    rw [stored_all zs _ (by rw [e1]; exact h), e1]
/-- dict(l) of a list of pairs (key, True), the keys all different -/
theorem call_dictHeld (hc : X.calm = true) (hu : X.A.units + 64 < cLine) : CallR X (.type "dict") (fun xs H Q => ∃ (a : Addr) (hs : List Ql67.Held) (ts : List (Addr × Addr)), xs = [.ref a] ∧ SqL X.K H a (ts.map fun t => V.ref t.1) ∧ Paired (PairOk X.K H) hs ts ∧ hs.Nodup ∧ hs.length ≤ 100000 ∧
    ∀ (H' : Hp) (p : Addr), Same H H' → H p = none → HeldAt X.prog X.w X.K H' p hs → Q (.ref p) H') := by
  intro pins s σ H xs us Q I r q
  obtain ⟨a, hs, ts, rfl, hq, hp, hn, hl, q⟩ := q
  obtain ⟨u, rfl, rx⟩ := vals1 r
  cases rx
  obtain ⟨its, rv, pl, hz⟩ := I.list hq
  have ei : its = (ts.map fun t => t.1).map Value.ref := by
    have rv' : Vals ((ts.map fun t => t.1).map V.ref) its := by
      rw [List.map_map]
      exact rv
    exact refs_at rv'
  subst ei
  obtain ⟨o, n, ho, hcl, hd, hdat⟩ := pl
  have hlt : hs.length = ts.length := Paired.length hp
  have zl := z_len hp
  have zr := z_rel hp
  refine call_dict_pairsH (knd := nestedKind X.prog X.w) (ps := zOf hs ts) (PairArg.list a (((ts.map fun t => t.1).map Value.ref).toArray) (fun j => (ts.getD j (0, 0)).1) (ts.map fun t => (Value.ref t.2, Value.bool true))) (I.ok.hd hc) (show X.A.units + 1 + 1 + 8 < cLine by omega) ⟨⟨o, n, ho, hcl, hd, hdat⟩, ?_, fun j k v hj => ?_⟩ ⟨?_, fun i key v hi => ?_⟩ (fun h' hk x hx => ?_) ?_ fun h' tk hd' k => ?_
  · simp
  · rw [List.getElem?_map] at hj
    cases z : ts[j]? with
    | none =>
      rw [z] at hj
      cases hj
    | some t =>
      rw [z] at hj
      injection hj with hj
      injection hj with e1 e2
      subst e1 e2
      obtain ⟨g, _, h1, _⟩ := z_at hp z
      have gd : ts.getD j (0, 0) = t := by rw [List.getD_eq_getElem?_getD, z]; rfl
      refine ⟨?_, ?_⟩
      · show _ = some (Value.ref (ts.getD j (0, 0)).1)
        rw [gd]
        simp [z]
      · show PairAt s.heap (ts.getD j (0, 0)).1 _ _
        rw [gd]
        obtain ⟨_, its1, r1, o1, k1, k2, n1, k3⟩ := (show ObjOk X.prog X.w H s.heap t.1 (.tup [.ref t.2, .bl true]) from I.hok _ _ h1)
        refine .inl ⟨o1, k1, k2, n1, ?_⟩
        cases r1 with
        | cons ra rb =>
          cases rb with
          | cons rc rd =>
            cases rd
            cases ra
            cases rc
            exact k3
  · rw [zl, List.length_map]
  · have hi' : (ts.map fun t => (Value.ref t.2, Value.bool true))[i]? = some (key, v) := hi
    clear hi
    have hi := hi'
    rw [List.getElem?_map] at hi
    cases z : ts[i]? with
    | none =>
      rw [z] at hi
      cases hi
    | some t =>
      rw [z] at hi
      injection hi with hi
      injection hi with e1 e2
      subst e1 e2
      obtain ⟨g, h1, _⟩ := z_at hp z
      exact ⟨_, _, h1, rfl⟩
  · obtain ⟨i, hi, e⟩ := List.mem_iff_getElem.mp hx
    have e' : (zOf hs ts)[i]? = some x := by rw [List.getElem?_eq_getElem hi, e]
    have hi2 : i < ts.length := by rw [← zl]; exact hi
    obtain ⟨g, h1, h2⟩ := z_at hp (List.getElem?_eq_getElem hi2)
    rw [e'] at h1
    injection h1 with h1
    subst h1
    exact nestedKind_stays.stays (fun b ob vs nn hb hs' => hk b ob (Nat.ne_of_lt (Heap.lt_size hb)) (by simp) hb) (held_key I h2.2)
  · rw [List.length_map, sizeLine_eq]
    omega
  · have nd : ((zOf hs ts).map (·.1)).Nodup := by
      rw [rel_nodup zr]
      exact map_nodup (fun _ _ => keyOf_inj) hn
    rw [stored_all _ [] nd] at hd'
    obtain ⟨o', es, ep, e1, e2, e3, e4, _, _⟩ := hd'
    have hm : (s.heap.objs.size == sysModules) = false := beq_eq_false_iff_ne.mpr (Nat.ne_of_gt I.big)
    have J := I.laid (t' := tk) (a := s.heap.objs.size) (o := objO s.heap.objs.size o') (fun b z e => k b z (by simp) e) (Nat.le_refl _) (obj_ok e1)
    have sm := same_upd (o := objO s.heap.objs.size o') I.fresh
    exact ⟨.ref s.heap.objs.size, _, J, rfl, q _ _ sm I.fresh ⟨o', es, ep, _, upd_same, e2, e3, e4, Paired.imp' (fun _ _ r => ⟨r.1, r.2.1, r.2.2.keep (KeepT.of sm) fun b x y z => sm b _ z⟩) zr, hn, hl, hm⟩⟩
end
/-! ### the dict of who is known: its keys are tuples of ints, also of the module's -/
def kN (l : List Nat) : List Key := l.map fun (n : Nat) => (Sum.inl (n : Int) : Key)
theorem kN_kV (l : List Nat) : (kN l).map kV = vb l := by
  unfold kN vb
  rw [List.map_map]
  rfl
theorem kN_inj {a b : List Nat} (h : kN a = kN b) : a = b := vb_inj (by rw [← kN_kV, ← kN_kV, h])
section
variable {X : Cx} {pins : List (Addr × Obj)} {σ : L2.St} {H : Hp} {s : Shared}
theorem key_ofS (I : Inv X pins σ H s) {b : Addr} {l : List Nat} (h : SqT X.K H b (vb l)) : (tupleKind (mixKind X.prog X.w)).is s.heap (kN l) b := by
  obtain ⟨its, rv, ⟨o, h1, h2, n, h3⟩, _⟩ := I.tuple h
  rw [← kN_kV] at rv
  exact ⟨o, its.toArray, n, h1, h2, h3, by simpa using items_are rv⟩
def rInS (K : PySem.W.Frag) (neg : Bool) : R2 := fun x y H Q => ∃ (b a : Addr) (kvs : List (List Key × V)) (l : List Nat), x = .ref b ∧ y = .ref a ∧ H a = some (.dT kvs) ∧ SqT K H b (vb l) ∧ Q (.bl (if neg then !(valV kvs (kN l)).isSome else (valV kvs (kN l)).isSome)) H
theorem op_inS (hu : X.A.units + 64 < cLine) : OpR X (compareOp .In) (rInS X.K false) := by
  intro pins s σ H x y v u Q I rx ry h
  obtain ⟨b, a, kvs, l, rfl, rfl, hd, hb, q⟩ := h
  cases rx
  cases ry
  obtain ⟨z, hm, xs, rel, dd⟩ := dt_of I.hok hd
  refine wpAny_in_heap (tupleKind_room_in1 (by omega)) (key_ofS I hb) hm dd ?_
  have e := (rel.val (kN l)).isSome_eq
  rw [Option.isSome_map] at e
  rw [← e]
  exact ⟨.bl (valV kvs (kN l)).isSome, H, I.tok _, rfl, q⟩
theorem op_notinS (hu : X.A.units + 64 < cLine) : OpR X (compareOp .NotIn) (rInS X.K true) := by
  intro pins s σ H x y v u Q I rx ry h
  obtain ⟨b, a, kvs, l, rfl, rfl, hd, hb, q⟩ := h
  cases rx
  cases ry
  obtain ⟨z, hm, xs, rel, dd⟩ := dt_of I.hok hd
  refine wpAny_notIn_heap (tupleKind_room_in1 (by omega)) (key_ofS I hb) hm dd ?_
  have e := (rel.val (kN l)).isSome_eq
  rw [Option.isSome_map] at e
  rw [← e]
  exact ⟨.bl (!(valV kvs (kN l)).isSome), H, I.tok _, rfl, q⟩
/-- d[b] -/
def tGetS (K : PySem.W.Frag) (td ty : TE) : TE := fun σ H Q => td σ H fun x H1 => ty σ H1 fun y H2 => ∃ (a b : Addr) (kvs : List (List Key × V)) (l : List Nat) (v : V), x = .ref a ∧ y = .ref b ∧ H2 a = some (.dT kvs) ∧ SqT K H2 b (vb l) ∧ valV kvs (kN l) = some v ∧ Q v H2
theorem pe_getS {o i : Expr} {td ty : TE} {pos : Pos} (hu : X.A.units + 64 < cLine) (ho : PE X o td) (hi : PE X i ty) (hs : NoSl i) : PE X (.Subscript o i pos) (tGetS X.K td ty) := by
  refine ⟨fun pins s σ H Q I h => ?_⟩
  refine subD_of PySem.F.slot_dict_getitem.lookup hs (thn (ho.run pins s σ H _ I h) fun u s1 ⟨x, H1, I1, rx, q1⟩ => thn (hi.run pins s1 σ H1 _ I1 q1) fun iv s2 ⟨y, H2, I2, ry, a, b, kvs, l, v, ex, ey, hd, hb, hv, q2⟩ => ?_)
  subst ex ey
  obtain rfl : u = Value.ref a := rx
  cases ry
  obtain ⟨z, hm, xs, rel, dd⟩ := dt_of I2.hok hd
  obtain ⟨w', hw, rw'⟩ := RelO.some_of (v := v) (o := (atKey xs (kN l)).map (·.2)) (by rw [← hv]; exact rel.val (kN l))
  obtain ⟨p, hp, hp2⟩ := Option.map_eq_some_iff.mp hw
  refine ⟨dd.typeIs, wpAny_getItem_heap (tupleKind_room_in1 (by omega)) (key_ofS I2 hb) dd hp ?_⟩
  rw [hp2]
  exact ⟨v, H2, I2.tok _, rw', q2⟩
end
/-- who is known: its key and life in a tuple -/
def WhoRel (K : PySem.W.Frag) (N : Addr) (H : Hp) (w : Ql67.Who) (kv : List Key × V) : Prop := kv.1 = kN w.name ∧ ∃ t k : Addr, kv.2 = .ref t ∧ H t = some (.tup [.ref k, .int (w.life : Int)]) ∧ SqL K H k (vb w.key) ∧ k ≠ N
def KnownAt (K : PySem.W.Frag) (N : Addr) (H : Hp) (a : Addr) (ws : List Ql67.Who) : Prop := ∃ kvs, H a = some (.dT kvs) ∧ Paired (WhoRel K N H) ws kvs
theorem known_get {K : PySem.W.Frag} {N : Addr} {H : Hp} (n : List Nat) : ∀ {ws : List Ql67.Who} {kvs : List (List Key × V)}, Paired (WhoRel K N H) ws kvs →
    (valV kvs (kN n)).isSome = (ws.find? fun w => w.name == n).isSome ∧ ∀ w, (ws.find? fun w => w.name == n) = some w → ∃ t k : Addr, valV kvs (kN n) = some (.ref t) ∧ H t = some (.tup [.ref k, .int (w.life : Int)]) ∧ SqL K H k (vb w.key)
  | _, _, .nil => ⟨rfl, fun w h => by cases h⟩
  | v :: ws, kv :: kvs, .cons r t => by
    have ih := known_get n t
    by_cases e : v.name = n
    · have e1 : kv.1 = kN n := by rw [r.1, e]
      have e2 : (v.name == n) = true := by rw [e]; exact beq_self_eq_true n
      rw [valV_pos e1, List.find?_cons, e2]
      refine ⟨rfl, fun w h => ?_⟩
      injection h with h
      subst h
      obtain ⟨t, k, h1, h2, h3⟩ := r.2
      exact ⟨t, k, by rw [h1], h2, h3.1⟩
    · have e1 : ¬ kv.1 = kN n := fun z => e (kN_inj (r.1.symm.trans z))
      have e2 : (v.name == n) = false := beq_eq_false_iff_ne.mpr e
      rw [valV_neg e1, List.find?_cons, e2]
      exact ih
theorem known_map {K : PySem.W.Frag} {N : Addr} {H : Hp} {w : Ql67.Who} {y : V} (r : WhoRel K N H w (kN w.name, y)) : ∀ {ws : List Ql67.Who} {kvs : List (List Key × V)}, Paired (WhoRel K N H) ws kvs →
    Paired (WhoRel K N H) (ws.map fun x => if x.name = w.name then w else x) (kvs.map fun kv => if kv.1 = kN w.name then (kv.1, y) else kv)
  | _, _, .nil => .nil
  | v :: ws, kv :: kvs, .cons q t => by
    rw [List.map_cons, List.map_cons]
    by_cases e : v.name = w.name
    · have e1 : kv.1 = kN w.name := by rw [q.1, e]
      rw [if_pos e, if_pos e1]
      exact .cons ⟨e1, r.2⟩ (known_map r t)
    · have e1 : ¬ kv.1 = kN w.name := fun z => e (kN_inj (q.1.symm.trans z))
      rw [if_neg e, if_neg e1]
      exact .cons q (known_map r t)
theorem known_put {K : PySem.W.Frag} {N : Addr} {H : Hp} {w : Ql67.Who} {y : V} (r : WhoRel K N H w (kN w.name, y)) {ws : List Ql67.Who} {kvs : List (List Key × V)} (p : Paired (WhoRel K N H) ws kvs) :
    Paired (WhoRel K N H) (if (ws.find? fun x => x.name == w.name).isSome = true then ws.map (fun x => if x.name = w.name then w else x) else ws ++ [w]) (putK kvs (kN w.name) y) := by
  have g := (known_get w.name p).1
  cases e : valV kvs (kN w.name) with
  | none =>
    rw [e] at g
    rw [putK_new y e, ← g, if_neg (by decide)]
    exact paired_app r p
  | some v =>
    rw [e] at g
    have gt : (ws.find? fun x => x.name == w.name).isSome = true := g.symm
    rw [if_pos gt]
    have ep : putK kvs (kN w.name) y = kvs.map fun kv => if kv.1 = kN w.name then (kv.1, y) else kv := by
      unfold putK
      rw [if_pos]
      rw [valV_any, e]
      rfl
    rw [ep]
    exact known_map r p
theorem KnownAt.same {K : PySem.W.Frag} {N : Addr} {H H' : Hp} {a : Addr} {ws : List Ql67.Who} (s : Same H H') (x : KnownAt K N H a ws) : KnownAt K N H' a ws := by
  obtain ⟨kvs, h, r⟩ := x
  exact ⟨kvs, s _ _ h, Paired.imp' (fun _ _ q => ⟨q.1, let ⟨t, k, h1, h2, h3⟩ := q.2; ⟨t, k, h1, s _ _ h2, ⟨s.seq h3.1, h3.2⟩⟩⟩) r⟩
end Th
namespace Th
open PySem PySem.Spec PyProof.Rows L2
/-! ### min of three ints -/
section
variable {prog : Program} {w : World} {A : Around} {E : Value → Shared → Prop} {s : Shared}
theorem args_min3 (a b c : Value) : argsOk "min" ⟨[a, b, c], []⟩ := by unfold argsOk; kernel_rfl
theorem call_min_three {a b c : Value} {Q : Value → Shared → Prop}
    (h : wpAny (model prog w) A.in1 (pyIter (.ref s.heap.objs.size)) (fun it s₂ => ∃ I fp wr n P St bt, it = .ref I ∧ Walks prog w A.in1 I fp wr n P St ∧ St 0 s₂.heap ∧ (∀ b ∈ fp, b < s₂.heap.objs.size) ∧ 0 < n ∧ CmpOf prog w A.in1 .Lt P bt ∧
      ∀ v h' tk, P (argBest bt (n - 1)) v → (∀ b o, b ∉ wr → s₂.heap.get? b = some o → h'.get? b = some o) → Q v { s₂ with heap := h', toks := tk }) E
      { s with heap := s.heap.push { cls := .type "tuple", data := .seq #[a, b, c] } }) :
    wpAny (model prog w) A (call (.builtin "min") [a, b, c]) Q E s := by
  have hname : (toString "min" ++ toString ".loop" : String) = "min.loop" := by decide
  refine call_function_tree F.kind_min F.plain_min F.entry_min (args_min3 _ _ _) ?_
  show wpAny _ A.in1 (Builtin.Builtins.bindParams "min" ["key", "default"] 0 ⟨[], []⟩ >>= _) _ _ s
  refine wpAny_bind (wpAny_of_eq (show Builtin.Builtins.bindParams "min" ["key", "default"] 0 ⟨[], []⟩ = pure [none, none] from rfl) ?_)
  show wpAny _ A.in1 (newTuple [a, b, c] >>= _) _ _ s
  refine wpAny_bind (wpAny_newObj_type ?_)
  refine wpAny_bind (wpAny_mono h (fun it s₂ h₂ => ?_) fun _ _ e => e)
  obtain ⟨I, fp, wr, n, P, St, bt, rfl, W, hst, hfp, hn, hcmp, hQ⟩ := h₂
  refine wpAny_bind (wpAny_newObj_type ?_)
  have hSf : s₂.heap.objs.size ∉ fp := fun hm => Nat.lt_irrefl _ (hfp _ hm)
  rw [hname]
  refine wpAny_pure ⟨plainId_quiet F.plain_min_loop _, codeAny_min_loop_first W bt hcmp s₂.heap.objs.size hSf hn (W.frame _ _ _ hst fun b _ o e => Heap.get?_push_of_some _ e) (Heap.get?_push_size _ rfl) fun v h' tk hP hk => ?_⟩
  exact hQ v h' tk hP fun b o hbw e => hk b o hbw (Nat.ne_of_lt (Heap.lt_size e)) (Heap.get?_push_of_some _ e)
theorem min_three_ints {a b c : Int} {t u r : Tok} {Q : Value → Shared → Prop} (hh : A.handled = none)
    (h : ∀ h' tk v, (∀ c o, s.heap.get? c = some o → h'.get? c = some o) → (∃ q : Tok, v = Value.int (if c < (if b < a then b else a) then c else (if b < a then b else a)) q) → Q v { s with heap := h', toks := tk }) :
    wpAny (model prog w) A (call (.builtin "min") [.int a t, .int b u, .int c r]) Q E s := by
  have hT : (s.heap.push { cls := .type "tuple", data := .seq #[.int a t, .int b u, .int c r] }).IsTuple s.heap.objs.size (intItems #[(a, t), (b, u), (c, r)]) := ⟨_, Heap.get?_push_size _ rfl, rfl, 0, by simp [intItems]⟩
  refine call_min_three (wpAny_pyIter_tuple hT ?_)
  have hsz : (s.heap.push { cls := .type "tuple", data := .seq #[.int a t, .int b u, .int c r] }).objs.size = s.heap.objs.size + 1 := Heap.size_push ..
  refine ⟨_, [_, s.heap.objs.size], [_], _, _, _, _, rfl, Walks.tuple (A := A.in1) hh _ s.heap.objs.size (by rw [hsz]; exact Nat.ne_of_lt (Nat.lt_succ_self _)) (intItems #[(a, t), (b, u), (c, r)]),
    ⟨⟨_, Heap.get?_push_size _ rfl, rfl, rfl⟩, hT.push _⟩, fun c hc => ?_, by simp [intItems], CmpOf.ints_lt (numAt #[(a, t), (b, u), (c, r)]) (fun _ _ => intItems_at), fun v h' tk hP hk => ?_⟩
  · show c < ((s.heap.push _).push _).objs.size
    rw [Heap.size_push, hsz]
    rcases List.mem_cons.mp hc with rfl | hc
    · rw [hsz]; exact Nat.lt_succ_self _
    · rcases List.mem_cons.mp hc with rfl | hc
      · exact Nat.lt_succ_of_lt (Nat.lt_succ_self _)
      · cases hc
  · have hold : ∀ c o, s.heap.get? c = some o → h'.get? c = some o := fun c o e => by
      refine hk c o (fun hm => ?_) (Heap.get?_push_of_some _ (Heap.get?_push_of_some _ e))
      rcases List.mem_cons.mp hm with e1 | hm
      · have := Heap.lt_size e; rw [e1, hsz] at this; exact Nat.lt_irrefl _ (Nat.lt_of_succ_lt this)
      · cases hm
    refine h h' tk v hold ?_
    have hP' : (intItems #[(a, t), (b, u), (c, r)])[argBest (fun i j => decide (numAt #[(a, t), (b, u), (c, r)] i < numAt #[(a, t), (b, u), (c, r)] j)) 2]? = some v := by
      have hsz2 : (intItems #[(a, t), (b, u), (c, r)]).size - 1 = 2 := by simp [intItems]
      rw [← hsz2]; exact hP
    by_cases hba : b < a
    · by_cases hcb : c < b
      · have e : argBest (fun i j => decide (numAt #[(a, t), (b, u), (c, r)] i < numAt #[(a, t), (b, u), (c, r)] j)) 2 = 2 := by simp [argBest, numAt, hba, hcb]
        rw [e] at hP'
        refine ⟨r, ?_⟩
        simpa [intItems, hba, hcb] using hP'.symm
      · have e : argBest (fun i j => decide (numAt #[(a, t), (b, u), (c, r)] i < numAt #[(a, t), (b, u), (c, r)] j)) 2 = 1 := by simp [argBest, numAt, hba, hcb]
        rw [e] at hP'
        refine ⟨u, ?_⟩
        simpa [intItems, hba, hcb] using hP'.symm
    · by_cases hcb : c < a
      · have e : argBest (fun i j => decide (numAt #[(a, t), (b, u), (c, r)] i < numAt #[(a, t), (b, u), (c, r)] j)) 2 = 2 := by simp [argBest, numAt, hba, hcb]
        rw [e] at hP'
        refine ⟨r, ?_⟩
        simpa [intItems, hba, hcb] using hP'.symm
      · have e : argBest (fun i j => decide (numAt #[(a, t), (b, u), (c, r)] i < numAt #[(a, t), (b, u), (c, r)] j)) 2 = 0 := by simp [argBest, numAt, hba, hcb]
        rw [e] at hP'
        refine ⟨t, ?_⟩
        simpa [intItems, hba, hcb] using hP'.symm
end
theorem call_min3 {X : Cx} (hc : X.calm = true) : CallR X (.builtin "min") (fun xs H Q => ∃ i j k, xs = [.int i, .int j, .int k] ∧ Q (.int (if k < (if j < i then j else i) then k else (if j < i then j else i))) H) := by
  intro pins s σ H xs us Q I r h
  obtain ⟨i, j, l, rfl, q⟩ := h
  have r' := id r
  cases r' with
  | cons r1 r2 =>
    cases r2 with
    | cons r3 r4 =>
      cases r4 with
      | cons r5 r6 =>
        cases r6
        obtain ⟨t1, rfl⟩ := r1
        obtain ⟨t2, rfl⟩ := r3
        obtain ⟨t3, rfl⟩ := r5
        refine min_three_ints (I.ok.hd hc) fun h' tk v k hv => ?_
        obtain ⟨z, rfl⟩ := hv
        exact ⟨.int (if l < (if j < i then j else i) then l else (if j < i then j else i)), H, I.kept k, ⟨_, rfl⟩, q⟩
/-! ### the module's tuples of four numbers -/
theorem tup_at {K : PySem.W.Frag} {a : Addr} {ot : Option Addr} {nt : Nat} {st : Array (Option Value)} {x y z u : Nat} {t1 t2 t3 t4 : Tok} {H : Hp} (h : K.lookup a = some ⟨.type "tuple", ot, .seq #[.int (x : Int) t1, .int (y : Int) t2, .int (z : Int) t3, .int (u : Int) t4] nt, st⟩) : SqT K H a (vb [x, y, z, u]) :=
  .inr ⟨_, _, _, h, rfl, rfl, by show 4 ≤ sizeLine; decide, .cons ⟨_, rfl⟩ (.cons ⟨_, rfl⟩ (.cons ⟨_, rfl⟩ (.cons ⟨_, rfl⟩ .nil)))⟩
end Th
namespace Th
open PySem PySem.Spec PyProof.Rows L2
/-! ### the text by places -/
def topS (i : Nat) : Stmt := PySem.Challenge.pw_trusthouse_s01_answers.main.body.getD i (.Pass ⟨0, 0, 0, 0⟩)
abbrev s_high_first : Stmt := topS 10
abbrev s_number_of : Stmt := topS 11
abbrev s_spread : Stmt := topS 12
abbrev s_enciphered : Stmt := topS 13
abbrev s_words_of : Stmt := topS 14
abbrev s_sum_of : Stmt := topS 15
abbrev s_streamed : Stmt := topS 16
abbrev s_sealed : Stmt := topS 17
abbrev s_opened : Stmt := topS 18
abbrev s_is_name_byte : Stmt := topS 33
abbrev s_is_name : Stmt := topS 34
abbrev s_name_told : Stmt := topS 35
abbrev s_row_told : Stmt := topS 36
abbrev s_time_told : Stmt := topS 37
abbrev s_ticket_of : Stmt := topS 38
abbrev s_given_told : Stmt := topS 39
abbrev s_Reader___init__ : Stmt := inClass (topS 40) 0
abbrev s_Reader_some : Stmt := inClass (topS 40) 1
abbrev s_Reader_number : Stmt := inClass (topS 40) 2
abbrev s_Reader_take_name : Stmt := inClass (topS 40) 3
abbrev s_Reader_row : Stmt := inClass (topS 40) 4
abbrev s_Reader_time : Stmt := inClass (topS 40) 5
abbrev s_Reader_want_end : Stmt := inClass (topS 40) 6
abbrev s_asked_in : Stmt := topS 41
abbrev s_more_asked_in : Stmt := topS 42
abbrev s_two_rows_in : Stmt := topS 43
abbrev s_ticket_within : Stmt := topS 44
abbrev s_proof_within : Stmt := topS 45
abbrev s_opened_as : Stmt := topS 46
abbrev s_Refusal___init__ : Stmt := inClass (topS 66) 0
abbrev s_want : Stmt := topS 67
abbrev s_House___init__ : Stmt := inClass (topS 68) 0
abbrev s_House_add : Stmt := inClass (topS 68) 1
abbrev s_House_hold : Stmt := inClass (topS 68) 2
abbrev s_House_let_in : Stmt := inClass (topS 68) 3
abbrev s_House_grant : Stmt := inClass (topS 68) 4
abbrev s_House_asked : Stmt := inClass (topS 68) 5
abbrev s_House_more_asked : Stmt := inClass (topS 68) 6
abbrev s_House_told : Stmt := inClass (topS 68) 7
abbrev s_House_answer : Stmt := inClass (topS 68) 8
abbrev s_House_shown : Stmt := inClass (topS 68) 9
abbrev s_House_show : Stmt := inClass (topS 68) 10
abbrev s_reply : Stmt := topS 75
abbrev s_call_at : Stmt := topS 76
abbrev s_answers : Stmt := topS 77
/-- what the top has written: constants, and names that are still the built-in -/
structure Txt (K : PySem.W.Frag) (mg : Str → Option Value) : Prop where
  b_ValueError : mg "ValueError" = none
  b_abs : mg "abs" = none
  b_all : mg "all" = none
  b_dict : mg "dict" = none
  b_len : mg "len" = none
  b_list : mg "list" = none
  b_min : mg "min" = none
  b_range : mg "range" = none
  b_tuple : mg "tuple" = none
  b_zip : mg "zip" = none
  c_WORD : Glo mg "WORD" (.int 4294967296)
  c_BLOCK : Glo mg "BLOCK" (.int 18446744073709551616)
  c_WORD_BITS : Glo mg "WORD_BITS" (.int 32)
  c_BLOCK_BYTES : Glo mg "BLOCK_BYTES" (.int 8)
  c_KEY_BYTES : Glo mg "KEY_BYTES" (.int 16)
  c_ROUNDS : Glo mg "ROUNDS" (.int 32)
  c_STEP : Glo mg "STEP" (.int 2654435769)
  c_FOR_SUM : Glo mg "FOR_SUM" (.int 54)
  c_FOR_STREAM : Glo mg "FOR_STREAM" (.int 92)
  c_ASKED : Glo mg "ASKED" (.int 1)
  c_GIVEN : Glo mg "GIVEN" (.int 2)
  c_MORE_ASKED : Glo mg "MORE_ASKED" (.int 3)
  c_MORE_GIVEN : Glo mg "MORE_GIVEN" (.int 4)
  c_SHOWN : Glo mg "SHOWN" (.int 5)
  c_REFUSED : Glo mg "REFUSED" (.int 9)
  c_MOST_NAME : Glo mg "MOST_NAME" (.int 32)
  c_LENGTH_BYTES : Glo mg "LENGTH_BYTES" (.int 2)
  c_TIME_BYTES : Glo mg "TIME_BYTES" (.int 8)
  c_LIFE_BYTES : Glo mg "LIFE_BYTES" (.int 4)
  c_POINT : Glo mg "POINT" (.int 46)
  c_HYPHEN : Glo mg "HYPHEN" (.int 45)
  c_HOUSE : ∃ a, mg "HOUSE" = some (.ref a) ∧ ∀ H : Hp, SqT K H a (vb [107, 101, 121, 115])
  c_MOST_MESSAGE : Glo mg "MOST_MESSAGE" (.int 512)
  c_MOST_NAMES : Glo mg "MOST_NAMES" (.int 256)
  c_MOST_HELD : Glo mg "MOST_HELD" (.int 1024)
  c_NEAR : Glo mg "NEAR" (.int 300)
  c_CLIENT_BYTES : Glo mg "CLIENT_BYTES" (.int 33)
  c_DONE : Glo mg "DONE" (.int 0)
  c_NOT_AS_TOLD : Glo mg "NOT_AS_TOLD" (.int (-2))
  c_NO_ROOM : Glo mg "NO_ROOM" (.int (-5))
  c_NO_MESSAGE : Glo mg "NO_MESSAGE" (.int 1)
  c_NO_CLIENT : Glo mg "NO_CLIENT" (.int 2)
  c_NO_SERVICE : Glo mg "NO_SERVICE" (.int 3)
  c_NO_LIFE : Glo mg "NO_LIFE" (.int 4)
  c_BAD_TICKET : Glo mg "BAD_TICKET" (.int 5)
  c_NOT_NOW : Glo mg "NOT_NOW" (.int 6)
  c_BAD_PROOF : Glo mg "BAD_PROOF" (.int 7)
  c_SHOWN_BEFORE : Glo mg "SHOWN_BEFORE" (.int 8)
  c_TOO_MANY_HELD : Glo mg "TOO_MANY_HELD" (.int 10)
  c_BEGIN : Glo mg "BEGIN" (.int 0)
  c_ADD : Glo mg "ADD" (.int 1)
  c_ANSWER : Glo mg "ANSWER" (.int 2)
  c_NUMBERS : ∃ a, mg "NUMBERS" = some (.ref a) ∧ ∀ H : Hp, SqT K H a (vb [0, 1, 1, 1])
  c_ROWS : ∃ a, mg "ROWS" = some (.ref a) ∧ ∀ H : Hp, SqT K H a (vb [0, 2, 2, 2])
/-- the classes' addresses -/
structure Cs where
  NoMessage : Addr
  Reader : Addr
  Refusal : Addr
  House : Addr
/-- what the top has written of the classes -/
structure TxtC (K : PySem.W.Frag) (mg : Str → Option Value) (C : Cs) : Prop where
  NoMessage_g : mg "NoMessage" = some (.ref C.NoMessage)
  NoMessage_x : PySem.W.excIn K C.NoMessage [.type "ValueError", .type "Exception", .type "BaseException", .type "object"] "ValueError.__new__" = true
  NoMessage_k : PySem.W.keepIn K (.ref C.NoMessage) = true
  NoMessage_b : PySem.W.subIn K (.ref C.NoMessage) (.type "BaseException") = some true
  NoMessage_t : PySem.W.typeIn K (.ref C.NoMessage) = some (.type "type")
  NoMessage_e : PySem.W.exmOne K (.ref C.NoMessage) (.ref C.NoMessage) = some true
  Reader_cl : Cls K C.Reader
  Reader_g : mg "Reader" = some (.ref C.Reader)
  Reader_no_data : NoAttr K C.Reader "data"
  Reader_no_at : NoAttr K C.Reader "at"
  Refusal_g : mg "Refusal" = some (.ref C.Refusal)
  Refusal_o : OexC K C.Refusal
  Refusal_f : XfC K C.Refusal
  Refusal_no_why : PySem.W.findIn K (.ref C.Refusal) "why" = some none
  Refusal_e : PySem.W.exmOne K (.ref C.Refusal) (.ref C.Refusal) = some true
  Refusal_nm : PySem.W.exmOne K (.ref C.Refusal) (.ref C.NoMessage) = some false
  ve : PySem.W.findCls K (.type "ValueError") (.type "type") "__init__" = some (.val (.builtin "ValueError.__init__"))
  House_cl : Cls K C.House
  House_g : mg "House" = some (.ref C.House)
  House_no_known : NoAttr K C.House "known"
  House_no_held : NoAttr K C.House "held"
end Th
namespace Th
open PySem PySem.Spec PyProof.Rows L2
section
variable {P : Program} {w : World} {K : PySem.W.Frag} {mg : Str → Option Value} {base : Heap}
/-! ### high_first -/
theorem sc_high_first : FnScope ["number", "many", "k"] ["number", "many"] (defScope s_high_first) := ⟨rfl, rfl, rfl, by decide +kernel, rfl, by decide +kernel, by decide +kernel⟩
def sp_high_first : Sp := fun vs H Q _ => ∃ n k : Nat, vs = [.int (n : Int), .int (k : Int)] ∧ k ≤ 1000 ∧ outL H Q (Ql67.be k n)
theorem high_item (n k i : Nat) (hi : i < k) : Builtin.bitAnd ((n : Int) / 2 ^ ((8 : Int) * (((k : Int) - 1) + (i : Int) * -1)).toNat) 255 = ((n / 2 ^ (8 * (k - 1 - i)) % 256 : Nat) : Int) := by
  have e : (8 : Int) * (((k : Int) - 1) + (i : Int) * -1) = ((8 * (k - 1 - i) : Nat) : Int) := by omega
  rw [e, i_shr]
  show Builtin.bitAnd _ ((255 : Nat) : Int) = _
  rw [i_and, and_255]
theorem ok_high_first {f : Addr} {fd : FuncData} (F : Fun K "high_first" "high_first" s_high_first f fd) (T : Txt K mg) : FnOk P w K mg base CX0 1 f fd ["number", "many"] sp_high_first := by
  refine F.ok sc_high_first (fun vs H Q E h => ?_) (fun cdv A outer s H vs Q E hr h => ?_)
  · obtain ⟨n, k, rfl, _⟩ := h
    rfl
  · obtain ⟨n, k, rfl, hk, q⟩ := h
    refine ⟨_, pss_one (ps_ret (pe_lc (own := [("k", 2)]) (g := gName 2) (tt := tYes) rfl sc_high_first.nd
      (pi_range3 (by rfl) T.b_range (pa_cons (pe_op op_sub (pv 1) pe_int) (pa_cons (pe_un un_neg pe_int) (pa_cons (pe_un un_neg pe_int) pa_nil))))
      (blkOk_by (own := [("k", 2)]) (N := ["number", "many", "k"]) (sc := defScope s_high_first) (by decide +kernel)) (fun _ _ _ _ _ => pg_name (i := 2) sc_high_first.nd rfl (Or.inl rfl)) (fun _ _ _ _ _ => pts_nil)
      (fun _ _ _ _ _ => pe_op op_and (pe_op op_shr (pv 0) (pe_op op_mul pe_int (pv 2))) pe_int))), ?_⟩
    have hR : RgC ((k : Int) - 1) (-1) (-1) k := by
      have e : (((k : Int) - 1) - (-1)).toNat = k := by omega
      have r := RgC.neg (i := (k : Int) - 1) (j := -1) (by omega) (by omega) (by decide) (by decide)
      rw [e] at r
      exact r
    refine ⟨_, rfl, _, _, rfl, rfl, _, rfl, _, rfl, _, _, _, k, rfl, hR, fun D hD => ?_⟩
    refine lc_it walk_rangeC (fun i H' => Same H H' ∧ H' D = some (.lst (vb ((Ql67.be k n).take i)))) ⟨same_upd hD, upd_same⟩ (fun _ _ _ _ => trivial) ?_ ?_
    · rintro i x H1 H2 hi ⟨s1, e1⟩ ⟨rfl, rfl⟩
      refine ⟨rfl, _, rfl, _, rfl, _, _, rfl, rfl, .inl ⟨by decide, by decide⟩, _, _, rfl, rfl, ?_, _, _, rfl, rfl, _, e1, ?_, same_set s1 hD, ?_⟩
      · show (0 : Int) ≤ 8 * (((k : Int) - 1) + (i : Int) * -1)
        omega
      · rw [vb_length]
        exact lt_line (Nat.le_trans (List.length_take_le _ _) (by omega))
      · rw [upd_same, vb_more (be_get k n i hi), ← high_item n k i hi]
    · rintro H1 ⟨s1, e1⟩
      refine q H1 D s1 hD ?_
      rw [e1, List.take_of_length_le (by rw [be_length]; exact Nat.le_refl _)]
/-! ### number_of -/
theorem sc_number_of : FnScope ["row", "found", "byte"] ["row"] (defScope s_number_of) := ⟨rfl, rfl, rfl, by decide +kernel, rfl, by decide +kernel, by decide +kernel⟩
def sp_number_of (K : PySem.W.Frag) : Sp := fun vs H Q _ => ∃ (a : Addr) (l : List Nat), vs = [.ref a] ∧ SqL K H a (vb l) ∧ Q (.int (Ql67.num l : Nat)) H
theorem take_snoc {l : List Nat} {i n : Nat} (h : l[i]? = some n) : l.take (i + 1) = l.take i ++ [n] := by
  rw [List.take_add_one, h]
  rfl
theorem ok_number_of {f : Addr} {fd : FuncData} (F : Fun K "number_of" "number_of" s_number_of f fd) (T : Txt K mg) : FnOk P w K mg base CX0 1 f fd ["row"] (sp_number_of K) := by
  refine F.ok sc_number_of (fun vs H Q E h => ?_) (fun cdv A outer s H vs Q E hr h => ?_)
  · obtain ⟨a, l, rfl, _⟩ := h
    rfl
  · obtain ⟨a, l, rfl, hS, q⟩ := h
    refine ⟨_, pss_cons (ps_set (i := 1) sc_number_of.nd rfl (Or.inl rfl) pe_int)
      (pss_cons (ps_for PassesOwn.never rfl (pi_list (pv 0)) (pg_name (i := 2) sc_number_of.nd rfl (Or.inl rfl))
        (pss_one (ps_set (i := 1) sc_number_of.nd rfl (Or.inl rfl) (pe_op op_add (pe_op op_mul pe_int (pv 1)) (pv 2)))))
      (pss_one (ps_ret (pv 1)))), ?_⟩
    refine ⟨_, rfl, a, rfl, ⟨_, hS⟩, for_list (K := K) (a := a) (xs := vb l) (fun i σ H' => H' = H ∧ ∃ v : Option V, σ = [some (.ref a), some (.int (Ql67.num (l.take i) : Nat)), v]) ⟨rfl, none, rfl⟩ (fun i σ H' _ h => by rw [h.1]; exact hS) ?_ ?_⟩
    · rintro i x σ H' hx ⟨rfl, v, rfl⟩
      obtain ⟨n, hn, rfl⟩ := vb_at hx
      refine ⟨_, rfl, _, _, rfl, rfl, .inl ⟨by decide, by decide⟩, _, rfl, _, _, rfl, rfl, rfl, some (.int (n : Int)), ?_⟩
      rw [take_snoc hn, num_snoc]
      show [some (V.ref a), some (V.int (256 * ((Ql67.num (l.take i) : Nat) : Int) + (n : Int))), some (V.int (n : Int))] = _
      rw [Int.natCast_add, Int.natCast_mul]
      rfl
    · rintro σ H' ⟨rfl, v, rfl⟩
      rw [vb_length, List.take_length]
      exact ⟨_, rfl, q⟩
/-! ### spread -/
theorem sc_spread : FnScope ["half"] ["half"] (defScope s_spread) := ⟨rfl, rfl, rfl, by decide +kernel, rfl, by decide +kernel, by decide +kernel⟩
def spr (x : Nat) : Nat := ((((x * 16 % Ql67.W) ^^^ (x / 32)) + x) % Ql67.W)
def sp_spread : Sp := fun vs H Q _ => ∃ x : Nat, vs = [.int (x : Int)] ∧ x < 2 ^ 32 ∧ Q (.int (spr x : Nat)) H
theorem spread_val (x : Nat) : Int.fmod (Builtin.bitXor (Builtin.bitAnd ((x : Int) * 2 ^ (4 : Int).toNat) (4294967296 - 1)) ((x : Int) / 2 ^ (5 : Int).toNat) + (x : Int)) 4294967296 = ((spr x : Nat) : Int) := by
  have e1 : (x : Int) * 2 ^ (4 : Int).toNat = ((x * 2 ^ 4 : Nat) : Int) := i_shl x 4
  have e2 : (x : Int) / 2 ^ (5 : Int).toNat = ((x / 2 ^ 5 : Nat) : Int) := i_shr x 5
  have e3 : (4294967296 - 1 : Int) = ((4294967295 : Nat) : Int) := by decide
  have e4 : (4294967296 : Int) = ((4294967296 : Nat) : Int) := by decide
  have e5 : x * 2 ^ 4 &&& 4294967295 = x * 2 ^ 4 % 2 ^ 32 := Nat.and_two_pow_sub_one_eq_mod _ 32
  rw [e1, e2, e3, i_and, i_xor, ← Int.natCast_add, e4, i_mod _ _ (by decide), e5]
  rfl
theorem z5 : (0 : Int) ≤ 5 := by decide
theorem zW : (4294967296 : Int) ≠ 0 := by decide
theorem ok_spread {f : Addr} {fd : FuncData} (F : Fun K "spread" "spread" s_spread f fd) (T : Txt K mg) : FnOk P w K mg base CX0 1 f fd ["half"] sp_spread := by
  refine F.ok sc_spread (fun vs H Q E h => ?_) (fun cdv A outer s H vs Q E hr h => ?_)
  · obtain ⟨x, rfl, _⟩ := h
    rfl
  · obtain ⟨x, rfl, hx, q⟩ := h
    refine ⟨_, pss_one (ps_ret (pe_op op_modN (pe_op op_add (pe_op op_xor (pe_op op_and (pe_op op_shl (pv 0) pe_int) (pe_op op_sub (pe_gv T.c_WORD) pe_int)) (pe_op op_shr (pv 0) pe_int)) (pv 0)) (pe_gv T.c_WORD))), ?_⟩
    refine ⟨_, rfl, _, _, rfl, rfl, ⟨by decide, by decide, ?_⟩, _, _, rfl, rfl, _, _, rfl, rfl, _, rfl, _, _, rfl, rfl, z5, _, _, rfl, rfl, _, rfl, _, _, rfl, rfl, _, _, rfl, rfl, zW, ?_⟩
    · show x < 2 ^ 64
      omega
    · exact (congrArg (fun z => Q (V.int z) H) (spread_val x)).mpr q
/-! ### enciphered -/
theorem sc_enciphered : FnScope ["words", "block", "a", "b", "s", "k"] ["words", "block"] (defScope s_enciphered) := ⟨rfl, rfl, rfl, by decide +kernel, rfl, by decide +kernel, by decide +kernel⟩
def blk (ks : List Nat) (x : Nat) : Nat := (Ql67.rounds 32 ks 0 (x / Ql67.W) (x % Ql67.W)).1 * Ql67.W + (Ql67.rounds 32 ks 0 (x / Ql67.W) (x % Ql67.W)).2
def sp_enciphered (K : PySem.W.Frag) : Sp := fun vs H Q _ => ∃ (a : Addr) (ks : List Nat) (x : Nat), vs = [.ref a, .int (x : Int)] ∧ SqL K H a (vb ks) ∧ ks.length = 4 ∧ x < 2 ^ 64 ∧ Q (.int (blk ks x : Nat)) H
theorem mix_eq (x s k : Nat) : Ql67.mix x s k = spr x ^^^ ((s + k) % Ql67.W) := rfl
/-- a grows -/
theorem half_val (a b s k : Nat) : Int.fmod ((a : Int) + Builtin.bitXor (spr b : Nat) (Int.fmod ((s : Int) + (k : Int)) 4294967296)) 4294967296 = (((a + Ql67.mix b s k) % Ql67.W : Nat) : Int) := by
  have e4 : (4294967296 : Int) = ((4294967296 : Nat) : Int) := by decide
  rw [e4, ← Int.natCast_add, i_mod _ _ (by decide), i_xor, ← Int.natCast_add, i_mod _ _ (by decide)]
  rfl
theorem step_val (s : Nat) : Int.fmod ((s : Int) + 2654435769) 4294967296 = (((s + 0x9E3779B9) % Ql67.W : Nat) : Int) := by
  have e4 : (4294967296 : Int) = ((4294967296 : Nat) : Int) := by decide
  have e5 : (2654435769 : Int) = ((2654435769 : Nat) : Int) := by decide
  rw [e4, e5, ← Int.natCast_add, i_mod _ _ (by decide)]
  rfl
theorem word_at {ks : List Nat} (h : ks.length = 4) (j : Nat) : atI (vb ks) (Int.fmod (j : Int) 4) = some (.int (ks.getD (j % 4) 0 : Nat)) := by
  have e4 : (4 : Int) = ((4 : Nat) : Int) := rfl
  rw [e4, i_mod _ _ (by decide)]
  refine atI_nat (vb_get ?_)
  have hj : j % 4 < ks.length := by rw [h]; exact Nat.mod_lt _ (by decide)
  rw [List.getD_eq_getElem?_getD, List.getElem?_eq_getElem hj]
  rfl
theorem z32 : (0 : Int) ≤ 32 := by decide
theorem z11 : (0 : Int) ≤ 11 := by decide
theorem z4 : (4 : Int) ≠ 0 := by decide
theorem ok_enciphered {f : Addr} {fd : FuncData} (F : Fun K "enciphered" "enciphered" s_enciphered f fd) (T : Txt K mg) (G1 : Df P w K mg base CX0 1 "spread" ["half"] sp_spread) : FnOk P w K mg base CX0 2 f fd ["words", "block"] (sp_enciphered K) := by
  refine F.ok sc_enciphered (fun vs H Q E h => ?_) (fun cdv A outer s H vs Q E hr h => ?_)
  · obtain ⟨a, ks, x, rfl, _⟩ := h
    rfl
  · obtain ⟨wa, ks, x, rfl, hS, h4, hx, q⟩ := h
    have hr1 : Room 1 _ := hr.mono (by decide)
    refine ⟨_, pss_cons (ps_set (i := 2) sc_enciphered.nd rfl (Or.inl rfl) (pe_op op_shr (pv 1) (pe_gv T.c_WORD_BITS)))
      (pss_cons (ps_set (i := 3) sc_enciphered.nd rfl (Or.inl rfl) (pe_op op_modN (pv 1) (pe_gv T.c_WORD)))
      (pss_cons (ps_set (i := 4) sc_enciphered.nd rfl (Or.inl rfl) pe_int)
      (pss_cons (ps_for PassesOwn.never rfl (pi_range1 rfl T.b_range (pa_cons (pe_gv T.c_ROUNDS) pa_nil)) (pg_name (i := 5) sc_enciphered.nd rfl (Or.inl rfl))
        (pss_cons (ps_set (i := 2) sc_enciphered.nd rfl (Or.inl rfl) (pe_op op_modN (pe_op op_add (pv 2) (pe_op op_xor (pe_callD G1 hr1 pass0 (pa_cons (pv 3) pa_nil))
            (pe_op op_modN (pe_op op_add (pv 4) (pe_ix ix_list (pv 0) (pe_op op_modN (pv 4) pe_int) (fun _ _ => rfl))) (pe_gv T.c_WORD)))) (pe_gv T.c_WORD)))
        (pss_cons (ps_set (i := 4) sc_enciphered.nd rfl (Or.inl rfl) (pe_op op_modN (pe_op op_add (pv 4) (pe_gv T.c_STEP)) (pe_gv T.c_WORD)))
        (pss_one (ps_set (i := 3) sc_enciphered.nd rfl (Or.inl rfl) (pe_op op_modN (pe_op op_add (pv 3) (pe_op op_xor (pe_callD G1 hr1 pass0 (pa_cons (pv 2) pa_nil))
            (pe_op op_modN (pe_op op_add (pv 4) (pe_ix ix_list (pv 0) (pe_op op_modN (pe_op op_shr (pv 4) pe_int) pe_int) (fun _ _ => rfl))) (pe_gv T.c_WORD)))) (pe_gv T.c_WORD)))))))
      (pss_one (ps_ret (pe_op op_add (pe_op op_shl (pv 2) (pe_gv T.c_WORD_BITS)) (pv 3))))))), ?_⟩
    have hW : Ql67.W = 4294967296 := by decide
    have ea : (x : Int) / 2 ^ (32 : Int).toNat = ((x / Ql67.W : Nat) : Int) := i_shr x 32
    have eb : Int.fmod (x : Int) 4294967296 = ((x % Ql67.W : Nat) : Int) := i_mod x 4294967296 (by decide)
    refine ⟨_, rfl, _, _, rfl, rfl, z32, _, rfl, _, _, rfl, rfl, zW, 32, rfl, by decide, by decide, ?_⟩
    refine for_range (lo := 0) (n := 32) (fun i σ H' => H' = H ∧ ∃ (a b s : Nat) (v : Option V), σ = [some (.ref wa), some (.int (x : Int)), some (.int (a : Int)), some (.int (b : Int)), some (.int (s : Int)), v] ∧ a < Ql67.W ∧ b < Ql67.W ∧ s < Ql67.W ∧
      Ql67.rounds (32 - i) ks s a b = Ql67.rounds 32 ks 0 (x / Ql67.W) (x % Ql67.W)) ⟨rfl, x / Ql67.W, x % Ql67.W, 0, none, ?_, ?_, Nat.mod_lt _ (by decide), by decide, rfl⟩ ?_ ?_
    · rw [← ea, ← eb]
      rfl
    · rw [Nat.div_lt_iff_lt_mul (by decide), hW]
      omega
    · rintro i σ H' hi ⟨rfl, a, b, s, v, rfl, la, lb, ls, hq⟩
      have e : 32 - i = (32 - (i + 1)) + 1 := by omega
      rw [e, rounds_more] at hq
      refine ⟨_, rfl, ⟨_, rfl, b, rfl, by rw [hW] at lb; exact lb, _, rfl, _, rfl, _, rfl, _, _, rfl, rfl, z4, wa, _, _, _, rfl, rfl, hS, word_at h4 s, _, _, rfl, rfl, _, _, rfl, rfl, zW, _, _, rfl, rfl, _, _, rfl, rfl, _, _, rfl, rfl, zW, ?_⟩⟩
      dsimp only
      rw [half_val a b s]
      refine ⟨_, rfl, _, _, rfl, rfl, _, _, rfl, rfl, zW, ?_⟩
      dsimp only
      rw [step_val]
      have ec : (((s + 0x9E3779B9) % Ql67.W : Nat) : Int) / 2 ^ (11 : Int).toNat = (((s + 0x9E3779B9) % Ql67.W / 2048 : Nat) : Int) := i_shr _ 11
      refine ⟨_, rfl, ⟨_, rfl, _, rfl, (show _ < Ql67.W from Nat.mod_lt _ (by decide)), _, rfl, _, rfl, _, rfl, _, _, rfl, rfl, z11, _, _, rfl, rfl, z4, wa, _, _, _, rfl, rfl, hS, (by rw [ec]; exact word_at h4 _), _, _, rfl, rfl, _, _, rfl, rfl, zW, _, _, rfl, rfl, _, _, rfl, rfl, _, _, rfl, rfl, zW, ?_⟩⟩
      dsimp only
      rw [half_val b]
      exact ⟨rfl, _, _, _, _, rfl, Nat.mod_lt _ (by decide), Nat.mod_lt _ (by decide), Nat.mod_lt _ (by decide), hq⟩
    · rintro σ H' ⟨rfl, a, b, s, v, rfl, la, lb, ls, hq⟩
      have hq' : (a, b) = Ql67.rounds 32 ks 0 (x / Ql67.W) (x % Ql67.W) := hq
      refine ⟨_, rfl, _, _, rfl, rfl, ⟨by decide, by decide, ?_⟩, _, rfl, _, _, rfl, rfl, ?_⟩
      · show a < 2 ^ 64
        rw [hW] at la
        omega
      · have e : (a : Int) * 2 ^ (32 : Int).toNat + (b : Int) = ((blk ks x : Nat) : Int) := by
          unfold blk
          rw [← hq']
          have e1 : (a : Int) * 2 ^ (32 : Int).toNat = ((a * 2 ^ 32 : Nat) : Int) := i_shl a 32
          rw [e1, ← Int.natCast_add]
          rfl
        exact (congrArg (fun z => Q (V.int z) H') e).mpr q
/-! ### words_of -/
theorem sc_words_of : FnScope ["key", "byte", "changed", "one", "at"] ["key", "byte"] (defScope s_words_of) := ⟨rfl, rfl, rfl, by decide +kernel, rfl, by decide +kernel, by decide +kernel⟩
def sp_words_of (K : PySem.W.Frag) : Sp := fun vs H Q _ => ∃ (a : Addr) (k : List Nat) (x : Nat), vs = [.ref a, .int (x : Int)] ∧ SqL K H a (vb k) ∧ k.length = 16 ∧ outL H Q (words (k.map fun b => b ^^^ x))
theorem rg_words : RgC 0 16 4 4 := ⟨by decide, by decide, by decide, by decide⟩
theorem words_get (k : List Nat) (i : Nat) (h : i < 4) : (words k)[i]? = some (Ql67.num ((k.drop (4 * i)).take 4)) := by
  unfold words
  rw [List.getElem?_map, List.getElem?_range h]
  rfl
theorem ok_words_of {f : Addr} {fd : FuncData} (F : Fun K "words_of" "words_of" s_words_of f fd) (T : Txt K mg) (G1 : Df P w K mg base CX0 1 "number_of" ["row"] (sp_number_of K)) : FnOk P w K mg base CX0 2 f fd ["key", "byte"] (sp_words_of K) := by
  refine F.ok sc_words_of (fun vs H Q E h => ?_) (fun cdv A outer s H vs Q E hr h => ?_)
  · obtain ⟨a, k, x, rfl, _⟩ := h
    rfl
  · obtain ⟨a, k, x, rfl, hS, hk, q⟩ := h
    have hr1 : Room 1 _ := hr.mono (by decide)
    refine ⟨_, pss_cons (ps_set (i := 2) sc_words_of.nd rfl (Or.inr rfl) (pe_lc (own := [("one", 3)]) (g := gName 3) (tt := tYes) rfl sc_words_of.nd (pi_list (pv 0))
        (blkOk_by (own := [("one", 3)]) (N := ["key", "byte", "changed", "one", "at"]) (sc := defScope s_words_of) (by decide +kernel)) (fun _ _ _ _ _ => pg_name (i := 3) sc_words_of.nd rfl (Or.inl rfl)) (fun _ _ _ _ _ => pts_nil)
        (fun _ _ _ _ _ => pe_op op_xor (pv 3) (pv 1))))
      (pss_one (ps_ret (pe_lc (own := [("at", 4)]) (g := gName 4) (tt := tYes) rfl sc_words_of.nd
        (pi_range3 (by rfl) T.b_range (pa_cons pe_int (pa_cons (pe_gv T.c_KEY_BYTES) (pa_cons pe_int pa_nil))))
        (blkOk_by (own := [("at", 4)]) (N := ["key", "byte", "changed", "one", "at"]) (sc := defScope s_words_of) (by decide +kernel)) (fun _ _ _ _ _ => pg_name (i := 4) sc_words_of.nd rfl (Or.inl rfl)) (fun _ _ _ _ _ => pts_nil)
        (fun _ _ _ _ _ => pe_callD G1 hr1 pass0 (pa_cons (pe_slice (show SlR _ (rSlL K) from sl_list) (pv 2) (po_some (pv 4)) (po_some (pe_op op_add (pv 4) pe_int))) pa_nil))))), ?_⟩
    have hl : (vb k).length = k.length := vb_length k
    refine ⟨_, rfl, a, rfl, ⟨_, hS⟩, fun D hD => ?_⟩
    refine lc_list (K := K) (a := a) (xs := vb k) (fun i H' => Same H H' ∧ H' D = some (.lst (vb ((k.map fun b => b ^^^ x).take i)))) ⟨same_upd hD, upd_same⟩ (fun i H' _ h => h.1.seq hS) ?_ ?_
    · rintro i y H1 hy ⟨s1, e1⟩
      obtain ⟨n, hn, rfl⟩ := vb_at hy
      have hn' : (k.map fun b => b ^^^ x)[i]? = some (n ^^^ x) := by rw [List.getElem?_map, hn]; rfl
      refine ⟨rfl, _, rfl, _, rfl, _, _, rfl, rfl, _, e1, ?_, same_set s1 hD, ?_⟩
      · rw [vb_length]
        exact lt_line (Nat.le_trans (List.length_take_le _ _) (by have := (List.getElem?_eq_some_iff.mp hn).1; omega))
      · rw [upd_same, vb_more hn', ← i_xor]
    · rintro H1 ⟨s1, e1⟩
      rw [hl, List.take_of_length_le (by rw [List.length_map]; exact Nat.le_refl _)] at e1
      refine ⟨_, _, _, 4, rfl, rg_words, fun D2 hD2 => ?_⟩
      refine lc_it walk_rangeC (fun i H' => Same H1 H' ∧ H' D2 = some (.lst (vb ((words (k.map fun b => b ^^^ x)).take i)))) ⟨same_upd hD2, upd_same⟩ (fun _ _ _ _ => trivial) ?_ ?_
      · rintro i y H2 H3 hi ⟨s2, e2⟩ ⟨rfl, rfl⟩
        have ei : (0 : Int) + (i : Int) * 4 = ((4 * i : Nat) : Int) := by omega
        have ej : (0 : Int) + (i : Int) * 4 + 4 = ((4 * i + 4 : Nat) : Int) := by omega
        refine ⟨rfl, _, rfl, _, rfl, _, rfl, _, rfl, _, _, rfl, rfl, _, rfl, D, _, rfl, lst_of (s2 _ _ e1), fun p hp => ?_⟩
        have ec : cutV (vb (k.map fun b => b ^^^ x)) (some ((0 : Int) + (i : Int) * 4)) (some ((0 : Int) + (i : Int) * 4 + 4)) = vb (((k.map fun b => b ^^^ x).drop (4 * i)).take 4) := cut_vb _ ei ej
        refine ⟨p, _, rfl, lst_of (upd_same.trans (congrArg (fun z => some (HO.lst z)) ec)), _, same_upd hp _ _ e2, ?_, same_set (same_new s2 hp) hD2, ?_⟩
        · rw [vb_length]
          exact lt_line (Nat.le_trans (List.length_take_le _ _) (by omega))
        · rw [upd_same, vb_more (words_get _ i hi)]
      · rintro H2 ⟨s2, e2⟩
        refine q H2 D2 (s1.trans s2) (s1.free hD2) ?_
        rw [e2, List.take_of_length_le (by rw [words_len]; exact Nat.le_refl _)]
/-! ### sum_of -/
theorem sc_sum_of : FnScope ["key", "text", "words", "row", "found", "at"] ["key", "text"] (defScope s_sum_of) := ⟨rfl, rfl, rfl, by decide +kernel, rfl, by decide +kernel, by decide +kernel⟩
def sp_sum_of (K : PySem.W.Frag) : Sp := fun vs H Q _ => ∃ (a b : Addr) (k m : List Nat), vs = [.ref a, .ref b] ∧ SqL K H a (vb k) ∧ k.length = 16 ∧ SqL K H b (vb m) ∧ Ql67.Bytes m ∧ m.length ≤ 10000 ∧ outV H Q (.int (Ql67.sum k m : Nat))
theorem z8 : (8 : Int) ≠ 0 := by decide
theorem pad_val (n L : Nat) (h : L = 8 + n) : Int.fmod (-(L : Int)) 8 = ((padOf n : Nat) : Int) := by
  rw [PySem.W.os_fmod_pos (by decide)]
  unfold padOf
  omega
theorem row_val (m : List Nat) (j : Int) (h : j = ((padOf m.length : Nat) : Int)) : (vb (Ql67.be 8 m.length) ++ vb m) ++ (List.replicate j.toNat [V.int 0]).flatten = vb (rowOf m) := by
  rw [h, Int.toNat_natCast, List.flatten_replicate_singleton]
  unfold rowOf
  rw [vb_append, vb_append]
  have e : List.replicate (padOf m.length) (V.int 0) = vb (List.replicate (padOf m.length) 0) := by
    unfold vb
    rw [List.map_replicate]
    rfl
  rw [e]
theorem rowOf_bytes {m : List Nat} (h : Ql67.Bytes m) : Ql67.Bytes (rowOf m) := by
  intro b hb
  unfold rowOf at hb
  rcases List.mem_append.mp hb with hb | hb
  · rcases List.mem_append.mp hb with hb | hb
    · exact be_lt _ _ _ hb
    · exact h b hb
  · rw [List.eq_of_mem_replicate hb]
    decide
theorem chunk_lt {l : List Nat} (h : Ql67.Bytes l) (i : Nat) : chunk l i < 2 ^ 64 := by
  have h1 := num_lt ((l.drop (8 * i)).take 8) (fun b hb => h b (List.mem_of_mem_drop (List.mem_of_mem_take hb)))
  refine Nat.lt_of_lt_of_le h1 (Nat.pow_le_pow_right (by decide) ?_)
  rw [List.length_take]
  omega
theorem ok_sum_of {f : Addr} {fd : FuncData} (F : Fun K "sum_of" "sum_of" s_sum_of f fd) (T : Txt K mg) (G1 : Df P w K mg base CX0 2 "words_of" ["key", "byte"] (sp_words_of K)) (G2 : Df P w K mg base CX0 1 "high_first" ["number", "many"] sp_high_first)
    (G3 : Df P w K mg base CX0 2 "enciphered" ["words", "block"] (sp_enciphered K)) (G4 : Df P w K mg base CX0 1 "number_of" ["row"] (sp_number_of K)) : FnOk P w K mg base CX0 3 f fd ["key", "text"] (sp_sum_of K) := by
  refine F.ok sc_sum_of (fun vs H Q E h => ?_) (fun cdv A outer s H vs Q E hr h => ?_)
  · obtain ⟨a, b, k, m, rfl, _⟩ := h
    rfl
  · obtain ⟨a, b, k, m, rfl, hK, hk, hM, hB, hlen, q⟩ := h
    refine ⟨_, pss_cons (ps_set (i := 2) sc_sum_of.nd rfl (Or.inl rfl) (pe_callD G1 (hr.mono (by decide)) pass0 (pa_cons (pv 0) (pa_cons (pe_gv T.c_FOR_SUM) pa_nil))))
      (pss_cons (ps_set (i := 3) sc_sum_of.nd rfl (Or.inl rfl) (pe_op op_cat (pe_callD G2 (hr.mono (by decide)) pass0 (pa_cons (pe_callB call_len_seq (by rfl) T.b_len PySem.boot_len (pa_cons (pv 1) pa_nil)) (pa_cons (pe_gv T.c_BLOCK_BYTES) pa_nil)))
          (pe_callTy call_list_of (by rfl) T.b_list (by decide +kernel) (pa_cons (pv 1) pa_nil))))
      (pss_cons (ps_set (i := 3) sc_sum_of.nd rfl (Or.inl rfl) (pe_op op_cat (pv 3) (pe_op op_rep (pe_lst (pa_cons pe_int pa_nil)) (pe_op op_modN (pe_un un_neg (pe_callB call_len_seq (by rfl) T.b_len PySem.boot_len (pa_cons (pv 3) pa_nil))) (pe_gv T.c_BLOCK_BYTES)))))
      (pss_cons (ps_set (i := 4) sc_sum_of.nd rfl (Or.inl rfl) pe_int)
      (pss_cons (ps_for PassesOwn.never rfl (pi_range3 (by rfl) T.b_range (pa_cons pe_int (pa_cons (pe_callB call_len_seq (by rfl) T.b_len PySem.boot_len (pa_cons (pv 3) pa_nil)) (pa_cons (pe_gv T.c_BLOCK_BYTES) pa_nil)))) (pg_name (i := 5) sc_sum_of.nd rfl (Or.inl rfl))
        (pss_one (ps_set (i := 4) sc_sum_of.nd rfl (Or.inl rfl) (pe_callD G3 (hr.mono (by decide)) pass0 (pa_cons (pv 2) (pa_cons (pe_op op_xor (pv 4) (pe_callD G4 (hr.mono (by decide)) pass0
          (pa_cons (pe_slice sl_list (pv 3) (po_some (pv 5)) (po_some (pe_op op_add (pv 5) (pe_gv T.c_BLOCK_BYTES)))) pa_nil))) pa_nil))))))
      (pss_one (ps_ret (pv 4))))))), ?_⟩
    have hl : (vb m).length = m.length := vb_length m
    -- words
    refine ⟨_, rfl, a, k, 54, rfl, hK, hk, fun H1 pw s1 n1 e1 => ?_⟩
    -- row
    refine ⟨_, rfl, b, _, rfl, .inl (s1.seq hM), (vb m).length, 8, rfl, by decide, fun H2 p2 s2 n2 e2 => ?_⟩
    rw [hl] at e2
    refine ⟨_, rfl, b, _, rfl, .inl (s2.seq (s1.seq hM)), fun p3 n3 => ?_⟩
    generalize hE : upd _ p3 _ = H3
    obtain ⟨s3, e3⟩ := gen_new hE n3
    clear hE
    refine ⟨p2, p3, _, _, rfl, rfl, s3 _ _ e2, e3, ?_, fun p4 n4 => ?_⟩
    · rw [vb_length, vb_length, be_length]
      exact le_line (by omega)
    generalize hE : upd _ p4 _ = H4
    obtain ⟨s4, e4⟩ := gen_new hE n4
    clear hE
    have h4 : (vb (Ql67.be 8 m.length) ++ vb m).length = 8 + m.length := by rw [List.length_append, vb_length, vb_length, be_length]
    refine ⟨_, rfl, (by show 1 ≤ sizeLine; decide), fun p5 n5 => ?_⟩
    generalize hE : upd _ p5 _ = H5
    obtain ⟨s5, e5⟩ := gen_new hE n5
    clear hE
    have hpad := pad_val m.length _ h4
    have hp8 : padOf m.length < 8 := Nat.mod_lt _ (by decide)
    refine ⟨_, rfl, p4, _, rfl, .inl (lst_of (s5 _ _ e4)), _, rfl, _, _, rfl, rfl, z8, p5, _, _, rfl, rfl, e5, ?_, ?_, ?_, fun p6 n6 => ?_⟩
    · rw [hpad]
      omega
    · rw [hpad]
      omega
    · rw [hpad, Int.toNat_natCast]
      exact le_line (by show 1 * _ ≤ 100000; omega)
    generalize hE : upd _ p6 _ = H6
    obtain ⟨s6, e6⟩ := gen_new hE n6
    clear hE
    refine ⟨p4, p6, _, _, rfl, rfl, s6 _ _ (s5 _ _ e4), e6, ?_, fun p7 n7 => ?_⟩
    · rw [List.flatten_replicate_singleton, List.length_replicate, hpad, h4, Int.toNat_natCast]
      exact le_line (by omega)
    generalize hE : upd _ p7 _ = H7
    obtain ⟨s7, e7⟩ := gen_new hE n7
    clear hE
    rw [row_val m _ hpad] at e7
    have sA : Same H1 H7 := s2.trans (s3.trans (s4.trans (s5.trans (s6.trans s7))))
    have hrow : (vb (rowOf m)).length = (rowOf m).length := vb_length _
    have hr8 := rowOf_length m
    have hB2 := rowOf_bytes hB
    have hrl : (rowOf m).length ≤ 100000 := by
      rw [hr8]
      omega
    -- the loop
    refine ⟨_, rfl, p7, _, rfl, .inl (lst_of e7), _, _, _, (rowOf m).length / 8, rfl, ?_, ?_⟩
    · rw [hrow]
      exact rg8 _ _ (.inl (by rw [hr8, Nat.mul_div_cancel_left _ (by decide)])) hrl
    refine for_it walk_rangeC (fun i σ H' => Same H7 H' ∧ ∃ v : Option V, σ = [some (.ref a), some (.ref b), some (.ref pw), some (.ref p7), some (.int (sumTo k m i : Nat)), v]) ⟨Same.refl _, none, rfl⟩ (fun _ _ _ _ _ => trivial) ?_ ?_
    · rintro i x σ H' H'' hi ⟨s8, v, rfl⟩ ⟨rfl, rfl⟩
      have ei : (0 : Int) + (i : Int) * 8 = ((8 * i : Nat) : Int) := by omega
      have ej : (0 : Int) + (i : Int) * 8 + 8 = ((8 * i + 8 : Nat) : Int) := by omega
      refine ⟨_, rfl, _, rfl, _, rfl, _, rfl, _, rfl, _, rfl, _, _, rfl, rfl, _, rfl, p7, _, rfl, lst_of (s8 _ _ e7), fun p9 n9 => ?_⟩
      generalize hE : upd _ p9 _ = H9
      obtain ⟨s9, e9⟩ := gen_new hE n9
      clear hE
      rw [cut_vb (rowOf m) ei ej] at e9
      refine ⟨p9, _, rfl, lst_of e9, _, _, rfl, rfl, pw, words (Ql67.key1 k), sumTo k m i ^^^ chunk (rowOf m) i, ?_, lst_of (s9 _ _ (s8 _ _ (sA _ _ e1))), words_len _, ?_, s8.trans s9, ?_⟩
      · exact congrArg (fun z => [V.ref pw, V.int z]) (i_xor _ _)
      · exact xor_lt (sumTo_lt k m i) (chunk_lt hB2 i)
      · refine ⟨some (.int ((0 : Int) + (i : Int) * 8)), ?_⟩
        rw [sumTo_succ, block_eq _ (xor_lt (sumTo_lt k m i) (chunk_lt hB2 i))]
        rfl
    · rintro σ H' ⟨s8, v, rfl⟩
      rw [sum_eq k m (by omega)]
      exact ⟨_, rfl, q _ (s1.trans (sA.trans s8))⟩
/-! ### streamed -/
theorem sc_streamed : FnScope ["key", "begin", "text", "words", "found", "at", "stream", "one", "other"] ["key", "begin", "text"] (defScope s_streamed) := ⟨rfl, rfl, rfl, by decide +kernel, rfl, by decide +kernel, by decide +kernel⟩
def sp_streamed (K : PySem.W.Frag) : Sp := fun vs H Q _ => ∃ (a b : Addr) (k m : List Nat) (g : Nat), vs = [.ref a, .int (g : Int), .ref b] ∧ SqL K H a (vb k) ∧ k.length = 16 ∧ SqL K H b (vb m) ∧ m.length ≤ 10000 ∧ outL H Q (Ql67.veiled k g m)
theorem zB : (18446744073709551616 : Int) ≠ 0 := by decide
theorem zD8 : (8 : Int) ≠ 0 ∧ (8 : Int).natAbs < 1073741824 := by decide
theorem block_no (g i : Nat) : Int.fmod ((g : Int) + Int.fdiv ((0 : Int) + (i : Int) * 8) 8) 18446744073709551616 = (((g + i) % 2 ^ 64 : Nat) : Int) := by
  have e1 : (0 : Int) + (i : Int) * 8 = ((8 * i : Nat) : Int) := by omega
  have e2 : (8 : Int) = ((8 : Nat) : Int) := rfl
  have e3 : (18446744073709551616 : Int) = ((18446744073709551616 : Nat) : Int) := rfl
  have e4 : 8 * i / 8 = i := Nat.mul_div_cancel_left _ (by decide)
  rw [e1, e2, i_div _ _ (by decide), e4, ← Int.natCast_add, e3, i_mod _ _ (by decide)]
theorem zip_get {X Y : List Nat} {i a b : Nat} (h1 : X[i]? = some a) (h2 : Y[i]? = some b) : (List.zipWith (fun (a b : Nat) => a ^^^ b) X Y)[i]? = some (a ^^^ b) := by
  rw [List.getElem?_zipWith, h1, h2]
theorem ok_streamed {f : Addr} {fd : FuncData} (F : Fun K "streamed" "streamed" s_streamed f fd) (T : Txt K mg) (G1 : Df P w K mg base CX0 2 "words_of" ["key", "byte"] (sp_words_of K)) (G2 : Df P w K mg base CX0 1 "high_first" ["number", "many"] sp_high_first)
    (G3 : Df P w K mg base CX0 2 "enciphered" ["words", "block"] (sp_enciphered K)) : FnOk P w K mg base CX0 3 f fd ["key", "begin", "text"] (sp_streamed K) := by
  refine F.ok sc_streamed (fun vs H Q E h => ?_) (fun cdv A outer s H vs Q E hr h => ?_)
  · obtain ⟨a, b, k, m, g, rfl, _⟩ := h
    rfl
  · obtain ⟨a, b, k, m, g, rfl, hK, hk, hM, hlen, q⟩ := h
    refine ⟨_, pss_cons (ps_set (i := 3) sc_streamed.nd rfl (Or.inl rfl) (pe_callD G1 (hr.mono (by decide)) pass0 (pa_cons (pv 0) (pa_cons (pe_gv T.c_FOR_STREAM) pa_nil))))
      (pss_cons (ps_set (i := 4) sc_streamed.nd rfl (Or.inl rfl) (pe_lst pa_nil))
      (pss_cons (ps_for PassesOwn.never rfl (pi_range3 (by rfl) T.b_range (pa_cons pe_int (pa_cons (pe_callB call_len_seq (by rfl) T.b_len PySem.boot_len (pa_cons (pv 2) pa_nil)) (pa_cons (pe_gv T.c_BLOCK_BYTES) pa_nil)))) (pg_name (i := 5) sc_streamed.nd rfl (Or.inl rfl))
        (pss_cons (ps_set (i := 6) sc_streamed.nd rfl (Or.inl rfl) (pe_callD G2 (hr.mono (by decide)) pass0 (pa_cons (pe_callD G3 (hr.mono (by decide)) pass0 (pa_cons (pv 3) (pa_cons
            (pe_op op_modN (pe_op op_add (pv 1) (pe_op op_fdivN (pv 5) (pe_gv T.c_BLOCK_BYTES))) (pe_gv T.c_BLOCK)) pa_nil))) (pa_cons (pe_gv T.c_BLOCK_BYTES) pa_nil))))
        (pss_one (ps_expr (pe_bm PySem.F.plainAttrs_list PySem.F.slot_list_extend PySem.F.type_list_extend mt_extend (pv 4) (pa_cons
          (pe_lc (own := [("one", 7), ("other", 8)]) (g := gTup K 2 (gCons (gName 7) (gCons (gName 8) gNil))) (tt := tYes) rfl sc_streamed.nd
            (pi_zip (by rfl) T.b_zip (pa_cons (pe_slice sl_list (pv 2) (po_some (pv 5)) (po_some (pe_op op_add (pv 5) (pe_gv T.c_BLOCK_BYTES)))) (pa_cons (pv 6) pa_nil)))
            (blkOk_by (own := [("one", 7), ("other", 8)]) (N := ["key", "begin", "text", "words", "found", "at", "stream", "one", "other"]) (sc := defScope s_streamed) (by decide +kernel))
            (fun _ _ _ _ _ => pg_tup rfl (pgs_cons (pg_name (i := 7) sc_streamed.nd rfl (Or.inl rfl)) (pgs_cons (pg_name (i := 8) sc_streamed.nd rfl (Or.inl rfl)) pgs_nil))) (fun _ _ _ _ _ => pts_nil)
            (fun _ _ _ _ _ => pe_op op_xor (pv 7) (pv 8))) pa_nil))))))
      (pss_one (ps_ret (pv 4))))), ?_⟩
    have hl : (vb m).length = m.length := vb_length m
    -- words, found
    refine ⟨_, rfl, a, k, 92, rfl, hK, hk, fun H1 pw s1 n1 e1 => ?_⟩
    refine ⟨(by show 0 ≤ sizeLine; decide), fun pf nf => ?_⟩
    generalize hE : upd _ pf _ = H2
    obtain ⟨s2, e2⟩ := gen_new hE nf
    clear hE
    -- the loop
    refine ⟨_, rfl, b, _, rfl, .inl (s2.seq (s1.seq hM)), _, _, _, (m.length + 7) / 8, rfl, ?_, ?_⟩
    · rw [hl]
      exact rg8 _ _ (by omega) (by omega)
    refine for_it walk_rangeC (fun i σ H' => Same H1 H' ∧ H' pf = some (.lst (vb ((Ql67.veiled k g m).take (8 * i)))) ∧ ∃ v v2 : Option V, σ = [some (.ref a), some (.int (g : Int)), some (.ref b), some (.ref pw), some (.ref pf), v, v2, none, none]) ⟨s2, e2, none, none, rfl⟩ (fun _ _ _ _ _ => trivial) ?_ ?_
    · rintro i x σ H' H'' hi ⟨s3, e3, v, v2, rfl⟩ ⟨rfl, rfl⟩
      have ei : (0 : Int) + (i : Int) * 8 = ((8 * i : Nat) : Int) := by omega
      have ej : (0 : Int) + (i : Int) * 8 + 8 = ((8 * i + 8 : Nat) : Int) := by omega
      have hx : (g + i) % 2 ^ 64 < 2 ^ 64 := Nat.mod_lt _ (by decide)
      -- stream
      refine ⟨_, rfl, _, rfl, _, rfl, _, _, rfl, rfl, zD8, _, _, rfl, rfl, _, _, rfl, rfl, zB, pw, words (Ql67.key2 k), (g + i) % 2 ^ 64, ?_, lst_of (s3 _ _ e1), words_len _, hx, blk (words (Ql67.key2 k)) ((g + i) % 2 ^ 64), 8, rfl, by decide, fun H4 p4 s4 n4 e4 => ?_⟩
      · exact congrArg (fun z => [V.ref pw, V.int z]) (block_no g i)
      have e4' : H4 p4 = some (.lst (vb (eightAt k g i))) := by
        have e := block_eq (Ql67.key2 k) hx
        unfold eightAt
        rw [e]
        exact e4
      -- the comprehension
      refine ⟨_, rfl, .inl ⟨rfl, _, lst_of (s4 _ _ e3)⟩, ?_⟩
      refine ⟨_, rfl, _, rfl, _, rfl, _, rfl, _, _, rfl, rfl, _, rfl, b, _, rfl, s4.seq (s3.seq (s1.seq hM)), fun p5 n5 => ?_⟩
      generalize hE : upd _ p5 _ = H5
      obtain ⟨s5, e5⟩ := gen_new hE n5
      clear hE
      rw [cut_vb m ei ej] at e5
      refine ⟨_, rfl, p5, p4, _, _, rfl, lst_of e5, lst_of (s5 _ _ e4'), fun D hD => ?_⟩
      refine lc_it (walk_zip rfl) (fun j H6 => Same H5 H6 ∧ H6 D = some (.lst (vb ((List.zipWith (fun (a b : Nat) => a ^^^ b) ((m.drop (8 * i)).take 8) (eightAt k g i)).take j)))) ⟨same_upd hD, upd_same⟩ (fun j H6 _ h => ⟨lst_of (h.1 _ _ e5), lst_of (h.1 _ _ (s5 _ _ e4'))⟩) ?_ ?_
      · rintro j y H6 H7 hj ⟨s6, e6⟩ ⟨t, x1, y1, rfl, nt, rfl, h1, h2⟩
        obtain ⟨n1, hn1, rfl⟩ := vb_at h1
        obtain ⟨n2, hn2, rfl⟩ := vb_at h2
        have hz := zip_get hn1 hn2
        refine ⟨t, _, rfl, tup_of upd_same, rfl, _, _, rfl, _, _, rfl, rfl, rfl, _, rfl, _, rfl, _, _, rfl, rfl, _, same_upd nt _ _ e6, ?_, same_set (same_new s6 nt) hD, ?_⟩
        · rw [vb_length]
          exact lt_line (Nat.le_trans (List.length_take_le _ _) (by have := (List.getElem?_eq_some_iff.mp hn1).1; rw [List.length_take] at this; omega))
        · rw [upd_same, vb_more hz, ← i_xor]
      · rintro H6 ⟨s6, e6⟩
        rw [List.take_of_length_le (by rw [List.length_zipWith, vb_length, vb_length]; exact Nat.le_refl _)] at e6
        have e7 := s6 _ _ (s5 _ _ (s4 _ _ e3))
        refine ⟨pf, D, _, _, rfl, rfl, e7, e6, ?_, same_set (s3.trans (s4.trans (s5.trans s6))) nf, ?_, _, _, rfl⟩
        · rw [vb_length, vb_length]
          exact le_line (by
            have h1 := List.length_take_le (8 * i) (Ql67.veiled k g m)
            have h2 : (List.zipWith (fun (a b : Nat) => a ^^^ b) ((m.drop (8 * i)).take 8) (eightAt k g i)).length ≤ 8 := by
              rw [List.length_zipWith, List.length_take]
              omega
            omega)
        · rw [upd_same, veiled_more k g m i (by omega), vb_append]
    · rintro σ H' ⟨s3, e3, v, v2, rfl⟩
      rw [List.take_of_length_le (by rw [veiled_length]; omega)] at e3
      exact ⟨_, rfl, q _ pf (s1.trans s3) (s1.free nf) e3⟩
/-! ### sealed -/
theorem sc_sealed : FnScope ["key", "text", "begin"] ["key", "text"] (defScope s_sealed) := ⟨rfl, rfl, rfl, by decide +kernel, rfl, by decide +kernel, by decide +kernel⟩
def sp_sealed (K : PySem.W.Frag) : Sp := fun vs H Q _ => ∃ (a b : Addr) (k m : List Nat), vs = [.ref a, .ref b] ∧ SqL K H a (vb k) ∧ k.length = 16 ∧ SqL K H b (vb m) ∧ Ql67.Bytes m ∧ m.length ≤ 5000 ∧ outL H Q (Ql67.seal_ k m)
theorem seal_length (k m : List Nat) : (Ql67.seal_ k m).length = 8 + m.length := by
  unfold Ql67.seal_
  rw [List.length_append, be_length, veiled_length]
theorem seal_bytes {k m : List Nat} (h : Ql67.Bytes m) : Ql67.Bytes (Ql67.seal_ k m) := by
  intro b hb
  unfold Ql67.seal_ at hb
  rcases List.mem_append.mp hb with hb | hb
  · exact be_lt _ _ _ hb
  · exact veiled_lt _ _ _ h b hb
theorem ok_sealed {f : Addr} {fd : FuncData} (F : Fun K "sealed" "sealed" s_sealed f fd) (T : Txt K mg) (G1 : Df P w K mg base CX0 3 "sum_of" ["key", "text"] (sp_sum_of K)) (G2 : Df P w K mg base CX0 1 "high_first" ["number", "many"] sp_high_first)
    (G3 : Df P w K mg base CX0 3 "streamed" ["key", "begin", "text"] (sp_streamed K)) : FnOk P w K mg base CX0 4 f fd ["key", "text"] (sp_sealed K) := by
  refine F.ok sc_sealed (fun vs H Q E h => ?_) (fun cdv A outer s H vs Q E hr h => ?_)
  · obtain ⟨a, b, k, m, rfl, _⟩ := h
    rfl
  · obtain ⟨a, b, k, m, rfl, hK, hk, hM, hB, hlen, q⟩ := h
    refine ⟨_, pss_cons (ps_set (i := 2) sc_sealed.nd rfl (Or.inl rfl) (pe_callD G1 (hr.mono (by decide)) pass0 (pa_cons (pv 0) (pa_cons (pv 1) pa_nil))))
      (pss_one (ps_ret (pe_op op_cat (pe_callD G2 (hr.mono (by decide)) pass0 (pa_cons (pv 2) (pa_cons (pe_gv T.c_BLOCK_BYTES) pa_nil)))
        (pe_callD G3 (hr.mono (by decide)) pass0 (pa_cons (pv 0) (pa_cons (pv 2) (pa_cons (pv 1) pa_nil))))))), ?_⟩
    refine ⟨_, rfl, _, rfl, a, b, k, m, rfl, hK, hk, hM, hB, by omega, fun H1 s1 => ?_⟩
    refine ⟨_, rfl, Ql67.sum k m, 8, rfl, by decide, fun H2 p2 s2 n2 e2 => ?_⟩
    refine ⟨_, rfl, _, rfl, _, rfl, a, b, k, m, Ql67.sum k m, rfl, s2.seq (s1.seq hK), hk, s2.seq (s1.seq hM), by omega, fun H3 p3 s3 n3 e3 => ?_⟩
    refine ⟨p2, p3, _, _, rfl, rfl, s3 _ _ e2, e3, ?_, fun p4 n4 => ?_⟩
    · rw [vb_length, vb_length, be_length, veiled_length]
      exact le_line (by omega)
    · have sA := s1.trans (s2.trans s3)
      refine q _ p4 (same_new sA n4) (sA.free n4) ?_
      rw [upd_same, ← vb_append]
      rfl
/-! ### opened -/
theorem sc_opened : FnScope ["key", "row", "begin", "text"] ["key", "row"] (defScope s_opened) := ⟨rfl, rfl, rfl, by decide +kernel, rfl, by decide +kernel, by decide +kernel⟩
def sp_opened (K : PySem.W.Frag) : Sp := fun vs H Q _ => ∃ (a b : Addr) (k c : List Nat), vs = [.ref a, .ref b] ∧ SqL K H a (vb k) ∧ k.length = 16 ∧ SqL K H b (vb c) ∧ Ql67.Bytes c ∧ c.length ≤ 5000 ∧
  (Ql67.open_ k c = none → outV H Q .non) ∧ (∀ m, Ql67.open_ k c = some m → outL H Q m)
theorem open_short {k c : List Nat} (h : c.length < 8) : Ql67.open_ k c = none := if_pos h
theorem open_long {k c : List Nat} (h : ¬ c.length < 8) : Ql67.open_ k c = if Ql67.sum k (Ql67.veiled k (Ql67.num (c.take 8)) (c.drop 8)) = Ql67.num (c.take 8) then some (Ql67.veiled k (Ql67.num (c.take 8)) (c.drop 8)) else none := if_neg h
theorem open_len {k c m : List Nat} (h : Ql67.open_ k c = some m) : m.length ≤ c.length := by
  by_cases q : c.length < 8
  · rw [open_short q] at h
    cases h
  · rw [open_long q] at h
    by_cases e : Ql67.sum k (Ql67.veiled k (Ql67.num (c.take 8)) (c.drop 8)) = Ql67.num (c.take 8)
    · rw [if_pos e] at h
      injection h with h
      rw [← h, veiled_length, List.length_drop]
      omega
    · rw [if_neg e] at h
      cases h
theorem ok_opened {f : Addr} {fd : FuncData} (F : Fun K "opened" "opened" s_opened f fd) (T : Txt K mg) (G1 : Df P w K mg base CX0 3 "sum_of" ["key", "text"] (sp_sum_of K)) (G2 : Df P w K mg base CX0 1 "number_of" ["row"] (sp_number_of K))
    (G3 : Df P w K mg base CX0 3 "streamed" ["key", "begin", "text"] (sp_streamed K)) : FnOk P w K mg base CX0 4 f fd ["key", "row"] (sp_opened K) := by
  refine F.ok sc_opened (fun vs H Q E h => ?_) (fun cdv A outer s H vs Q E hr h => ?_)
  · obtain ⟨a, b, k, c, rfl, _⟩ := h
    rfl
  · obtain ⟨a, b, k, c, rfl, hK, hk, hC, hB, hlen, qN, qS⟩ := h
    refine ⟨_, pss_cons (ps_if (pt_cmpR op_lt (pe_callB call_len_seq (by rfl) T.b_len PySem.boot_len (pa_cons (pv 1) pa_nil)) (pe_gv T.c_BLOCK_BYTES) (nomark _)) (pss_one (ps_ret pe_non)) pss_nil)
      (pss_cons (ps_set (i := 2) sc_opened.nd rfl (Or.inl rfl) (pe_callD G2 (hr.mono (by decide)) pass0 (pa_cons (pe_slice sl_list (pv 1) po_none (po_some (pe_gv T.c_BLOCK_BYTES))) pa_nil)))
      (pss_cons (ps_set (i := 3) sc_opened.nd rfl (Or.inl rfl) (pe_callD G3 (hr.mono (by decide)) pass0 (pa_cons (pv 0) (pa_cons (pv 2) (pa_cons (pe_slice sl_list (pv 1) (po_some (pe_gv T.c_BLOCK_BYTES)) po_none) pa_nil)))))
      (pss_cons (ps_if (pt_cmpR op_ne (pe_callD G1 (hr.mono (by decide)) pass0 (pa_cons (pv 0) (pa_cons (pv 3) pa_nil))) (pv 2) (nomark _)) (pss_one (ps_ret pe_non)) pss_nil)
      (pss_one (ps_ret (pv 3)))))), ?_⟩
    have hl : (vb c).length = c.length := vb_length c
    refine ⟨_, rfl, b, _, rfl, .inl hC, _, _, rfl, rfl, _, rfl, ifB (fun c1 => ?_) (fun c1 => ?_)⟩
    · have c1' := of_decide_eq_true c1
      rw [hl] at c1'
      exact qN (open_short (by omega)) H (Same.refl H)
    have c1' := of_decide_eq_false c1
    rw [hl] at c1'
    have ho := open_long (k := k) (c := c) (by omega)
    -- begin
    refine ⟨_, rfl, _, rfl, b, _, rfl, hC, fun p1 n1 => ?_⟩
    generalize hE : upd _ p1 _ = H1
    obtain ⟨s1, e1⟩ := gen_new hE n1
    clear hE
    have ec : cutV (vb c) none (some 8) = vb (c.take 8) := (cut_to (vb c) 8).trans (vb_take c 8).symm
    rw [ec] at e1
    refine ⟨p1, _, rfl, lst_of e1, ?_⟩
    -- text
    refine ⟨_, rfl, _, rfl, _, rfl, _, rfl, b, _, rfl, s1.seq hC, fun p2 n2 => ?_⟩
    generalize hE : upd _ p2 _ = H2
    obtain ⟨s2, e2⟩ := gen_new hE n2
    clear hE
    have ec2 : cutV (vb c) (some 8) none = vb (c.drop 8) := (cut_from (vb c) 8).trans (vb_drop c 8).symm
    rw [ec2] at e2
    have s12 := s1.trans s2
    have hd : (c.drop 8).length ≤ 5000 := by rw [List.length_drop]; omega
    have hB2 : Ql67.Bytes (c.drop 8) := fun x hx => hB x (List.mem_of_mem_drop hx)
    refine ⟨a, p2, k, c.drop 8, Ql67.num (c.take 8), rfl, s12.seq hK, hk, lst_of e2, by omega, fun H3 p3 s3 n3 e3 => ?_⟩
    have s13 := s12.trans s3
    -- the sum
    refine ⟨_, rfl, _, rfl, a, p3, k, _, rfl, s13.seq hK, hk, lst_of e3, veiled_lt _ _ _ hB2, by rw [veiled_length]; omega, fun H4 s4 => ?_⟩
    have s14 := s13.trans s4
    refine ⟨_, rfl, rfl, _, rfl, ifB (fun c2 => ?_) (fun c2 => ?_)⟩
    · refine qN ?_ H4 s14
      rw [ho, if_neg]
      intro e
      rw [e] at c2
      simp at c2
    · have e : Ql67.sum k (Ql67.veiled k (Ql67.num (c.take 8)) (c.drop 8)) = Ql67.num (c.take 8) := by
        have c2' := of_decide_eq_true (Bool.not_eq_false' .. ▸ c2 : decide _ = true)
        injection c2' with c2'
        omega
      rw [if_pos e] at ho
      exact ⟨_, rfl, qS _ ho H4 p3 s14 (s12.free n3) (s4 _ _ e3)⟩
/-! ### is_name_byte -/
theorem sc_is_name_byte : FnScope ["byte"] ["byte"] (defScope s_is_name_byte) := ⟨rfl, rfl, rfl, by decide +kernel, rfl, by decide +kernel, by decide +kernel⟩
def sp_is_name_byte : Sp := fun vs H Q _ => ∃ n : Nat, vs = [.int (n : Int)] ∧ Q (.bl (Ql67.sign n)) H
theorem sign_eq (n : Nat) : Ql67.sign n = ((decide ((97 : Int) ≤ n) && decide ((n : Int) ≤ 122)) || ((decide ((48 : Int) ≤ n) && decide ((n : Int) ≤ 57)) || (decide (V.int (n : Int) = V.int 46) || decide (V.int (n : Int) = V.int 45)))) := by
  have h1 : decide (V.int (n : Int) = V.int 46) = (n == 46) := by
    rw [dec_int, Bool.eq_iff_iff, beq_iff_eq, beq_iff_eq]
    omega
  have h2 : decide (V.int (n : Int) = V.int 45) = (n == 45) := by
    rw [dec_int, Bool.eq_iff_iff, beq_iff_eq, beq_iff_eq]
    omega
  have h3 : decide ((97 : Int) ≤ n) = decide (97 ≤ n) := by
    rw [Bool.eq_iff_iff, decide_eq_true_iff, decide_eq_true_iff]
    omega
  have h4 : decide ((n : Int) ≤ 122) = decide (n ≤ 122) := by
    rw [Bool.eq_iff_iff, decide_eq_true_iff, decide_eq_true_iff]
    omega
  have h5 : decide ((48 : Int) ≤ n) = decide (48 ≤ n) := by
    rw [Bool.eq_iff_iff, decide_eq_true_iff, decide_eq_true_iff]
    omega
  have h6 : decide ((n : Int) ≤ 57) = decide (n ≤ 57) := by
    rw [Bool.eq_iff_iff, decide_eq_true_iff, decide_eq_true_iff]
    omega
  unfold Ql67.sign
  rw [h1, h2, h3, h4, h5, h6, Bool.decide_and, Bool.decide_and]
theorem ok_is_name_byte {f : Addr} {fd : FuncData} (F : Fun K "is_name_byte" "is_name_byte" s_is_name_byte f fd) (T : Txt K mg) : FnOk P w K mg base CX0 1 f fd ["byte"] sp_is_name_byte := by
  refine F.ok sc_is_name_byte (fun vs H Q E h => ?_) (fun cdv A outer s H vs Q E hr h => ?_)
  · obtain ⟨n, rfl, _⟩ := h
    rfl
  · obtain ⟨n, rfl, q⟩ := h
    refine ⟨_, pss_one (ps_ret (pe_or (pe_and (pe_cmpR op_le pe_int (pv 0) (nomark _)) (pe_one (pe_cmpR op_le (pv 0) pe_int (nomark _))))
      (pe_or (pe_and (pe_cmpR op_le pe_int (pv 0) (nomark _)) (pe_one (pe_cmpR op_le (pv 0) pe_int (nomark _))))
      (pe_or (pe_cmpR op_eq (pv 0) (pe_gv T.c_POINT) (nomark _)) (pe_one (pe_cmpR op_eq (pv 0) (pe_gv T.c_HYPHEN) (nomark _))))))), ?_⟩
    refine ev_or (ev_and (a := decide ((97 : Int) ≤ n)) (b := decide ((n : Int) ≤ 122)) ?_ ?_) (ev_or (ev_and (a := decide ((48 : Int) ≤ n)) (b := decide ((n : Int) ≤ 57)) ?_ ?_) (ev_or (a := decide (V.int (n : Int) = V.int 46)) (b := decide (V.int (n : Int) = V.int 45)) ?_ ?_)) _ ?_
    · exact fun Q' q' => ⟨_, rfl, _, _, rfl, rfl, q'⟩
    · exact fun Q' q' => ⟨_, rfl, _, _, rfl, rfl, q'⟩
    · exact fun Q' q' => ⟨_, rfl, _, _, rfl, rfl, q'⟩
    · exact fun Q' q' => ⟨_, rfl, _, _, rfl, rfl, q'⟩
    · exact fun Q' q' => ⟨_, rfl, rfl, q'⟩
    · exact fun Q' q' => ⟨_, rfl, rfl, q'⟩
    · rw [← sign_eq]
      exact q
/-! ### is_name -/
theorem sc_is_name : FnScope ["row", "byte"] ["row"] (defScope s_is_name) := ⟨rfl, rfl, rfl, by decide +kernel, rfl, by decide +kernel, by decide +kernel⟩
def sp_is_name (K : PySem.W.Frag) : Sp := fun vs H Q _ => ∃ (a : Addr) (l : List Nat), vs = [.ref a] ∧ SqL K H a (vb l) ∧ outV H Q (.bl (Ql67.isName l))
theorem ok_is_name {f : Addr} {fd : FuncData} (F : Fun K "is_name" "is_name" s_is_name f fd) (T : Txt K mg) (G1 : Df P w K mg base CX0 1 "is_name_byte" ["byte"] sp_is_name_byte) : FnOk P w K mg base CX0 2 f fd ["row"] (sp_is_name K) := by
  refine F.ok sc_is_name (fun vs H Q E h => ?_) (fun cdv A outer s H vs Q E hr h => ?_)
  · obtain ⟨a, l, rfl, _⟩ := h
    rfl
  · obtain ⟨a, l, rfl, hS, q⟩ := h
    refine ⟨_, pss_one (ps_ret (pe_and (pe_cmpR op_le pe_int (pe_callB call_len_seq (by rfl) T.b_len PySem.boot_len (pa_cons (pv 0) pa_nil)) (nomark _))
      (pe_and (pe_cmpR op_le (pe_callB call_len_seq (by rfl) T.b_len PySem.boot_len (pa_cons (pv 0) pa_nil)) (pe_gv T.c_MOST_NAME) (nomark _))
      (pe_one (pe_callB (cr_all rfl) (by rfl) T.b_all (by decide +kernel) (pa_cons (pe_lc (own := [("byte", 1)]) (g := gName 1) (tt := tYes) rfl sc_is_name.nd (pi_list (pv 0))
        (blkOk_by (own := [("byte", 1)]) (N := ["row", "byte"]) (sc := defScope s_is_name) (by decide +kernel)) (fun _ _ _ _ _ => pg_name (i := 1) sc_is_name.nd rfl (Or.inl rfl)) (fun _ _ _ _ _ => pts_nil)
        (fun _ _ _ _ _ => pe_callD G1 (hr.mono (by decide)) pass0 (pa_cons (pv 1) pa_nil))) pa_nil)))))), ?_⟩
    have hl : (vb l).length = l.length := vb_length l
    refine ⟨_, rfl, a, _, rfl, .inl hS, _, _, rfl, rfl, _, rfl, ifB (fun c1 => ?_) (fun c1 => ?_)⟩
    · have c1' := of_decide_eq_true c1
      rw [hl] at c1'
      refine ⟨_, rfl, a, _, rfl, .inl hS, _, _, rfl, rfl, _, rfl, ifB (fun c2 => ?_) (fun c2 => ?_)⟩
      · have c2' := of_decide_eq_true c2
        rw [hl] at c2'
        refine ⟨_, rfl, a, rfl, ⟨_, hS⟩, fun D hD => ?_⟩
        refine lc_list (K := K) (a := a) (xs := vb l) (fun i H' => Same H H' ∧ H' D = some (.lst (((l.take i).map Ql67.sign).map V.bl))) ⟨same_upd hD, upd_same⟩ (fun i H' _ h => h.1.seq hS) ?_ ?_
        · rintro i x H1 hx ⟨s1, e1⟩
          obtain ⟨n, hn, rfl⟩ := vb_at hx
          refine ⟨rfl, _, rfl, n, rfl, _, e1, ?_, same_set s1 hD, ?_⟩
          · rw [List.length_map, List.length_map]
            exact lt_line (Nat.le_trans (List.length_take_le _ _) (by have := (List.getElem?_eq_some_iff.mp hn).1; omega))
          · rw [upd_same, List.take_add_one, hn, List.map_append, List.map_append]
            rfl
        · rintro H1 ⟨s1, e1⟩
          rw [hl, List.take_length] at e1
          refine ⟨D, l.map Ql67.sign, rfl, lst_of e1, ?_⟩
          have e : Ql67.isName l = (l.map Ql67.sign).all id := by
            unfold Ql67.isName
            rw [decide_eq_true (show 1 ≤ l.length ∧ l.length ≤ 32 from ⟨by omega, by omega⟩), Bool.true_and, List.all_map]
            rfl
          have q' := q H1 s1
          rw [e] at q'
          exact q'
      · have c2' := of_decide_eq_false c2
        rw [hl] at c2'
        have e : Ql67.isName l = false := by
          unfold Ql67.isName
          rw [decide_eq_false (fun h => by omega), Bool.false_and]
        have q' := q H (Same.refl H)
        rw [e] at q'
        exact q'
    · have c1' := of_decide_eq_false c1
      rw [hl] at c1'
      have e : Ql67.isName l = false := by
        unfold Ql67.isName
        rw [decide_eq_false (fun h => by omega), Bool.false_and]
      have q' := q H (Same.refl H)
      rw [e] at q'
      exact q'
/-! ### name_told -/
theorem sc_name_told : FnScope ["name"] ["name"] (defScope s_name_told) := ⟨rfl, rfl, rfl, by decide +kernel, rfl, by decide +kernel, by decide +kernel⟩
def sp_name_told (K : PySem.W.Frag) : Sp := fun vs H Q _ => ∃ (a : Addr) (l : List Nat), vs = [.ref a] ∧ SqA K H a (vb l) ∧ l.length ≤ 1000 ∧ outL H Q (Ql67.named l)
theorem named_length (l : List Nat) : (Ql67.named l).length = l.length + 1 := rfl
theorem ok_name_told {f : Addr} {fd : FuncData} (F : Fun K "name_told" "name_told" s_name_told f fd) (T : Txt K mg) : FnOk P w K mg base CX0 1 f fd ["name"] (sp_name_told K) := by
  refine F.ok sc_name_told (fun vs H Q E h => ?_) (fun cdv A outer s H vs Q E hr h => ?_)
  · obtain ⟨a, l, rfl, _⟩ := h
    rfl
  · obtain ⟨a, l, rfl, hS, hlen, q⟩ := h
    refine ⟨_, pss_one (ps_ret (pe_op op_cat (pe_lst (pa_cons (pe_callB call_len_seq (by rfl) T.b_len PySem.boot_len (pa_cons (pv 0) pa_nil)) pa_nil))
      (pe_callTy call_list_of (by rfl) T.b_list (by decide +kernel) (pa_cons (pv 0) pa_nil)))), ?_⟩
    have hl : (vb l).length = l.length := vb_length l
    refine ⟨_, rfl, a, _, rfl, hS, (by show 1 ≤ sizeLine; decide), fun p hp => ?_⟩
    refine ⟨_, rfl, a, _, rfl, Same.any (same_upd hp) hS, fun b hb => ?_⟩
    refine ⟨p, b, _, _, rfl, rfl, same_upd hb _ _ upd_same, upd_same, ?_, fun c hc => ?_⟩
    · rw [hl]
      exact le_line (by show 1 + l.length ≤ 100000; omega)
    · refine q _ c (same_new (same_new (same_upd hp) hb) hc) ((same_new (same_upd hp) hb).free hc) ?_
      rw [upd_same, hl]
      rfl
/-! ### row_told -/
theorem sc_row_told : FnScope ["row"] ["row"] (defScope s_row_told) := ⟨rfl, rfl, rfl, by decide +kernel, rfl, by decide +kernel, by decide +kernel⟩
def sp_row_told (K : PySem.W.Frag) : Sp := fun vs H Q _ => ∃ (a : Addr) (l : List Nat), vs = [.ref a] ∧ SqL K H a (vb l) ∧ l.length ≤ 10000 ∧ outL H Q (Ql67.counted l)
theorem counted_length (l : List Nat) : (Ql67.counted l).length = 2 + l.length := by
  unfold Ql67.counted
  rw [List.length_append, be_length]
theorem ok_row_told {f : Addr} {fd : FuncData} (F : Fun K "row_told" "row_told" s_row_told f fd) (T : Txt K mg) (G1 : Df P w K mg base CX0 1 "high_first" ["number", "many"] sp_high_first) : FnOk P w K mg base CX0 2 f fd ["row"] (sp_row_told K) := by
  refine F.ok sc_row_told (fun vs H Q E h => ?_) (fun cdv A outer s H vs Q E hr h => ?_)
  · obtain ⟨a, l, rfl, _⟩ := h
    rfl
  · obtain ⟨a, l, rfl, hS, hlen, q⟩ := h
    refine ⟨_, pss_one (ps_ret (pe_op op_cat (pe_callD G1 (hr.mono (by decide)) pass0 (pa_cons (pe_callB call_len_seq (by rfl) T.b_len PySem.boot_len (pa_cons (pv 0) pa_nil)) (pa_cons (pe_gv T.c_LENGTH_BYTES) pa_nil)))
      (pe_callTy call_list_of (by rfl) T.b_list (by decide +kernel) (pa_cons (pv 0) pa_nil)))), ?_⟩
    have hl : (vb l).length = l.length := vb_length l
    refine ⟨_, rfl, a, _, rfl, .inl hS, (vb l).length, 2, rfl, by decide, fun H1 p1 s1 n1 e1 => ?_⟩
    rw [hl] at e1
    refine ⟨_, rfl, a, _, rfl, .inl (s1.seq hS), fun p2 n2 => ?_⟩
    refine ⟨p1, p2, _, _, rfl, rfl, same_upd n2 _ _ e1, upd_same, ?_, fun p3 n3 => ?_⟩
    · rw [vb_length, vb_length, be_length]
      exact le_line (by omega)
    · refine q _ p3 (same_new (same_new s1 n2) n3) ((same_new s1 n2).free n3) ?_
      rw [upd_same, ← vb_append]
      rfl
/-! ### time_told -/
theorem sc_time_told : FnScope ["number"] ["number"] (defScope s_time_told) := ⟨rfl, rfl, rfl, by decide +kernel, rfl, by decide +kernel, by decide +kernel⟩
def sp_time_told : Sp := fun vs H Q _ => ∃ n : Nat, vs = [.int (n : Int)] ∧ outL H Q (Ql67.be 8 n)
theorem ok_time_told {f : Addr} {fd : FuncData} (F : Fun K "time_told" "time_told" s_time_told f fd) (T : Txt K mg) (G1 : Df P w K mg base CX0 1 "high_first" ["number", "many"] sp_high_first) : FnOk P w K mg base CX0 2 f fd ["number"] sp_time_told := by
  refine F.ok sc_time_told (fun vs H Q E h => ?_) (fun cdv A outer s H vs Q E hr h => ?_)
  · obtain ⟨n, rfl, _⟩ := h
    rfl
  · obtain ⟨n, rfl, q⟩ := h
    refine ⟨_, pss_one (ps_ret (pe_callD G1 (hr.mono (by decide)) pass0 (pa_cons (pv 0) (pa_cons (pe_gv T.c_TIME_BYTES) pa_nil)))), ?_⟩
    exact ⟨_, rfl, n, 8, rfl, by decide, q⟩
/-! ### ticket_of -/
theorem sc_ticket_of : FnScope ["service_key", "client", "key", "start", "end"] ["service_key", "client", "key", "start", "end"] (defScope s_ticket_of) := ⟨rfl, rfl, rfl, by decide +kernel, rfl, by decide +kernel, by decide +kernel⟩
def sp_ticket_of (K : PySem.W.Frag) : Sp := fun vs H Q _ => ∃ (a b d : Addr) (k c f : List Nat) (t e : Nat), vs = [.ref a, .ref b, .ref d, .int (t : Int), .int (e : Int)] ∧ SqL K H a (vb k) ∧ k.length = 16 ∧ SqT K H b (vb c) ∧ Ql67.Bytes c ∧ c.length ≤ 64 ∧ SqL K H d (vb f) ∧ Ql67.Bytes f ∧ f.length = 16 ∧
  outL H Q (Ql67.seal_ k (Ql67.ticketText ⟨c, f, t, e⟩))
theorem ticketText_eq (c f : List Nat) (t e : Nat) : Ql67.ticketText ⟨c, f, t, e⟩ = Ql67.named c ++ f ++ Ql67.be 8 t ++ Ql67.be 8 e := by
  show Ql67.named c ++ (f ++ (Ql67.be 8 t ++ Ql67.be 8 e)) = _
  simp only [List.append_assoc]
theorem named_bytes {c : List Nat} (h : Ql67.Bytes c) (hl : c.length < 256) : Ql67.Bytes (Ql67.named c) := by
  intro b hb
  rcases List.mem_cons.mp (show b ∈ c.length :: c from hb) with e | hb
  · rw [e]
    exact hl
  · exact h b hb
theorem app_bytes {a b : List Nat} (h1 : Ql67.Bytes a) (h2 : Ql67.Bytes b) : Ql67.Bytes (a ++ b) := by
  intro x hx
  rcases List.mem_append.mp hx with hx | hx
  · exact h1 x hx
  · exact h2 x hx
theorem be_bytes (k n : Nat) : Ql67.Bytes (Ql67.be k n) := be_lt k n
theorem ok_ticket_of {f : Addr} {fd : FuncData} (F : Fun K "ticket_of" "ticket_of" s_ticket_of f fd) (T : Txt K mg) (G1 : Df P w K mg base CX0 4 "sealed" ["key", "text"] (sp_sealed K)) (G2 : Df P w K mg base CX0 1 "name_told" ["name"] (sp_name_told K))
    (G3 : Df P w K mg base CX0 2 "time_told" ["number"] sp_time_told) : FnOk P w K mg base CX0 5 f fd ["service_key", "client", "key", "start", "end"] (sp_ticket_of K) := by
  refine F.ok sc_ticket_of (fun vs H Q E h => ?_) (fun cdv A outer s H vs Q E hr h => ?_)
  · obtain ⟨a, b, d, k, c, f, t, e, rfl, _⟩ := h
    rfl
  · obtain ⟨a, b, d, k, c, f, t, e, rfl, hK, hk, hC, hB, lc, hF, bF, lf, q⟩ := h
    refine ⟨_, pss_one (ps_ret (pe_callD G1 (hr.mono (by decide)) pass0 (pa_cons (pv 0) (pa_cons (pe_op op_cat (pe_op op_cat (pe_op op_cat (pe_callD G2 (hr.mono (by decide)) pass0 (pa_cons (pv 1) pa_nil)) (pe_callTy call_list_of (by rfl) T.b_list (by decide +kernel) (pa_cons (pv 2) pa_nil)))
      (pe_callD G3 (hr.mono (by decide)) pass0 (pa_cons (pv 3) pa_nil))) (pe_callD G3 (hr.mono (by decide)) pass0 (pa_cons (pv 4) pa_nil))) pa_nil)))), ?_⟩
    refine ⟨_, rfl, _, rfl, b, c, rfl, .inr hC, by omega, fun H1 p1 s1 n1 e1 => ?_⟩
    refine ⟨_, rfl, d, _, rfl, .inl (s1.seq hF), fun p2 n2 => ?_⟩
    generalize hE : upd _ p2 _ = H2
    obtain ⟨s2, e2⟩ := gen_new hE n2
    clear hE
    refine ⟨p1, p2, _, _, rfl, rfl, s2 _ _ e1, e2, ?_, fun p3 n3 => ?_⟩
    · rw [vb_length, vb_length, named_length]
      exact le_line (by omega)
    generalize hE : upd _ p3 _ = H3
    obtain ⟨s3, e3⟩ := gen_new hE n3
    clear hE
    refine ⟨_, rfl, t, rfl, fun H4 p4 s4 n4 e4 => ?_⟩
    refine ⟨p3, p4, _, _, rfl, rfl, s4 _ _ e3, e4, ?_, fun p5 n5 => ?_⟩
    · rw [List.length_append, vb_length, vb_length, vb_length, named_length, be_length]
      exact le_line (by omega)
    generalize hE : upd _ p5 _ = H5
    obtain ⟨s5, e5⟩ := gen_new hE n5
    clear hE
    refine ⟨_, rfl, e, rfl, fun H6 p6 s6 n6 e6 => ?_⟩
    refine ⟨p5, p6, _, _, rfl, rfl, s6 _ _ e5, e6, ?_, fun p7 n7 => ?_⟩
    · rw [List.length_append, List.length_append, vb_length, vb_length, vb_length, vb_length, named_length, be_length, be_length]
      exact le_line (by omega)
    generalize hE : upd _ p7 _ = H7
    obtain ⟨s7, e7⟩ := gen_new hE n7
    clear hE
    have sA := s1.trans (s2.trans (s3.trans (s4.trans (s5.trans (s6.trans s7)))))
    have et := ticketText_eq c f t e
    refine ⟨a, p7, k, Ql67.ticketText ⟨c, f, t, e⟩, rfl, sA.seq hK, hk, lst_of (e7.trans ?_), ?_, ?_, fun H8 p8 s8 n8 e8 => q H8 p8 (sA.trans s8) (sA.free n8) e8⟩
    · rw [et]
      simp only [vb_append]
    · rw [et]
      exact app_bytes (app_bytes (app_bytes (named_bytes hB (by omega)) bF) (be_bytes _ _)) (be_bytes _ _)
    · rw [et, List.length_append, List.length_append, List.length_append, named_length, be_length, be_length]
      omega
/-! ### given_told -/
theorem sc_given_told : FnScope ["sort", "ticket", "key", "grant", "fresh", "service", "nonce", "start", "end", "inner"] ["sort", "ticket", "key", "grant"] (defScope s_given_told) := ⟨rfl, rfl, rfl, by decide +kernel, rfl, by decide +kernel, by decide +kernel⟩
def givenText (n : Nat) (t k : List Nat) (p : Ql67.Part) : List Nat := n :: (Ql67.counted t ++ Ql67.counted (Ql67.seal_ k (Ql67.partText p)))
def sp_given_told (K : PySem.W.Frag) : Sp := fun vs H Q _ => ∃ (n : Nat) (a b g d e : Addr) (t k : List Nat) (p : Ql67.Part), vs = [.int (n : Int), .ref a, .ref b, .ref g] ∧ SqL K H a (vb t) ∧ t.length ≤ 5000 ∧ SqL K H b (vb k) ∧ k.length = 16 ∧
  SqT K H g [.ref d, .ref e, .int (p.nonce : Int), .int (p.start : Int), .int (p.halt_ : Int)] ∧ SqL K H d (vb p.key) ∧ Ql67.Bytes p.key ∧ p.key.length = 16 ∧ SqT K H e (vb p.service) ∧ Ql67.Bytes p.service ∧ p.service.length ≤ 64 ∧ outL H Q (givenText n t k p)
theorem partText_eq (p : Ql67.Part) : Ql67.partText p = p.key ++ Ql67.named p.service ++ Ql67.be 8 p.nonce ++ Ql67.be 8 p.start ++ Ql67.be 8 p.halt_ := by
  unfold Ql67.partText
  simp only [List.append_assoc]
theorem ok_given_told {f : Addr} {fd : FuncData} (F : Fun K "given_told" "given_told" s_given_told f fd) (T : Txt K mg) (G1 : Df P w K mg base CX0 4 "sealed" ["key", "text"] (sp_sealed K)) (G2 : Df P w K mg base CX0 1 "name_told" ["name"] (sp_name_told K))
    (G3 : Df P w K mg base CX0 2 "time_told" ["number"] sp_time_told) (G4 : Df P w K mg base CX0 2 "row_told" ["row"] (sp_row_told K)) : FnOk P w K mg base CX0 5 f fd ["sort", "ticket", "key", "grant"] (sp_given_told K) := by
  refine F.ok sc_given_told (fun vs H Q E h => ?_) (fun cdv A outer s H vs Q E hr h => ?_)
  · obtain ⟨n, a, b, g, d, e, t, k, p, rfl, _⟩ := h
    rfl
  · obtain ⟨n, a, b, g, d, e, t, k, p, rfl, hT, lt, hK, hk, hG, hF, bF, lf, hS, bS, ls, q⟩ := h
    refine ⟨_, pss_cons (ps_asg (pv 3) (pg_tup rfl (pgs_cons (pg_name (i := 4) sc_given_told.nd rfl (Or.inl rfl)) (pgs_cons (pg_name (i := 5) sc_given_told.nd rfl (Or.inl rfl)) (pgs_cons (pg_name (i := 6) sc_given_told.nd rfl (Or.inl rfl)) (pgs_cons (pg_name (i := 7) sc_given_told.nd rfl (Or.inl rfl)) (pgs_cons (pg_name (i := 8) sc_given_told.nd rfl (Or.inl rfl)) pgs_nil)))))))
      (pss_cons (ps_set (i := 9) sc_given_told.nd rfl (Or.inl rfl) (pe_op op_cat (pe_op op_cat (pe_op op_cat (pe_op op_cat (pe_callTy call_list_of (by rfl) T.b_list (by decide +kernel) (pa_cons (pv 4) pa_nil)) (pe_callD G2 (hr.mono (by decide)) pass0 (pa_cons (pv 5) pa_nil)))
        (pe_callD G3 (hr.mono (by decide)) pass0 (pa_cons (pv 6) pa_nil))) (pe_callD G3 (hr.mono (by decide)) pass0 (pa_cons (pv 7) pa_nil))) (pe_callD G3 (hr.mono (by decide)) pass0 (pa_cons (pv 8) pa_nil))))
      (pss_one (ps_ret (pe_op op_cat (pe_op op_cat (pe_lst (pa_cons (pv 0) pa_nil)) (pe_callD G4 (hr.mono (by decide)) pass0 (pa_cons (pv 1) pa_nil))) (pe_callD G4 (hr.mono (by decide)) pass0 (pa_cons (pe_callD G1 (hr.mono (by decide)) pass0 (pa_cons (pv 2) (pa_cons (pv 9) pa_nil))) pa_nil)))))), ?_⟩
    refine ⟨_, rfl, g, _, rfl, hG, rfl, _, _, rfl, _, _, rfl, _, _, rfl, _, _, rfl, _, _, rfl, rfl, ?_⟩
    -- inner
    refine ⟨_, rfl, d, _, rfl, .inl hF, fun p1 n1 => ?_⟩
    generalize hE : upd _ p1 _ = H1
    obtain ⟨s1, e1⟩ := gen_new hE n1
    clear hE
    refine ⟨_, rfl, e, p.service, rfl, .inr (Same.tup s1 hS), by omega, fun H2 p2 s2 n2 e2 => ?_⟩
    refine ⟨p1, p2, _, _, rfl, rfl, s2 _ _ e1, e2, ?_, fun p3 n3 => ?_⟩
    · rw [vb_length, vb_length, named_length]
      exact le_line (by omega)
    generalize hE : upd _ p3 _ = H3
    obtain ⟨s3, e3⟩ := gen_new hE n3
    clear hE
    refine ⟨_, rfl, p.nonce, rfl, fun H4 p4 s4 n4 e4 => ?_⟩
    refine ⟨p3, p4, _, _, rfl, rfl, s4 _ _ e3, e4, ?_, fun p5 n5 => ?_⟩
    · rw [List.length_append, vb_length, vb_length, vb_length, named_length, be_length]
      exact le_line (by omega)
    generalize hE : upd _ p5 _ = H5
    obtain ⟨s5, e5⟩ := gen_new hE n5
    clear hE
    refine ⟨_, rfl, p.start, rfl, fun H6 p6 s6 n6 e6 => ?_⟩
    refine ⟨p5, p6, _, _, rfl, rfl, s6 _ _ e5, e6, ?_, fun p7 n7 => ?_⟩
    · rw [List.length_append, List.length_append, vb_length, vb_length, vb_length, vb_length, named_length, be_length, be_length]
      exact le_line (by omega)
    generalize hE : upd _ p7 _ = H7
    obtain ⟨s7, e7⟩ := gen_new hE n7
    clear hE
    refine ⟨_, rfl, p.halt_, rfl, fun H8 p8 s8 n8 e8 => ?_⟩
    refine ⟨p7, p8, _, _, rfl, rfl, s8 _ _ e7, e8, ?_, fun p9 n9 => ?_⟩
    · rw [List.length_append, List.length_append, List.length_append, vb_length, vb_length, vb_length, vb_length, vb_length, named_length, be_length, be_length, be_length]
      exact le_line (by omega)
    generalize hE : upd _ p9 _ = H9
    obtain ⟨s9, e9⟩ := gen_new hE n9
    clear hE
    have sA := s1.trans (s2.trans (s3.trans (s4.trans (s5.trans (s6.trans (s7.trans (s8.trans s9)))))))
    have et := partText_eq p
    have e9' : H9 p9 = some (.lst (vb (Ql67.partText p))) := by
      rw [e9, et]
      simp only [vb_append]
    have bT : Ql67.Bytes (Ql67.partText p) := by
      rw [et]
      exact app_bytes (app_bytes (app_bytes (app_bytes bF (named_bytes bS (by omega))) (be_bytes _ _)) (be_bytes _ _)) (be_bytes _ _)
    have lT : (Ql67.partText p).length ≤ 200 := by
      rw [et, List.length_append, List.length_append, List.length_append, List.length_append, named_length, be_length, be_length, be_length]
      omega
    -- the message
    refine ⟨_, rfl, (by show 1 ≤ sizeLine; decide), fun p10 n10 => ?_⟩
    generalize hE : upd _ p10 _ = H10
    obtain ⟨s10, e10⟩ := gen_new hE n10
    clear hE
    refine ⟨_, rfl, a, t, rfl, (sA.trans s10).seq hT, by omega, fun H11 p11 s11 n11 e11 => ?_⟩
    refine ⟨p10, p11, _, _, rfl, rfl, s11 _ _ e10, e11, ?_, fun p12 n12 => ?_⟩
    · rw [vb_length, counted_length]
      exact le_line (by show 1 + (2 + t.length) ≤ 100000; omega)
    generalize hE : upd _ p12 _ = H12
    obtain ⟨s12, e12⟩ := gen_new hE n12
    clear hE
    have sB := sA.trans (s10.trans (s11.trans s12))
    refine ⟨_, rfl, _, rfl, b, p9, k, Ql67.partText p, rfl, sB.seq hK, hk, lst_of (s12 _ _ (s11 _ _ (s10 _ _ e9'))), bT, by omega, fun H13 p13 s13 n13 e13 => ?_⟩
    refine ⟨p13, _, rfl, lst_of e13, ?_, fun H14 p14 s14 n14 e14 => ?_⟩
    · rw [seal_length]
      omega
    refine ⟨p12, p14, _, _, rfl, rfl, s14 _ _ (s13 _ _ e12), e14, ?_, fun p15 n15 => ?_⟩
    · rw [List.length_append, vb_length, vb_length, counted_length, counted_length, seal_length]
      exact le_line (by show 1 + (2 + t.length) + (2 + (8 + (Ql67.partText p).length)) ≤ 100000; omega)
    have sC := sB.trans (s13.trans s14)
    refine q _ p15 (same_new sC n15) (sC.free n15) (upd_same.trans ?_)
    have eg : givenText n t k p = [n] ++ Ql67.counted t ++ Ql67.counted (Ql67.seal_ k (Ql67.partText p)) := by
      unfold givenText
      simp only [List.append_assoc, List.singleton_append, List.cons_append, List.nil_append]
    rw [eg, vb_append, vb_append]
    rfl
/-! ### Reader.__init__ -/
theorem sc_Reader___init__ : FnScope ["self", "data"] ["self", "data"] (defScope s_Reader___init__) := ⟨rfl, rfl, rfl, by decide +kernel, rfl, by decide +kernel, by decide +kernel⟩
def rdF (d : Addr) (n : Int) : List (Str × V) := [("data", .ref d), ("at", .int n)]
/-- a reader at a: r is what is still to be read -/
def RdAt (K : PySem.W.Frag) (C : Addr) (H : Hp) (a : Addr) (r : List Nat) : Prop := ∃ (dx d : Addr) (l : List Nat) (n : Nat), H a = some (.ins C dx (rdF d (n : Int))) ∧ SqL K H d (vb l) ∧ n ≤ l.length ∧ l.drop n = r ∧ l.length ≤ 5000
theorem rd_data (d : Addr) (n : Int) : (rdF d n).lookup ("data" : Str) = some (.ref d) := lk_here
theorem rd_at (d : Addr) (n : Int) : (rdF d n).lookup ("at" : Str) = some (.int n) := (lk_past (by decide +kernel)).trans lk_here
theorem rd_no (d : Addr) (n : Int) (m : Str) (h1 : (m == ("data" : Str)) = false) (h2 : (m == ("at" : Str)) = false) : (rdF d n).lookup m = none := (lk_past h1).trans ((lk_past h2).trans rfl)
theorem rd_put (d : Addr) (n m : Int) : putF "at" (.int m) (rdF d n) = rdF d m := (put_past (by decide +kernel)).trans (congrArg _ put_here)
theorem rd_new (d : Addr) : putF "at" (.int 0) (putF "data" (.ref d) []) = rdF d 0 := (put_past (by decide +kernel)).trans rfl
theorem KeepB.rd {K : PySem.W.Frag} {C : Addr} {H H' : Hp} {a b : Addr} {xs : List V} {dx : Addr} {fs : List (Str × V)} (k : KeepB H H' a) (h : H a = some (.ins C dx fs)) (hs : SqL K H b xs) : SqL K H' b xs :=
  k.seq (fun ys e => by rw [h] at e; cases e) (fun o u e => by rw [h] at e; cases e) hs
theorem RdAt.same {K : PySem.W.Frag} {C : Addr} {H H' : Hp} {a : Addr} {r : List Nat} (s : Same H H') (h : RdAt K C H a r) : RdAt K C H' a r := by
  obtain ⟨dx, d, l, n, h1, h2, h3, h4, h5⟩ := h
  exact ⟨dx, d, l, n, s _ _ h1, s.seq h2, h3, h4, h5⟩
theorem RdAt.meth {K : PySem.W.Frag} {C : Addr} {H : Hp} {a : Addr} {r : List Nat} (h : RdAt K C H a r) : ∃ dx fs, H a = some (.ins C dx fs) ∧ ∀ m : Str, (m == ("data" : Str)) = false → (m == ("at" : Str)) = false → fs.lookup m = none := by
  obtain ⟨dx, d, l, n, h1, _⟩ := h
  exact ⟨dx, _, h1, fun m => rd_no d _ m⟩
def sp_Reader___init__ (K : PySem.W.Frag) (C : Addr) : Sp := fun vs H Q _ => ∃ (x dx d : Addr) (l : List Nat), vs = [.ref x, .ref d] ∧ H x = some (.ins C dx []) ∧ SqL K H d (vb l) ∧ l.length ≤ 5000 ∧ ∀ H' : Hp, KeepB H H' x → RdAt K C H' x l → Q .non H'
theorem ok_Reader___init__ {C : Cs} {f : Addr} {fd : FuncData} (F : Fun K "__init__" "Reader.__init__" s_Reader___init__ f fd) (T : Txt K mg) (TC : TxtC K mg C) : FnOk P w K mg base CX0 1 f fd ["self", "data"] (sp_Reader___init__ K C.Reader) := by
  refine F.ok sc_Reader___init__ (fun vs H Q E h => ?_) (fun cdv A outer s H vs Q E hr h => ?_)
  · obtain ⟨x, dx, d, l, rfl, _⟩ := h
    rfl
  · obtain ⟨x, dx, d, l, rfl, hx, hS, hl, q⟩ := h
    refine ⟨_, pss_cons (ps_fld (pv 0) (pv 1) rfl) (pss_one (ps_fld (pv 0) pe_int rfl)), ?_⟩
    refine ⟨_, rfl, _, rfl, x, C.Reader, dx, [], rfl, hx, TC.Reader_cl, TC.Reader_no_data, (by show 0 < 1000; decide), ?_⟩
    refine ⟨_, rfl, x, C.Reader, dx, _, rfl, upd_same, TC.Reader_cl, TC.Reader_no_at, (by show 1 < 1000; decide), ?_⟩
    have kp : KeepB H (upd (upd H x (.ins C.Reader dx (putF "data" (.ref d) []))) x (.ins C.Reader dx (putF "at" (.int 0) (putF "data" (.ref d) [])))) x := keepB_set.trans keepB_set
    exact q _ kp ⟨dx, d, l, 0, upd_same.trans (congrArg (fun z => some (HO.ins C.Reader dx z)) (rd_new d)), kp.rd hx hS, Nat.zero_le _, rfl, hl⟩
/-! ### Reader.some -/
theorem sc_Reader_some : FnScope ["self", "many"] ["self", "many"] (defScope s_Reader_some) := ⟨rfl, rfl, rfl, by decide +kernel, rfl, by decide +kernel, by decide +kernel⟩
def sp_Reader_some (K : PySem.W.Frag) (C CN : Addr) : Sp := fun vs H Q E => ∃ (a : Addr) (r : List Nat) (n : Nat), vs = [.ref a, .int (n : Int)] ∧ RdAt K C H a r ∧
  (Ql67.takeBytes n r = none → ∀ H' : Hp, KeepB H H' a → E (.ref CN) none H') ∧
  (∀ x s, Ql67.takeBytes n r = some (x, s) → ∀ (H' : Hp) (p : Addr), KeepB H H' a → H p = none → H' p = some (.lst (vb x)) → RdAt K C H' a s → Q (.ref p) H')
theorem take_no {n : Nat} {r : List Nat} (h : r.length < n) : Ql67.takeBytes n r = none := if_neg (by omega)
theorem take_yes {n : Nat} {r : List Nat} (h : n ≤ r.length) : Ql67.takeBytes n r = some (r.take n, r.drop n) := if_pos h
theorem ok_Reader_some {C : Cs} {f : Addr} {fd : FuncData} (F : Fun K "some" "Reader.some" s_Reader_some f fd) (T : Txt K mg) (TC : TxtC K mg C) : FnOk P w K mg base (L2.CX P w) 1 f fd ["self", "many"] (sp_Reader_some K C.Reader C.NoMessage) := by
  refine F.okX sc_Reader_some (fun vs H Q E h => ?_) (fun cdv A outer s H vs Q E hr h => ?_)
  · obtain ⟨a, r, n, rfl, _⟩ := h
    rfl
  · obtain ⟨a, r, n, rfl, ⟨dx, d, l, m, h1, hS, hm, hd, hl⟩, kN, kS⟩ := h
    refine ⟨_, pss_cons (ps_if (pt_cmpR op_gt (pe_op op_add (pe_fld (pv 0) rfl) (pv 1)) (pe_callB call_len_seq (by rfl) T.b_len PySem.boot_len (pa_cons (pe_fld (pv 0) rfl) pa_nil)) (nomark _))
        (pss_one (ps_raise rfl (takes_of rfl rfl rfl rfl) (pmk_own PySem.F.excBase_ValueError TC.NoMessage_x TC.NoMessage_g TC.NoMessage_k (raises_own TC.NoMessage_b TC.NoMessage_t) (by exact rfl)))) pss_nil)
      (pss_cons (ps_fldaug (pv 0) (pv 1) in_add)
      (pss_one (ps_ret (pe_slice sl_list (pe_fld (pv 0) rfl) (po_some (pe_op op_sub (pe_fld (pv 0) rfl) (pv 1))) (po_some (pe_fld (pv 0) rfl)))))), ?_⟩
    have hlen : (vb l).length = l.length := vb_length l
    have hr' : r.length = l.length - m := by rw [← hd, List.length_drop]
    refine ⟨_, rfl, a, C.Reader, dx, _, _, rfl, h1, TC.Reader_cl, TC.Reader_no_at, rd_at d m, _, rfl, _, _, rfl, rfl, _, rfl, a, C.Reader, dx, _, _, rfl, h1, TC.Reader_cl, TC.Reader_no_data, rd_data d m, d, _, rfl, .inl hS, _, _, rfl, rfl, _, rfl, ifB (fun c1 => ?_) (fun c1 => ?_)⟩
    · have c1' := of_decide_eq_true c1
      rw [hlen] at c1'
      exact kN (take_no (by omega)) H (KeepB.refl H a)
    · have c1' := of_decide_eq_false c1
      rw [hlen] at c1'
      refine ⟨_, rfl, a, C.Reader, dx, _, _, rfl, h1, TC.Reader_cl, TC.Reader_no_at, rd_at d m, _, rfl, _, _, rfl, rfl, dx, _, h1, (by show 2 < 1000; decide), ?_⟩
      generalize hE : upd H a _ = H1
      have k1 : KeepB H H1 a := by
        rw [← hE]
        exact keepB_set
      have h2 : H1 a = some (.ins C.Reader dx (rdF d ((m + n : Nat) : Int))) := by
        rw [← hE, upd_same, rd_put, Int.natCast_add]
      clear hE
      have hS1 : SqL K H1 d (vb l) := k1.rd h1 hS
      refine ⟨_, rfl, a, C.Reader, dx, _, _, rfl, h2, TC.Reader_cl, TC.Reader_no_data, rd_data d _, _, rfl, a, C.Reader, dx, _, _, rfl, h2, TC.Reader_cl, TC.Reader_no_at, rd_at d _, _, rfl, _, _, rfl, rfl, _, rfl, _, rfl, a, C.Reader, dx, _, _, rfl, h2, TC.Reader_cl, TC.Reader_no_at, rd_at d _, _, rfl, d, _, rfl, hS1, fun p np => ?_⟩
      generalize hE : upd _ p _ = H2
      obtain ⟨s2, e2⟩ := gen_new hE np
      clear hE
      rw [cut_vb l (a := m) (n := n) (by omega) rfl, hd] at e2
      have k2 : KeepB H H2 a := k1.trans (KeepB.of s2)
      refine kS _ _ (take_yes (by omega)) H2 p k2 ?_ e2 ⟨dx, d, l, m + n, s2 _ _ h2, s2.seq hS1, by omega, ?_, hl⟩
      · cases e : H p with
        | none => rfl
        | some o =>
          by_cases ep : p = a
          · rw [ep, h2] at np
            cases np
          · rw [k1 p o ep e] at np
            cases np
      · rw [← hd, List.drop_drop]
/-! ### Reader.number -/
theorem sc_Reader_number : FnScope ["self", "many"] ["self", "many"] (defScope s_Reader_number) := ⟨rfl, rfl, rfl, by decide +kernel, rfl, by decide +kernel, by decide +kernel⟩
def sp_Reader_number (K : PySem.W.Frag) (C CN : Addr) : Sp := fun vs H Q E => ∃ (a : Addr) (r : List Nat) (n : Nat), vs = [.ref a, .int (n : Int)] ∧ RdAt K C H a r ∧
  (Ql67.takeNum n r = none → ∀ H' : Hp, KeepB H H' a → E (.ref CN) none H') ∧
  (∀ x s, Ql67.takeNum n r = some (x, s) → ∀ (H' : Hp), KeepB H H' a → RdAt K C H' a s → Q (.int (x : Nat)) H')
theorem num_no {n : Nat} {r : List Nat} (h : Ql67.takeBytes n r = none) : Ql67.takeNum n r = none := by
  unfold Ql67.takeNum
  rw [h]
  rfl
theorem num_yes {n : Nat} {r x s : List Nat} (h : Ql67.takeBytes n r = some (x, s)) : Ql67.takeNum n r = some (Ql67.num x, s) := by
  unfold Ql67.takeNum
  rw [h]
  rfl
theorem ok_Reader_number {C : Cs} {f : Addr} {fd : FuncData} (F : Fun K "number" "Reader.number" s_Reader_number f fd) (T : Txt K mg) (TC : TxtC K mg C) (G1 : Mt P w K mg base (L2.CX P w) 1 C.Reader "some" ["self", "many"] (sp_Reader_some K C.Reader C.NoMessage))
    (G2 : Df P w K mg base CX0 1 "number_of" ["row"] (sp_number_of K)) : FnOk P w K mg base (L2.CX P w) 2 f fd ["self", "many"] (sp_Reader_number K C.Reader C.NoMessage) := by
  refine F.okX sc_Reader_number (fun vs H Q E h => ?_) (fun cdv A outer s H vs Q E hr h => ?_)
  · obtain ⟨a, r, n, rfl, _⟩ := h
    rfl
  · obtain ⟨a, r, n, rfl, hR, kN, kS⟩ := h
    refine ⟨_, pss_one (ps_ret (pe_callD G2 (hr.mono (by decide)) pass0 (pa_cons (pe_methD G1 (pv 0) TC.Reader_cl (hr.mono (by decide)) passX (pa_cons (pv 1) pa_nil)) pa_nil))), ?_⟩
    obtain ⟨dx, d, l, m, h1, h2⟩ := id hR
    refine ⟨_, rfl, a, dx, _, rfl, h1, rd_no d _ _ (by decide +kernel) (by decide +kernel), _, rfl, a, r, n, rfl, hR, fun e H1 k1 => kN (num_no e) H1 k1, fun x s e H1 p k1 n1 e1 r1 => ?_⟩
    exact ⟨p, x, rfl, lst_of e1, kS _ _ (num_yes e) H1 k1 r1⟩
/-! ### Reader.take_name -/
theorem sc_Reader_take_name : FnScope ["self", "found"] ["self"] (defScope s_Reader_take_name) := ⟨rfl, rfl, rfl, by decide +kernel, rfl, by decide +kernel, by decide +kernel⟩
def sp_Reader_take_name (K : PySem.W.Frag) (C CN : Addr) : Sp := fun vs H Q E => ∃ (a : Addr) (r : List Nat), vs = [.ref a] ∧ RdAt K C H a r ∧
  (Ql67.takeName r = none → ∀ H' : Hp, KeepB H H' a → E (.ref CN) none H') ∧
  (∀ x s, Ql67.takeName r = some (x, s) → ∀ (H' : Hp) (p : Addr), KeepB H H' a → H p = none → H' p = some (.tup (vb x)) → RdAt K C H' a s → Q (.ref p) H')
theorem name_nil : Ql67.takeName [] = none := rfl
theorem one_nil : Ql67.takeNum 1 [] = none := rfl
theorem one_cons (c : Nat) (r : List Nat) : Ql67.takeNum 1 (c :: r) = some (c, r) := by
  have e : Ql67.takeBytes 1 (c :: r) = some ([c], r) := if_pos (by show 1 ≤ r.length + 1; omega)
  rw [num_yes e]
  show some (256 * 0 + c, r) = some (c, r)
  rw [Nat.mul_zero, Nat.zero_add]
theorem name_short {c : Nat} {r : List Nat} (h : Ql67.takeBytes c r = none) : Ql67.takeName (c :: r) = none := by
  have h' : ¬ c ≤ r.length := fun q => by
    rw [take_yes q] at h
    cases h
  exact if_neg fun q => h' q.1
theorem name_bad {c : Nat} {r x s : List Nat} (h : Ql67.takeBytes c r = some (x, s)) (b : Ql67.isName x = false) : Ql67.takeName (c :: r) = none := by
  by_cases q : c ≤ r.length
  · rw [take_yes q] at h
    injection h with h
    injection h with h1 h2
    subst h1
    exact if_neg fun z => by
      rw [b] at z
      cases z.2
  · rw [take_no (by omega)] at h
    cases h
theorem name_good {c : Nat} {r x s : List Nat} (h : Ql67.takeBytes c r = some (x, s)) (b : Ql67.isName x = true) : Ql67.takeName (c :: r) = some (x, s) := by
  by_cases q : c ≤ r.length
  · rw [take_yes q] at h
    injection h with h
    injection h with h1 h2
    subst h1 h2
    exact if_pos ⟨q, b⟩
  · rw [take_no (by omega)] at h
    cases h
theorem ok_Reader_take_name {C : Cs} {f : Addr} {fd : FuncData} (F : Fun K "take_name" "Reader.take_name" s_Reader_take_name f fd) (T : Txt K mg) (TC : TxtC K mg C) (G1 : Mt P w K mg base (L2.CX P w) 1 C.Reader "some" ["self", "many"] (sp_Reader_some K C.Reader C.NoMessage))
    (G2 : Mt P w K mg base (L2.CX P w) 2 C.Reader "number" ["self", "many"] (sp_Reader_number K C.Reader C.NoMessage)) (G3 : Df P w K mg base CX0 2 "is_name" ["row"] (sp_is_name K)) :
    FnOk P w K mg base (L2.CX P w) 3 f fd ["self"] (sp_Reader_take_name K C.Reader C.NoMessage) := by
  refine F.okX sc_Reader_take_name (fun vs H Q E h => ?_) (fun cdv A outer s H vs Q E hr h => ?_)
  · obtain ⟨a, r, rfl, _⟩ := h
    rfl
  · obtain ⟨a, r, rfl, hR, kN, kS⟩ := h
    refine ⟨_, pss_cons (ps_set (i := 1) sc_Reader_take_name.nd rfl (Or.inl rfl) (pe_methD G1 (pv 0) TC.Reader_cl (hr.mono (by decide)) passX (pa_cons (pe_methD G2 (pv 0) TC.Reader_cl (hr.mono (by decide)) passX (pa_cons pe_int pa_nil)) pa_nil)))
      (pss_cons (ps_if (pt_not (pt_val (pe_callD G3 (hr.mono (by decide)) pass0 (pa_cons (pv 1) pa_nil))))
        (pss_one (ps_raise rfl (takes_of rfl rfl rfl rfl) (pmk_own PySem.F.excBase_ValueError TC.NoMessage_x TC.NoMessage_g TC.NoMessage_k (raises_own TC.NoMessage_b TC.NoMessage_t) (by exact rfl)))) pss_nil)
      (pss_one (ps_ret (pe_callTy call_tuple_of (by rfl) T.b_tuple (by decide +kernel) (pa_cons (pv 1) pa_nil))))), ?_⟩
    obtain ⟨dx, d, l, m, h1, h2⟩ := id hR
    refine ⟨_, rfl, a, dx, _, rfl, h1, rd_no d _ _ (by decide +kernel) (by decide +kernel), ?_⟩
    refine ⟨_, rfl, a, dx, _, rfl, h1, rd_no d _ _ (by decide +kernel) (by decide +kernel), a, r, 1, rfl, hR, fun e H1 k1 => ?_, fun c s e H1 k1 r1 => ?_⟩
    · cases r with
      | nil => exact kN name_nil H1 k1
      | cons c r =>
        rw [one_cons] at e
        cases e
    · cases r with
      | nil => cases e
      | cons c' r =>
        rw [one_cons] at e
        injection e with e
        injection e with e1 e2
        subst e1 e2
        refine ⟨a, r, c', rfl, r1, fun e H2 k2 => kN (name_short e) H2 (k1.trans k2), fun x s e H2 p k2 n2 e2 r2 => ?_⟩
        have np : H p = none := by
          cases q : H p with
          | none => rfl
          | some o =>
            by_cases ep : p = a
            · obtain ⟨dx', d', l', m', h1', _⟩ := r1
              rw [ep, h1'] at n2
              cases n2
            · rw [k1 p o ep q] at n2
              cases n2
        refine ⟨_, rfl, p, x, rfl, lst_of e2, fun H3 s3 => ⟨_, rfl, ifB (fun c1 => ?_) (fun c1 => ?_)⟩⟩
        · exact kN (name_bad e (by simpa using c1)) H3 ((k1.trans k2).trans (KeepB.of s3))
        · have hn : Ql67.isName x = true := by simpa using c1
          refine ⟨_, rfl, p, _, rfl, .inl ⟨lst_of (s3 _ _ e2), fun q nq => ?_⟩⟩
          have k3 := (k1.trans k2).trans (KeepB.of s3)
          refine kS _ _ (name_good e hn) _ q (k3.trans (KeepB.of (same_upd nq))) ?_ upd_same (RdAt.same (same_upd nq) (RdAt.same s3 r2))
          cases z : H q with
          | none => rfl
          | some o =>
            by_cases ep : q = a
            · obtain ⟨dx', d', l', m', h1', _⟩ := RdAt.same s3 r2
              rw [ep, h1'] at nq
              cases nq
            · rw [k3 q o ep z] at nq
              cases nq
/-! ### Reader.row -/
theorem sc_Reader_row : FnScope ["self"] ["self"] (defScope s_Reader_row) := ⟨rfl, rfl, rfl, by decide +kernel, rfl, by decide +kernel, by decide +kernel⟩
def sp_Reader_row (K : PySem.W.Frag) (C CN : Addr) : Sp := fun vs H Q E => ∃ (a : Addr) (r : List Nat), vs = [.ref a] ∧ RdAt K C H a r ∧
  (Ql67.takeCounted r = none → ∀ H' : Hp, KeepB H H' a → E (.ref CN) none H') ∧
  (∀ x s, Ql67.takeCounted r = some (x, s) → ∀ (H' : Hp) (p : Addr), KeepB H H' a → H p = none → H' p = some (.lst (vb x)) → RdAt K C H' a s → Q (.ref p) H')
/-- new over the heap behind is new over the heap ahead -/
theorem new_of {K : PySem.W.Frag} {C : Addr} {H H1 : Hp} {a p : Addr} {r : List Nat} (k : KeepB H H1 a) (h : RdAt K C H1 a r) (n : H1 p = none) : H p = none := by
  cases q : H p with
  | none => rfl
  | some o =>
    by_cases ep : p = a
    · obtain ⟨dx', d', l', m', h1', _⟩ := h
      rw [ep, h1'] at n
      cases n
    · rw [k p o ep q] at n
      cases n
theorem take_bytes {n : Nat} {l x s : List Nat} (h : Ql67.takeBytes n l = some (x, s)) (hb : Ql67.Bytes l) : (Ql67.Bytes x ∧ Ql67.Bytes s) ∧ x.length ≤ l.length ∧ s.length ≤ l.length := by
  by_cases q : n ≤ l.length
  · rw [take_yes q] at h
    injection h with h
    injection h with h1 h2
    subst h1 h2
    exact ⟨⟨fun b m => hb b (List.mem_of_mem_take m), fun b m => hb b (List.mem_of_mem_drop m)⟩, by rw [List.length_take]; omega, by rw [List.length_drop]; omega⟩
  · rw [take_no (by omega)] at h
    cases h
theorem counted_bytes {l x s : List Nat} (h : Ql67.takeCounted l = some (x, s)) (hb : Ql67.Bytes l) : (Ql67.Bytes x ∧ Ql67.Bytes s) ∧ x.length ≤ l.length ∧ s.length ≤ l.length := by
  unfold Ql67.takeCounted at h
  cases e : Ql67.takeBytes 2 l with
  | none =>
    rw [num_no e] at h
    cases h
  | some v =>
    obtain ⟨y, r⟩ := v
    rw [num_yes e] at h
    obtain ⟨⟨_, b2⟩, _, l2⟩ := take_bytes e hb
    obtain ⟨q1, q2, q3⟩ := take_bytes (show Ql67.takeBytes (Ql67.num y) r = some (x, s) from h) b2
    exact ⟨q1, by omega, by omega⟩
theorem ok_Reader_row {C : Cs} {f : Addr} {fd : FuncData} (F : Fun K "row" "Reader.row" s_Reader_row f fd) (T : Txt K mg) (TC : TxtC K mg C) (G1 : Mt P w K mg base (L2.CX P w) 1 C.Reader "some" ["self", "many"] (sp_Reader_some K C.Reader C.NoMessage))
    (G2 : Mt P w K mg base (L2.CX P w) 2 C.Reader "number" ["self", "many"] (sp_Reader_number K C.Reader C.NoMessage)) :
    FnOk P w K mg base (L2.CX P w) 3 f fd ["self"] (sp_Reader_row K C.Reader C.NoMessage) := by
  refine F.okX sc_Reader_row (fun vs H Q E h => ?_) (fun cdv A outer s H vs Q E hr h => ?_)
  · obtain ⟨a, r, rfl, _⟩ := h
    rfl
  · obtain ⟨a, r, rfl, hR, kN, kS⟩ := h
    refine ⟨_, pss_one (ps_ret (pe_methD G1 (pv 0) TC.Reader_cl (hr.mono (by decide)) passX (pa_cons (pe_methD G2 (pv 0) TC.Reader_cl (hr.mono (by decide)) passX (pa_cons (pe_gv T.c_LENGTH_BYTES) pa_nil)) pa_nil))), ?_⟩
    obtain ⟨dx, d, l, m, h1, h2⟩ := id hR
    refine ⟨_, rfl, a, dx, _, rfl, h1, rd_no d _ _ (by decide +kernel) (by decide +kernel), ?_⟩
    refine ⟨_, rfl, a, dx, _, rfl, h1, rd_no d _ _ (by decide +kernel) (by decide +kernel), a, r, 2, rfl, hR, fun e H1 k1 => ?_, fun c s e H1 k1 r1 => ?_⟩
    · refine kN ?_ H1 k1
      unfold Ql67.takeCounted
      rw [e]
      rfl
    · have ec : Ql67.takeCounted r = Ql67.takeBytes c s := by
        unfold Ql67.takeCounted
        rw [e]
        rfl
      exact ⟨a, s, c, rfl, r1, fun e2 H2 k2 => kN (ec.trans e2) H2 (k1.trans k2), fun x s' e2 H2 p k2 n2 o2 r2 => kS x s' (ec.trans e2) H2 p (k1.trans k2) (new_of k1 r1 n2) o2 r2⟩
/-! ### Reader.time -/
theorem sc_Reader_time : FnScope ["self"] ["self"] (defScope s_Reader_time) := ⟨rfl, rfl, rfl, by decide +kernel, rfl, by decide +kernel, by decide +kernel⟩
def sp_Reader_time (K : PySem.W.Frag) (C CN : Addr) : Sp := fun vs H Q E => ∃ (a : Addr) (r : List Nat), vs = [.ref a] ∧ RdAt K C H a r ∧
  (Ql67.takeNum 8 r = none → ∀ H' : Hp, KeepB H H' a → E (.ref CN) none H') ∧
  (∀ x s, Ql67.takeNum 8 r = some (x, s) → ∀ (H' : Hp), KeepB H H' a → RdAt K C H' a s → Q (.int (x : Nat)) H')
theorem ok_Reader_time {C : Cs} {f : Addr} {fd : FuncData} (F : Fun K "time" "Reader.time" s_Reader_time f fd) (T : Txt K mg) (TC : TxtC K mg C) (G2 : Mt P w K mg base (L2.CX P w) 2 C.Reader "number" ["self", "many"] (sp_Reader_number K C.Reader C.NoMessage)) :
    FnOk P w K mg base (L2.CX P w) 3 f fd ["self"] (sp_Reader_time K C.Reader C.NoMessage) := by
  refine F.okX sc_Reader_time (fun vs H Q E h => ?_) (fun cdv A outer s H vs Q E hr h => ?_)
  · obtain ⟨a, r, rfl, _⟩ := h
    rfl
  · obtain ⟨a, r, rfl, hR, kN, kS⟩ := h
    refine ⟨_, pss_one (ps_ret (pe_methD G2 (pv 0) TC.Reader_cl (hr.mono (by decide)) passX (pa_cons (pe_gv T.c_TIME_BYTES) pa_nil))), ?_⟩
    obtain ⟨dx, d, l, m, h1, h2⟩ := id hR
    exact ⟨_, rfl, a, dx, _, rfl, h1, rd_no d _ _ (by decide +kernel) (by decide +kernel), a, r, 8, rfl, hR, kN, kS⟩
/-! ### Reader.want_end -/
theorem sc_Reader_want_end : FnScope ["self"] ["self"] (defScope s_Reader_want_end) := ⟨rfl, rfl, rfl, by decide +kernel, rfl, by decide +kernel, by decide +kernel⟩
def sp_Reader_want_end (K : PySem.W.Frag) (C CN : Addr) : Sp := fun vs H Q E => ∃ (a : Addr) (r : List Nat), vs = [.ref a] ∧ RdAt K C H a r ∧ (r ≠ [] → E (.ref CN) none H) ∧ (r = [] → Q .non H)
theorem ok_Reader_want_end {C : Cs} {f : Addr} {fd : FuncData} (F : Fun K "want_end" "Reader.want_end" s_Reader_want_end f fd) (T : Txt K mg) (TC : TxtC K mg C) : FnOk P w K mg base (L2.CX P w) 1 f fd ["self"] (sp_Reader_want_end K C.Reader C.NoMessage) := by
  refine F.okX sc_Reader_want_end (fun vs H Q E h => ?_) (fun cdv A outer s H vs Q E hr h => ?_)
  · obtain ⟨a, r, rfl, _⟩ := h
    rfl
  · obtain ⟨a, r, rfl, ⟨dx, d, l, m, h1, hS, hm, hd, hl⟩, kN, kS⟩ := h
    refine ⟨_, pss_one (ps_if (pt_cmpR op_lt (pe_fld (pv 0) rfl) (pe_callB call_len_seq (by rfl) T.b_len PySem.boot_len (pa_cons (pe_fld (pv 0) rfl) pa_nil)) (nomark _))
        (pss_one (ps_raise rfl (takes_of rfl rfl rfl rfl) (pmk_own PySem.F.excBase_ValueError TC.NoMessage_x TC.NoMessage_g TC.NoMessage_k (raises_own TC.NoMessage_b TC.NoMessage_t) (by exact rfl)))) pss_nil), ?_⟩
    have hlen : (vb l).length = l.length := vb_length l
    have hr' : r.length = l.length - m := by rw [← hd, List.length_drop]
    refine ⟨_, rfl, a, C.Reader, dx, _, _, rfl, h1, TC.Reader_cl, TC.Reader_no_at, rd_at d m, _, rfl, a, C.Reader, dx, _, _, rfl, h1, TC.Reader_cl, TC.Reader_no_data, rd_data d m, d, _, rfl, .inl hS, _, _, rfl, rfl, _, rfl, ifB (fun c1 => ?_) (fun c1 => ?_)⟩
    · have c1' := of_decide_eq_true c1
      rw [hlen] at c1'
      refine kN fun e => ?_
      rw [e] at hr'
      have h0 : (0 : Nat) = l.length - m := hr'
      omega
    · have c1' := of_decide_eq_false c1
      rw [hlen] at c1'
      exact kS (List.eq_nil_of_length_eq_zero (by omega))
/-! ### asked_in -/
theorem sc_asked_in : FnScope ["data", "reader", "found"] ["data"] (defScope s_asked_in) := ⟨rfl, rfl, rfl, by decide +kernel, rfl, by decide +kernel, by decide +kernel⟩
def askOf (l : List Nat) : Option (List Nat × List Nat × Nat × Nat) := (Ql67.takeName l).bind fun c => (Ql67.takeName c.2).bind fun s => (Ql67.takeNum 8 s.2).bind fun n => (Ql67.takeNum 4 n.2).bind fun f => Ql67.ended ((c.1, s.1, n.1, f.1), f.2)
def sp_asked_in (K : PySem.W.Frag) (CN : Addr) : Sp := fun vs H Q E => ∃ (d : Addr) (l : List Nat), vs = [.ref d] ∧ SqL K H d (vb l) ∧ l.length ≤ 5000 ∧ (askOf l = none → ∀ H' : Hp, Same H H' → E (.ref CN) none H') ∧
  (∀ v, askOf l = some v → ∀ (H' : Hp) (q a0 a1 : Addr), Same H H' → H q = none → H' q = some (.tup [.ref a0, .ref a1, .int (v.2.2.1 : Nat), .int (v.2.2.2 : Nat)]) → H' a0 = some (.tup (vb v.1)) → H' a1 = some (.tup (vb v.2.1)) → Q (.ref q) H')
theorem ok_asked_in {C : Cs} {f : Addr} {fd : FuncData} (F : Fun K "asked_in" "asked_in" s_asked_in f fd) (T : Txt K mg) (TC : TxtC K mg C) (G0 : Cn P w K mg base CX0 1 "Reader" C.Reader ["self", "data"] (sp_Reader___init__ K C.Reader))
    (G_take_name : Mt P w K mg base (L2.CX P w) 3 C.Reader "take_name" ["self"] (sp_Reader_take_name K C.Reader C.NoMessage)) (G_time : Mt P w K mg base (L2.CX P w) 3 C.Reader "time" ["self"] (sp_Reader_time K C.Reader C.NoMessage)) (G_number : Mt P w K mg base (L2.CX P w) 2 C.Reader "number" ["self", "many"] (sp_Reader_number K C.Reader C.NoMessage)) (G_want_end : Mt P w K mg base (L2.CX P w) 1 C.Reader "want_end" ["self"] (sp_Reader_want_end K C.Reader C.NoMessage)) : FnOk P w K mg base (L2.CX P w) 4 f fd ["data"] (sp_asked_in K C.NoMessage) := by
  -- 
  refine F.okX sc_asked_in (fun vs H Q E h => ?_) (fun cdv A outer s H vs Q E hr h => ?_)
  · obtain ⟨d, l, rfl, _⟩ := h
    rfl
  · obtain ⟨d, l, rfl, hS, hl, kN, kS⟩ := h
    refine ⟨_, pss_cons (ps_set (i := 1) sc_asked_in.nd rfl (Or.inl rfl) (pe_makeD G0 (hr.mono (by decide)) pass0 (pa_cons (pv 0) pa_nil)))
      (pss_cons (ps_set (i := 2) sc_asked_in.nd rfl (Or.inl rfl) (pe_tup (pa_cons (pe_meth0D G_take_name (pv 1) TC.Reader_cl (hr.mono (by decide)) passX) (pa_cons (pe_meth0D G_take_name (pv 1) TC.Reader_cl (hr.mono (by decide)) passX) (pa_cons (pe_meth0D G_time (pv 1) TC.Reader_cl (hr.mono (by decide)) passX) (pa_cons (pe_methD G_number (pv 1) TC.Reader_cl (hr.mono (by decide)) passX (pa_cons (pe_gv T.c_LIFE_BYTES) pa_nil)) pa_nil))))))
      (pss_cons (ps_expr (pe_meth0D G_want_end (pv 1) TC.Reader_cl (hr.mono (by decide)) passX)) (pss_one (ps_ret (pv 2))))), ?_⟩
    refine ⟨_, rfl, fun x dx nx nd ne => ?_⟩
    have nx' : (upd H dx (.own x)) x = none := by
      rw [upd_ne ne.symm]
      exact nx
    refine ⟨x, dx, d, l, rfl, upd_same, (same_new (same_upd nd) nx').seq hS, hl, fun H0 k0 r0 => ⟨rfl, ?_⟩⟩
    have s0 : Same H H0 := Same.made nx nd fun b o h n => k0 b o n h
    obtain ⟨dx0, fs0, g0, no0⟩ := r0.meth
    refine ⟨_, rfl, x, dx0, fs0, rfl, g0, no0 _ (by decide +kernel) (by decide +kernel), x, l, rfl, r0, fun e H' k => kN (by simp [askOf, e]) H' (KeepB.same s0 k nx), fun y1 t1 e1 H1 a1 k1 n1 o1 r1 => ?_⟩
    have s1 : Same H H1 := KeepB.same s0 k1 nx
    obtain ⟨dx1, fs1, g1, no1⟩ := r1.meth
    refine ⟨_, rfl, x, dx1, fs1, rfl, g1, no1 _ (by decide +kernel) (by decide +kernel), x, t1, rfl, r1, fun e H' k => kN (by simp [askOf, e1, e]) H' (KeepB.same s1 k nx), fun y2 t2 e2 H2 a2 k2 n2 o2 r2 => ?_⟩
    have s2 : Same H H2 := KeepB.same s1 k2 nx
    obtain ⟨dx2, fs2, g2, no2⟩ := r2.meth
    have o1 := k2 _ _ (ne_of o1 g1 (fun z => by cases z)) o1
    refine ⟨_, rfl, x, dx2, fs2, rfl, g2, no2 _ (by decide +kernel) (by decide +kernel), x, t2, rfl, r2, fun e H' k => kN (by simp [askOf, e1, e2, e]) H' (KeepB.same s2 k nx), fun y3 t3 e3 H3 k3 r3 => ?_⟩
    have s3 : Same H H3 := KeepB.same s2 k3 nx
    obtain ⟨dx3, fs3, g3, no3⟩ := r3.meth
    have o1 := k3 _ _ (ne_of o1 g2 (fun z => by cases z)) o1
    have o2 := k3 _ _ (ne_of o2 g2 (fun z => by cases z)) o2
    refine ⟨_, rfl, x, dx3, fs3, rfl, g3, no3 _ (by decide +kernel) (by decide +kernel), x, t3, 4, rfl, r3, fun e H' k => kN (by simp [askOf, e1, e2, e3, e]) H' (KeepB.same s3 k nx), fun y4 t4 e4 H4 k4 r4 => ?_⟩
    have s4 : Same H H4 := KeepB.same s3 k4 nx
    obtain ⟨dx4, fs4, g4, no4⟩ := r4.meth
    have o1 := k4 _ _ (ne_of o1 g3 (fun z => by cases z)) o1
    have o2 := k4 _ _ (ne_of o2 g3 (fun z => by cases z)) o2
    refine ⟨(by show 4 ≤ sizeLine; decide), fun q nq => ?_⟩
    generalize hE : upd _ q _ = H9
    obtain ⟨s9, e9⟩ := gen_new hE nq
    clear hE
    refine ⟨_, rfl, x, dx4, fs4, rfl, s9 _ _ g4, no4 _ (by decide +kernel) (by decide +kernel), x, t4, rfl, r4.same s9, fun e => ?_, fun e => ?_⟩
    · exact kN (by simp [askOf, e1, e2, e3, e4, Ql67.ended, e]) H9 (s4.trans s9)
    · refine ⟨_, rfl, kS (y1, y2, y3, y4) (by simp [askOf, e1, e2, e3, e4, Ql67.ended, e]) H9 q a1 a2 (s4.trans s9) (s4.free nq) e9 (s9 _ _ o1) (s9 _ _ o2)⟩
/-! ### more_asked_in -/
theorem sc_more_asked_in : FnScope ["data", "reader", "found"] ["data"] (defScope s_more_asked_in) := ⟨rfl, rfl, rfl, by decide +kernel, rfl, by decide +kernel, by decide +kernel⟩
def moreOf (l : List Nat) : Option (List Nat × List Nat × List Nat × Nat × Nat) := (Ql67.takeCounted l).bind fun t => (Ql67.takeCounted t.2).bind fun p => (Ql67.takeName p.2).bind fun s => (Ql67.takeNum 8 s.2).bind fun n => (Ql67.takeNum 4 n.2).bind fun f => Ql67.ended ((t.1, p.1, s.1, n.1, f.1), f.2)
def sp_more_asked_in (K : PySem.W.Frag) (CN : Addr) : Sp := fun vs H Q E => ∃ (d : Addr) (l : List Nat), vs = [.ref d] ∧ SqL K H d (vb l) ∧ l.length ≤ 5000 ∧ (moreOf l = none → ∀ H' : Hp, Same H H' → E (.ref CN) none H') ∧
  (∀ v, moreOf l = some v → ∀ (H' : Hp) (q a0 a1 a2 : Addr), Same H H' → H q = none → H' q = some (.tup [.ref a0, .ref a1, .ref a2, .int (v.2.2.2.1 : Nat), .int (v.2.2.2.2 : Nat)]) → H' a0 = some (.lst (vb v.1)) → H' a1 = some (.lst (vb v.2.1)) → H' a2 = some (.tup (vb v.2.2.1)) → Q (.ref q) H')
theorem ok_more_asked_in {C : Cs} {f : Addr} {fd : FuncData} (F : Fun K "more_asked_in" "more_asked_in" s_more_asked_in f fd) (T : Txt K mg) (TC : TxtC K mg C) (G0 : Cn P w K mg base CX0 1 "Reader" C.Reader ["self", "data"] (sp_Reader___init__ K C.Reader))
    (G_row : Mt P w K mg base (L2.CX P w) 3 C.Reader "row" ["self"] (sp_Reader_row K C.Reader C.NoMessage)) (G_take_name : Mt P w K mg base (L2.CX P w) 3 C.Reader "take_name" ["self"] (sp_Reader_take_name K C.Reader C.NoMessage)) (G_time : Mt P w K mg base (L2.CX P w) 3 C.Reader "time" ["self"] (sp_Reader_time K C.Reader C.NoMessage)) (G_number : Mt P w K mg base (L2.CX P w) 2 C.Reader "number" ["self", "many"] (sp_Reader_number K C.Reader C.NoMessage)) (G_want_end : Mt P w K mg base (L2.CX P w) 1 C.Reader "want_end" ["self"] (sp_Reader_want_end K C.Reader C.NoMessage)) : FnOk P w K mg base (L2.CX P w) 4 f fd ["data"] (sp_more_asked_in K C.NoMessage) := by
  -- 
  refine F.okX sc_more_asked_in (fun vs H Q E h => ?_) (fun cdv A outer s H vs Q E hr h => ?_)
  · obtain ⟨d, l, rfl, _⟩ := h
    rfl
  · obtain ⟨d, l, rfl, hS, hl, kN, kS⟩ := h
    refine ⟨_, pss_cons (ps_set (i := 1) sc_more_asked_in.nd rfl (Or.inl rfl) (pe_makeD G0 (hr.mono (by decide)) pass0 (pa_cons (pv 0) pa_nil)))
      (pss_cons (ps_set (i := 2) sc_more_asked_in.nd rfl (Or.inl rfl) (pe_tup (pa_cons (pe_meth0D G_row (pv 1) TC.Reader_cl (hr.mono (by decide)) passX) (pa_cons (pe_meth0D G_row (pv 1) TC.Reader_cl (hr.mono (by decide)) passX) (pa_cons (pe_meth0D G_take_name (pv 1) TC.Reader_cl (hr.mono (by decide)) passX) (pa_cons (pe_meth0D G_time (pv 1) TC.Reader_cl (hr.mono (by decide)) passX) (pa_cons (pe_methD G_number (pv 1) TC.Reader_cl (hr.mono (by decide)) passX (pa_cons (pe_gv T.c_LIFE_BYTES) pa_nil)) pa_nil)))))))
      (pss_cons (ps_expr (pe_meth0D G_want_end (pv 1) TC.Reader_cl (hr.mono (by decide)) passX)) (pss_one (ps_ret (pv 2))))), ?_⟩
    refine ⟨_, rfl, fun x dx nx nd ne => ?_⟩
    have nx' : (upd H dx (.own x)) x = none := by
      rw [upd_ne ne.symm]
      exact nx
    refine ⟨x, dx, d, l, rfl, upd_same, (same_new (same_upd nd) nx').seq hS, hl, fun H0 k0 r0 => ⟨rfl, ?_⟩⟩
    have s0 : Same H H0 := Same.made nx nd fun b o h n => k0 b o n h
    obtain ⟨dx0, fs0, g0, no0⟩ := r0.meth
    refine ⟨_, rfl, x, dx0, fs0, rfl, g0, no0 _ (by decide +kernel) (by decide +kernel), x, l, rfl, r0, fun e H' k => kN (by simp [moreOf, e]) H' (KeepB.same s0 k nx), fun y1 t1 e1 H1 a1 k1 n1 o1 r1 => ?_⟩
    have s1 : Same H H1 := KeepB.same s0 k1 nx
    obtain ⟨dx1, fs1, g1, no1⟩ := r1.meth
    refine ⟨_, rfl, x, dx1, fs1, rfl, g1, no1 _ (by decide +kernel) (by decide +kernel), x, t1, rfl, r1, fun e H' k => kN (by simp [moreOf, e1, e]) H' (KeepB.same s1 k nx), fun y2 t2 e2 H2 a2 k2 n2 o2 r2 => ?_⟩
    have s2 : Same H H2 := KeepB.same s1 k2 nx
    obtain ⟨dx2, fs2, g2, no2⟩ := r2.meth
    have o1 := k2 _ _ (ne_of o1 g1 (fun z => by cases z)) o1
    refine ⟨_, rfl, x, dx2, fs2, rfl, g2, no2 _ (by decide +kernel) (by decide +kernel), x, t2, rfl, r2, fun e H' k => kN (by simp [moreOf, e1, e2, e]) H' (KeepB.same s2 k nx), fun y3 t3 e3 H3 a3 k3 n3 o3 r3 => ?_⟩
    have s3 : Same H H3 := KeepB.same s2 k3 nx
    obtain ⟨dx3, fs3, g3, no3⟩ := r3.meth
    have o1 := k3 _ _ (ne_of o1 g2 (fun z => by cases z)) o1
    have o2 := k3 _ _ (ne_of o2 g2 (fun z => by cases z)) o2
    refine ⟨_, rfl, x, dx3, fs3, rfl, g3, no3 _ (by decide +kernel) (by decide +kernel), x, t3, rfl, r3, fun e H' k => kN (by simp [moreOf, e1, e2, e3, e]) H' (KeepB.same s3 k nx), fun y4 t4 e4 H4 k4 r4 => ?_⟩
    have s4 : Same H H4 := KeepB.same s3 k4 nx
    obtain ⟨dx4, fs4, g4, no4⟩ := r4.meth
    have o1 := k4 _ _ (ne_of o1 g3 (fun z => by cases z)) o1
    have o2 := k4 _ _ (ne_of o2 g3 (fun z => by cases z)) o2
    have o3 := k4 _ _ (ne_of o3 g3 (fun z => by cases z)) o3
    refine ⟨_, rfl, x, dx4, fs4, rfl, g4, no4 _ (by decide +kernel) (by decide +kernel), x, t4, 4, rfl, r4, fun e H' k => kN (by simp [moreOf, e1, e2, e3, e4, e]) H' (KeepB.same s4 k nx), fun y5 t5 e5 H5 k5 r5 => ?_⟩
    have s5 : Same H H5 := KeepB.same s4 k5 nx
    obtain ⟨dx5, fs5, g5, no5⟩ := r5.meth
    have o1 := k5 _ _ (ne_of o1 g4 (fun z => by cases z)) o1
    have o2 := k5 _ _ (ne_of o2 g4 (fun z => by cases z)) o2
    have o3 := k5 _ _ (ne_of o3 g4 (fun z => by cases z)) o3
    refine ⟨(by show 5 ≤ sizeLine; decide), fun q nq => ?_⟩
    generalize hE : upd _ q _ = H9
    obtain ⟨s9, e9⟩ := gen_new hE nq
    clear hE
    refine ⟨_, rfl, x, dx5, fs5, rfl, s9 _ _ g5, no5 _ (by decide +kernel) (by decide +kernel), x, t5, rfl, r5.same s9, fun e => ?_, fun e => ?_⟩
    · exact kN (by simp [moreOf, e1, e2, e3, e4, e5, Ql67.ended, e]) H9 (s5.trans s9)
    · refine ⟨_, rfl, kS (y1, y2, y3, y4, y5) (by simp [moreOf, e1, e2, e3, e4, e5, Ql67.ended, e]) H9 q a1 a2 a3 (s5.trans s9) (s5.free nq) e9 (s9 _ _ o1) (s9 _ _ o2) (s9 _ _ o3)⟩
/-! ### two_rows_in -/
theorem sc_two_rows_in : FnScope ["data", "reader", "found"] ["data"] (defScope s_two_rows_in) := ⟨rfl, rfl, rfl, by decide +kernel, rfl, by decide +kernel, by decide +kernel⟩
def twoRows (l : List Nat) : Option (List Nat × List Nat) := (Ql67.takeCounted l).bind fun t => (Ql67.takeCounted t.2).bind fun p => Ql67.ended ((t.1, p.1), p.2)
def sp_two_rows_in (K : PySem.W.Frag) (CN : Addr) : Sp := fun vs H Q E => ∃ (d : Addr) (l : List Nat), vs = [.ref d] ∧ SqL K H d (vb l) ∧ l.length ≤ 5000 ∧ (twoRows l = none → ∀ H' : Hp, Same H H' → E (.ref CN) none H') ∧
  (∀ v, twoRows l = some v → ∀ (H' : Hp) (q a0 a1 : Addr), Same H H' → H q = none → H' q = some (.tup [.ref a0, .ref a1]) → H' a0 = some (.lst (vb v.1)) → H' a1 = some (.lst (vb v.2)) → Q (.ref q) H')
theorem two_bytes {l : List Nat} {v : List Nat × List Nat} (h : twoRows l = some v) (hb : Ql67.Bytes l) : (Ql67.Bytes v.1 ∧ Ql67.Bytes v.2) ∧ v.1.length ≤ l.length ∧ v.2.length ≤ l.length := by
  unfold twoRows at h
  cases e1 : Ql67.takeCounted l with
  | none =>
    rw [e1] at h
    cases h
  | some t =>
    rw [e1] at h
    have h' : ((Ql67.takeCounted t.2).bind fun p => Ql67.ended ((t.1, p.1), p.2)) = some v := h
    obtain ⟨⟨a1, a2⟩, a3, a4⟩ := counted_bytes (x := t.1) (s := t.2) e1 hb
    cases e2 : Ql67.takeCounted t.2 with
    | none =>
      rw [e2] at h'
      cases h'
    | some p =>
      rw [e2] at h'
      have h2 : Ql67.ended ((t.1, p.1), p.2) = some v := h'
      obtain ⟨⟨c1, _⟩, c3, _⟩ := counted_bytes (x := p.1) (s := p.2) e2 a2
      unfold Ql67.ended at h2
      by_cases e : p.2 = []
      · rw [if_pos e] at h2
        injection h2 with h2
        subst h2
        exact ⟨⟨a1, c1⟩, a3, by show p.1.length ≤ l.length; omega⟩
      · rw [if_neg e] at h2
        cases h2
theorem ok_two_rows_in {C : Cs} {f : Addr} {fd : FuncData} (F : Fun K "two_rows_in" "two_rows_in" s_two_rows_in f fd) (T : Txt K mg) (TC : TxtC K mg C) (G0 : Cn P w K mg base CX0 1 "Reader" C.Reader ["self", "data"] (sp_Reader___init__ K C.Reader))
    (G_row : Mt P w K mg base (L2.CX P w) 3 C.Reader "row" ["self"] (sp_Reader_row K C.Reader C.NoMessage)) (G_want_end : Mt P w K mg base (L2.CX P w) 1 C.Reader "want_end" ["self"] (sp_Reader_want_end K C.Reader C.NoMessage)) : FnOk P w K mg base (L2.CX P w) 4 f fd ["data"] (sp_two_rows_in K C.NoMessage) := by
  -- 
  refine F.okX sc_two_rows_in (fun vs H Q E h => ?_) (fun cdv A outer s H vs Q E hr h => ?_)
  · obtain ⟨d, l, rfl, _⟩ := h
    rfl
  · obtain ⟨d, l, rfl, hS, hl, kN, kS⟩ := h
    refine ⟨_, pss_cons (ps_set (i := 1) sc_two_rows_in.nd rfl (Or.inl rfl) (pe_makeD G0 (hr.mono (by decide)) pass0 (pa_cons (pv 0) pa_nil)))
      (pss_cons (ps_set (i := 2) sc_two_rows_in.nd rfl (Or.inl rfl) (pe_tup (pa_cons (pe_meth0D G_row (pv 1) TC.Reader_cl (hr.mono (by decide)) passX) (pa_cons (pe_meth0D G_row (pv 1) TC.Reader_cl (hr.mono (by decide)) passX) pa_nil))))
      (pss_cons (ps_expr (pe_meth0D G_want_end (pv 1) TC.Reader_cl (hr.mono (by decide)) passX)) (pss_one (ps_ret (pv 2))))), ?_⟩
    refine ⟨_, rfl, fun x dx nx nd ne => ?_⟩
    have nx' : (upd H dx (.own x)) x = none := by
      rw [upd_ne ne.symm]
      exact nx
    refine ⟨x, dx, d, l, rfl, upd_same, (same_new (same_upd nd) nx').seq hS, hl, fun H0 k0 r0 => ⟨rfl, ?_⟩⟩
    have s0 : Same H H0 := Same.made nx nd fun b o h n => k0 b o n h
    obtain ⟨dx0, fs0, g0, no0⟩ := r0.meth
    refine ⟨_, rfl, x, dx0, fs0, rfl, g0, no0 _ (by decide +kernel) (by decide +kernel), x, l, rfl, r0, fun e H' k => kN (by simp [twoRows, e]) H' (KeepB.same s0 k nx), fun y1 t1 e1 H1 a1 k1 n1 o1 r1 => ?_⟩
    have s1 : Same H H1 := KeepB.same s0 k1 nx
    obtain ⟨dx1, fs1, g1, no1⟩ := r1.meth
    refine ⟨_, rfl, x, dx1, fs1, rfl, g1, no1 _ (by decide +kernel) (by decide +kernel), x, t1, rfl, r1, fun e H' k => kN (by simp [twoRows, e1, e]) H' (KeepB.same s1 k nx), fun y2 t2 e2 H2 a2 k2 n2 o2 r2 => ?_⟩
    have s2 : Same H H2 := KeepB.same s1 k2 nx
    obtain ⟨dx2, fs2, g2, no2⟩ := r2.meth
    have o1 := k2 _ _ (ne_of o1 g1 (fun z => by cases z)) o1
    refine ⟨(by show 2 ≤ sizeLine; decide), fun q nq => ?_⟩
    generalize hE : upd _ q _ = H9
    obtain ⟨s9, e9⟩ := gen_new hE nq
    clear hE
    refine ⟨_, rfl, x, dx2, fs2, rfl, s9 _ _ g2, no2 _ (by decide +kernel) (by decide +kernel), x, t2, rfl, r2.same s9, fun e => ?_, fun e => ?_⟩
    · exact kN (by simp [twoRows, e1, e2, Ql67.ended, e]) H9 (s2.trans s9)
    · refine ⟨_, rfl, kS (y1, y2) (by simp [twoRows, e1, e2, Ql67.ended, e]) H9 q a1 a2 (s2.trans s9) (s2.free nq) e9 (s9 _ _ o1) (s9 _ _ o2)⟩
/-! ### ticket_within -/
theorem sc_ticket_within : FnScope ["text", "reader", "found"] ["text"] (defScope s_ticket_within) := ⟨rfl, rfl, rfl, by decide +kernel, rfl, by decide +kernel, by decide +kernel⟩
def sp_ticket_within (K : PySem.W.Frag) (CN : Addr) : Sp := fun vs H Q E => ∃ (d : Addr) (l : List Nat), vs = [.ref d] ∧ SqL K H d (vb l) ∧ l.length ≤ 5000 ∧ (Ql67.ticketOf l = none → ∀ H' : Hp, Same H H' → E (.ref CN) none H') ∧
  (∀ v, Ql67.ticketOf l = some v → ∀ (H' : Hp) (q a0 a1 : Addr), Same H H' → H q = none → H' q = some (.tup [.ref a0, .ref a1, .int (v.start : Nat), .int (v.halt_ : Nat)]) → H' a0 = some (.tup (vb v.client)) → H' a1 = some (.lst (vb v.key)) → Q (.ref q) H')
theorem ok_ticket_within {C : Cs} {f : Addr} {fd : FuncData} (F : Fun K "ticket_within" "ticket_within" s_ticket_within f fd) (T : Txt K mg) (TC : TxtC K mg C) (G0 : Cn P w K mg base CX0 1 "Reader" C.Reader ["self", "data"] (sp_Reader___init__ K C.Reader))
    (G_take_name : Mt P w K mg base (L2.CX P w) 3 C.Reader "take_name" ["self"] (sp_Reader_take_name K C.Reader C.NoMessage)) (G_some : Mt P w K mg base (L2.CX P w) 1 C.Reader "some" ["self", "many"] (sp_Reader_some K C.Reader C.NoMessage)) (G_time : Mt P w K mg base (L2.CX P w) 3 C.Reader "time" ["self"] (sp_Reader_time K C.Reader C.NoMessage)) (G_want_end : Mt P w K mg base (L2.CX P w) 1 C.Reader "want_end" ["self"] (sp_Reader_want_end K C.Reader C.NoMessage)) : FnOk P w K mg base (L2.CX P w) 4 f fd ["text"] (sp_ticket_within K C.NoMessage) := by
  -- 
  refine F.okX sc_ticket_within (fun vs H Q E h => ?_) (fun cdv A outer s H vs Q E hr h => ?_)
  · obtain ⟨d, l, rfl, _⟩ := h
    rfl
  · obtain ⟨d, l, rfl, hS, hl, kN, kS⟩ := h
    refine ⟨_, pss_cons (ps_set (i := 1) sc_ticket_within.nd rfl (Or.inl rfl) (pe_makeD G0 (hr.mono (by decide)) pass0 (pa_cons (pv 0) pa_nil)))
      (pss_cons (ps_set (i := 2) sc_ticket_within.nd rfl (Or.inl rfl) (pe_tup (pa_cons (pe_meth0D G_take_name (pv 1) TC.Reader_cl (hr.mono (by decide)) passX) (pa_cons (pe_methD G_some (pv 1) TC.Reader_cl (hr.mono (by decide)) passX (pa_cons (pe_gv T.c_KEY_BYTES) pa_nil)) (pa_cons (pe_meth0D G_time (pv 1) TC.Reader_cl (hr.mono (by decide)) passX) (pa_cons (pe_meth0D G_time (pv 1) TC.Reader_cl (hr.mono (by decide)) passX) pa_nil))))))
      (pss_cons (ps_expr (pe_meth0D G_want_end (pv 1) TC.Reader_cl (hr.mono (by decide)) passX)) (pss_one (ps_ret (pv 2))))), ?_⟩
    refine ⟨_, rfl, fun x dx nx nd ne => ?_⟩
    have nx' : (upd H dx (.own x)) x = none := by
      rw [upd_ne ne.symm]
      exact nx
    refine ⟨x, dx, d, l, rfl, upd_same, (same_new (same_upd nd) nx').seq hS, hl, fun H0 k0 r0 => ⟨rfl, ?_⟩⟩
    have s0 : Same H H0 := Same.made nx nd fun b o h n => k0 b o n h
    obtain ⟨dx0, fs0, g0, no0⟩ := r0.meth
    refine ⟨_, rfl, x, dx0, fs0, rfl, g0, no0 _ (by decide +kernel) (by decide +kernel), x, l, rfl, r0, fun e H' k => kN (by simp [Ql67.ticketOf, e]) H' (KeepB.same s0 k nx), fun y1 t1 e1 H1 a1 k1 n1 o1 r1 => ?_⟩
    have s1 : Same H H1 := KeepB.same s0 k1 nx
    obtain ⟨dx1, fs1, g1, no1⟩ := r1.meth
    refine ⟨_, rfl, x, dx1, fs1, rfl, g1, no1 _ (by decide +kernel) (by decide +kernel), x, t1, 16, rfl, r1, fun e H' k => kN (by simp [Ql67.ticketOf, e1, e]) H' (KeepB.same s1 k nx), fun y2 t2 e2 H2 a2 k2 n2 o2 r2 => ?_⟩
    have s2 : Same H H2 := KeepB.same s1 k2 nx
    obtain ⟨dx2, fs2, g2, no2⟩ := r2.meth
    have o1 := k2 _ _ (ne_of o1 g1 (fun z => by cases z)) o1
    refine ⟨_, rfl, x, dx2, fs2, rfl, g2, no2 _ (by decide +kernel) (by decide +kernel), x, t2, rfl, r2, fun e H' k => kN (by simp [Ql67.ticketOf, e1, e2, e]) H' (KeepB.same s2 k nx), fun y3 t3 e3 H3 k3 r3 => ?_⟩
    have s3 : Same H H3 := KeepB.same s2 k3 nx
    obtain ⟨dx3, fs3, g3, no3⟩ := r3.meth
    have o1 := k3 _ _ (ne_of o1 g2 (fun z => by cases z)) o1
    have o2 := k3 _ _ (ne_of o2 g2 (fun z => by cases z)) o2
    refine ⟨_, rfl, x, dx3, fs3, rfl, g3, no3 _ (by decide +kernel) (by decide +kernel), x, t3, rfl, r3, fun e H' k => kN (by simp [Ql67.ticketOf, e1, e2, e3, e]) H' (KeepB.same s3 k nx), fun y4 t4 e4 H4 k4 r4 => ?_⟩
    have s4 : Same H H4 := KeepB.same s3 k4 nx
    obtain ⟨dx4, fs4, g4, no4⟩ := r4.meth
    have o1 := k4 _ _ (ne_of o1 g3 (fun z => by cases z)) o1
    have o2 := k4 _ _ (ne_of o2 g3 (fun z => by cases z)) o2
    refine ⟨(by show 4 ≤ sizeLine; decide), fun q nq => ?_⟩
    generalize hE : upd _ q _ = H9
    obtain ⟨s9, e9⟩ := gen_new hE nq
    clear hE
    refine ⟨_, rfl, x, dx4, fs4, rfl, s9 _ _ g4, no4 _ (by decide +kernel) (by decide +kernel), x, t4, rfl, r4.same s9, fun e => ?_, fun e => ?_⟩
    · exact kN (by simp [Ql67.ticketOf, e1, e2, e3, e4, Ql67.ended, e]) H9 (s4.trans s9)
    · refine ⟨_, rfl, kS ⟨y1, y2, y3, y4⟩ (by simp [Ql67.ticketOf, e1, e2, e3, e4, Ql67.ended, e]) H9 q a1 a2 (s4.trans s9) (s4.free nq) e9 (s9 _ _ o1) (s9 _ _ o2)⟩
/-! ### proof_within -/
theorem sc_proof_within : FnScope ["text", "reader", "found"] ["text"] (defScope s_proof_within) := ⟨rfl, rfl, rfl, by decide +kernel, rfl, by decide +kernel, by decide +kernel⟩
def sp_proof_within (K : PySem.W.Frag) (CN : Addr) : Sp := fun vs H Q E => ∃ (d : Addr) (l : List Nat), vs = [.ref d] ∧ SqL K H d (vb l) ∧ l.length ≤ 5000 ∧ (Ql67.proofOf l = none → ∀ H' : Hp, Same H H' → E (.ref CN) none H') ∧
  (∀ v, Ql67.proofOf l = some v → ∀ (H' : Hp) (q a0 : Addr), Same H H' → H q = none → H' q = some (.tup [.ref a0, .int (v.2 : Nat)]) → H' a0 = some (.tup (vb v.1)) → Q (.ref q) H')
theorem ok_proof_within {C : Cs} {f : Addr} {fd : FuncData} (F : Fun K "proof_within" "proof_within" s_proof_within f fd) (T : Txt K mg) (TC : TxtC K mg C) (G0 : Cn P w K mg base CX0 1 "Reader" C.Reader ["self", "data"] (sp_Reader___init__ K C.Reader))
    (G_take_name : Mt P w K mg base (L2.CX P w) 3 C.Reader "take_name" ["self"] (sp_Reader_take_name K C.Reader C.NoMessage)) (G_time : Mt P w K mg base (L2.CX P w) 3 C.Reader "time" ["self"] (sp_Reader_time K C.Reader C.NoMessage)) (G_want_end : Mt P w K mg base (L2.CX P w) 1 C.Reader "want_end" ["self"] (sp_Reader_want_end K C.Reader C.NoMessage)) : FnOk P w K mg base (L2.CX P w) 4 f fd ["text"] (sp_proof_within K C.NoMessage) := by
  -- 
  refine F.okX sc_proof_within (fun vs H Q E h => ?_) (fun cdv A outer s H vs Q E hr h => ?_)
  · obtain ⟨d, l, rfl, _⟩ := h
    rfl
  · obtain ⟨d, l, rfl, hS, hl, kN, kS⟩ := h
    refine ⟨_, pss_cons (ps_set (i := 1) sc_proof_within.nd rfl (Or.inl rfl) (pe_makeD G0 (hr.mono (by decide)) pass0 (pa_cons (pv 0) pa_nil)))
      (pss_cons (ps_set (i := 2) sc_proof_within.nd rfl (Or.inl rfl) (pe_tup (pa_cons (pe_meth0D G_take_name (pv 1) TC.Reader_cl (hr.mono (by decide)) passX) (pa_cons (pe_meth0D G_time (pv 1) TC.Reader_cl (hr.mono (by decide)) passX) pa_nil))))
      (pss_cons (ps_expr (pe_meth0D G_want_end (pv 1) TC.Reader_cl (hr.mono (by decide)) passX)) (pss_one (ps_ret (pv 2))))), ?_⟩
    refine ⟨_, rfl, fun x dx nx nd ne => ?_⟩
    have nx' : (upd H dx (.own x)) x = none := by
      rw [upd_ne ne.symm]
      exact nx
    refine ⟨x, dx, d, l, rfl, upd_same, (same_new (same_upd nd) nx').seq hS, hl, fun H0 k0 r0 => ⟨rfl, ?_⟩⟩
    have s0 : Same H H0 := Same.made nx nd fun b o h n => k0 b o n h
    obtain ⟨dx0, fs0, g0, no0⟩ := r0.meth
    refine ⟨_, rfl, x, dx0, fs0, rfl, g0, no0 _ (by decide +kernel) (by decide +kernel), x, l, rfl, r0, fun e H' k => kN (by simp [Ql67.proofOf, e]) H' (KeepB.same s0 k nx), fun y1 t1 e1 H1 a1 k1 n1 o1 r1 => ?_⟩
    have s1 : Same H H1 := KeepB.same s0 k1 nx
    obtain ⟨dx1, fs1, g1, no1⟩ := r1.meth
    refine ⟨_, rfl, x, dx1, fs1, rfl, g1, no1 _ (by decide +kernel) (by decide +kernel), x, t1, rfl, r1, fun e H' k => kN (by simp [Ql67.proofOf, e1, e]) H' (KeepB.same s1 k nx), fun y2 t2 e2 H2 k2 r2 => ?_⟩
    have s2 : Same H H2 := KeepB.same s1 k2 nx
    obtain ⟨dx2, fs2, g2, no2⟩ := r2.meth
    have o1 := k2 _ _ (ne_of o1 g1 (fun z => by cases z)) o1
    refine ⟨(by show 2 ≤ sizeLine; decide), fun q nq => ?_⟩
    generalize hE : upd _ q _ = H9
    obtain ⟨s9, e9⟩ := gen_new hE nq
    clear hE
    refine ⟨_, rfl, x, dx2, fs2, rfl, s9 _ _ g2, no2 _ (by decide +kernel) (by decide +kernel), x, t2, rfl, r2.same s9, fun e => ?_, fun e => ?_⟩
    · exact kN (by simp [Ql67.proofOf, e1, e2, Ql67.ended, e]) H9 (s2.trans s9)
    · refine ⟨_, rfl, kS (y1, y2) (by simp [Ql67.proofOf, e1, e2, Ql67.ended, e]) H9 q a1 (s2.trans s9) (s2.free nq) e9 (s9 _ _ o1)⟩
/-! ### opened_as -/
theorem sc_opened_as : FnScope ["key", "row", "within", "text"] ["key", "row", "within"] (defScope s_opened_as) := ⟨rfl, rfl, rfl, by decide +kernel, rfl, by decide +kernel, by decide +kernel⟩
/-- the text within is handed to the def at fw, whose promise is spw -/
def sp_opened_as (K : PySem.W.Frag) (CN fw : Addr) (spw : Sp) : Sp := fun vs H Q _ => ∃ (a b : Addr) (k c : List Nat), vs = [.ref a, .ref b, .ref fw] ∧ SqL K H a (vb k) ∧ k.length = 16 ∧ SqL K H b (vb c) ∧ Ql67.Bytes c ∧ c.length ≤ 5000 ∧
  (Ql67.open_ k c = none → outV H Q .non) ∧
  (∀ m, Ql67.open_ k c = some m → ∀ (H' : Hp) (p : Addr), Same H H' → H p = none → H' p = some (.lst (vb m)) → ∀ E : XK, (∀ d H'', Q .non H'' → E (.ref CN) d H'') → spw [.ref p] H' Q E)
theorem ok_opened_as {C : Cs} {f fw : Addr} {fd : FuncData} {xw : Str} {spw : Sp} (F : Fun K "opened_as" "opened_as" s_opened_as f fd) (T : Txt K mg) (TC : TxtC K mg C) (G1 : Df P w K mg base CX0 4 "opened" ["key", "row"] (sp_opened K))
    (GW : DfA P w K mg base (L2.CX P w) 4 xw ["text"] spw fw) : FnOk P w K mg base CX0 5 f fd ["key", "row", "within"] (sp_opened_as K C.NoMessage fw spw) := by
  refine F.ok sc_opened_as (fun vs H Q E h => ?_) (fun cdv A outer s H vs Q E hr h => ?_)
  · obtain ⟨a, b, k, c, rfl, _⟩ := h
    rfl
  · obtain ⟨a, b, k, c, rfl, hK, hk, hC, hB, hlen, qN, qS⟩ := h
    obtain ⟨fdw, FW, gW, kW, bW⟩ := GW.ex
    refine ⟨_, pss_cons (ps_set (i := 3) sc_opened_as.nd rfl (Or.inl rfl) (pe_callD G1 (hr.mono (by decide)) pass0 (pa_cons (pv 0) (pa_cons (pv 1) pa_nil))))
      (pss_cons (ps_if (pt_cmpR op_isN (pv 3) pe_non (nomark _)) (pss_one (ps_ret pe_non)) pss_nil)
      (pss_one (ps_try_only (tb := fun W => tRet (tCallL 2 fw spw [] (WA W) (tCons (tVar 3) tNil))) (ts := fun _ _ _ => tRet (tC .non)) (Wout := fun _ _ _ _ => False) rfl rfl ⟨rfl, by decide, Or.inl TC.NoMessage_g⟩ takes0
        (fun W pn xe tk _ => pss_one (ps_ret (pe_callL (i := 2) FW (hr.mono (by decide)) rfl (Or.inl rfl) kW bW .nil (passW tk) (pa_cons (pv 3) pa_nil))))
        (fun _ _ _ _ _ _ _ => pss_one (ps_ret pe_non))))), ?_⟩
    refine ⟨_, rfl, _, rfl, a, b, k, c, rfl, hK, hk, hC, hB, hlen, fun e H1 s1 => ?_, fun m e H1 p1 s1 n1 e1 => ?_⟩
    · exact ⟨_, rfl, rfl, _, rfl, qN e H1 s1⟩
    · refine ⟨_, rfl, rfl, _, rfl, ?_⟩
      refine ⟨rfl, _, rfl, qS m e H1 p1 s1 n1 e1 _ fun d H2 q σ => ?_⟩
      exact ⟨true, TC.NoMessage_e, fun _ _ _ => q, fun z => Bool.noConfusion z⟩
/-! ### Refusal.__init__ -/
theorem sc_Refusal___init__ : FnScope ["self", "why"] ["self", "why"] (defScope s_Refusal___init__) := ⟨rfl, rfl, rfl, by decide +kernel, rfl, by decide +kernel, by decide +kernel⟩
def sp_Refusal___init__ (C : Addr) : Sp := fun vs H Q _ => ∃ (a : Addr) (n : Nat), vs = [.ref a, .int (n : Int)] ∧ H a = some (exo a C none) ∧
  ∀ (H' : Hp) (d : Addr), KeepB H H' a → H d = none → d ≠ a → H' a = some (exo a C (some d)) → H' d = some (exd d [("why", .int (n : Int))]) → Q .non H'
theorem ok_Refusal___init__ {C : Cs} {f : Addr} {fd : FuncData} (F : Fun K "__init__" "Refusal.__init__" s_Refusal___init__ f fd) (T : Txt K mg) (TC : TxtC K mg C) : FnOk P w K mg base CX0 1 f fd ["self", "why"] (sp_Refusal___init__ C.Refusal) := by
  refine F.ok sc_Refusal___init__ (fun vs H Q E h => ?_) (fun cdv A outer s H vs Q E hr h => ?_)
  · obtain ⟨a, n, rfl, _⟩ := h
    rfl
  · obtain ⟨a, n, rfl, ha, q⟩ := h
    refine ⟨_, pss_cons (ps_expr (pe_veinit (by rfl) T.b_ValueError TC.ve (pa_cons (pv 0) (pa_cons pe_str pa_nil)))) (pss_one (ps_ost (pv 0) (pv 1))), ?_⟩
    refine ⟨_, rfl, a, C.Refusal, _, rfl, (by show 1 ≤ 1000; decide), TC.Refusal_o, ha, ?_⟩
    refine ⟨_, rfl, _, rfl, a, C.Refusal, rfl, TC.Refusal_o, TC.Refusal_no_why, .inl ⟨ha, fun dx nd ne => ?_⟩⟩
    refine q _ dx (fun b o n h => ?_) nd ne upd_same ?_
    · rw [upd_ne n, upd_ne (ne_of_none h nd)]
      exact h
    · rw [upd_ne ne, upd_same]
/-! ### want -/
theorem sc_want : FnScope ["truth", "why"] ["truth", "why"] (defScope s_want) := ⟨rfl, rfl, rfl, by decide +kernel, rfl, by decide +kernel, by decide +kernel⟩
/-- an error that tells why -/
def Why (E : XK) (CR : Addr) (n : Nat) (H' : Hp) : Prop := ∀ d : Addr, H' d = some (.xd [("why", .int (n : Int))]) → E (.ref CR) (some d) H'
def sp_want (CR : Addr) : Sp := fun vs H Q E => ∃ (b : Bool) (n : Nat), vs = [.bl b, .int (n : Int)] ∧ (b = true → Q .non H) ∧ (b = false → ∀ H' : Hp, Same H H' → Why E CR n H')
theorem ok_want {C : Cs} {f : Addr} {fd : FuncData} (F : Fun K "want" "want" s_want f fd) (T : Txt K mg) (TC : TxtC K mg C) (G1 : Cr P w K mg base CX0 1 "Refusal" C.Refusal ["self", "why"] (sp_Refusal___init__ C.Refusal)) :
    FnOk P w K mg base (L2.CX P w) 3 f fd ["truth", "why"] (sp_want C.Refusal) := by
  -- 
  refine F.okX sc_want (fun vs H Q E h => ?_) (fun cdv A outer s H vs Q E hr h => ?_)
  · obtain ⟨b, n, rfl, _⟩ := h
    rfl
  · obtain ⟨b, n, rfl, qS, qN⟩ := h
    obtain ⟨fI, fdI, FI, hI, tI, bI⟩ := G1.ex
    refine ⟨_, pss_one (ps_if (pt_not (pt_val (pv 0))) (pss_one (ps_raise rfl (takes_of rfl rfl rfl rfl) (pmk_oex TC.Refusal_o hI tI FI (hr.mono (by decide)) bI .nil pass0 (by rfl) TC.Refusal_g (pa_cons (pv 1) pa_nil)))) pss_nil), ?_⟩
    refine ⟨_, rfl, b, rfl, ?_⟩
    cases b with
    | true => exact iteF (qS rfl)
    | false =>
      refine iteT ?_
      refine ⟨_, rfl, (by show 1 ≤ 1000; decide), fun a na => ?_⟩
      refine ⟨a, n, rfl, upd_same, fun H' d k nd ne ha hd => ⟨rfl, d, _, ha, hd, ?_, ?_⟩⟩
      · cases e : H d with
        | none => rfl
        | some o =>
          rw [upd_ne ne, e] at nd
          cases nd
      · refine qN rfl _ (fun b o h => ?_) d upd_same
        have hb : b ≠ a := ne_of_none h na
        have hbd : b ≠ d := fun z => by
          rw [← z, upd_ne hb, h] at nd
          cases nd
        rw [upd_ne hbd, del_ne hb]
        exact k b o hb (by rw [upd_ne hb]; exact h)
/-! ### the house in the heap -/
def IsSeq : HO → Prop
  | .lst _ => True
  | .tup _ => True
  | .frz _ _ => True
  | _ => False
/-- lists and tuples stay -/
def KeepS (H H' : Hp) : Prop := ∀ b o, H b = some o → IsSeq o → H' b = some o
/-- not one of the lists and tuples of H -/
def NewS (H : Hp) (p : Addr) : Prop := ∀ o, H p = some o → IsSeq o → False
theorem NewS.of {H H' : Hp} {p : Addr} (k : KeepS H H') (n : H' p = none) : NewS H p := fun o h i => by
  have e := k _ _ h i
  rw [n] at e
  cases e
theorem NewS.trans {H H' : Hp} {p : Addr} (k : KeepS H H') (x : NewS H' p) : NewS H p := fun o h i => x o (k _ _ h i) i
theorem NewS.here {H : Hp} {p : Addr} (n : H p = none) : NewS H p := fun o h _ => by
  rw [n] at h
  cases h
theorem KeepS.of {H H' : Hp} (s : Same H H') : KeepS H H' := fun b o h _ => s b o h
theorem KeepS.trans {H H1 H2 : Hp} (x : KeepS H H1) (y : KeepS H1 H2) : KeepS H H2 := fun b o h i => y b o (x b o h i) i
theorem KeepS.ofB {H H' : Hp} {a : Addr} {o : HO} (k : KeepB H H' a) (h : H a = some o) (n : ¬ IsSeq o) : KeepS H H' := fun b u e i => k b u (fun z => by
  rw [z, h] at e
  injection e with e
  rw [e] at n
  exact n i) e
theorem KeepS.seq {K : PySem.W.Frag} {H H' : Hp} {a : Addr} {xs : List V} (k : KeepS H H') (h : SqL K H a xs) : SqL K H' a xs := by
  rcases h with (h | ⟨o, h⟩) | h
  · exact .inl (.inl (k _ _ h trivial))
  · exact .inl (.inr ⟨o, k _ _ h trivial⟩)
  · exact .inr h
theorem KeepS.tup {K : PySem.W.Frag} {H H' : Hp} {a : Addr} {xs : List V} (k : KeepS H H') (h : SqT K H a xs) : SqT K H' a xs := by
  rcases h with (h | ⟨o, h⟩) | h
  · exact .inl (.inl (k _ _ h trivial))
  · exact .inl (.inr ⟨o, k _ _ h trivial⟩)
  · exact .inr h
theorem WhoRel.keep {K : PySem.W.Frag} {N : Addr} {H H' : Hp} {v : Ql67.Who} {kv : List Key × V} (k : KeepS H H') (r : WhoRel K N H v kv) : WhoRel K N H' v kv := by
  obtain ⟨h1, t, q, h2, h3, h4⟩ := r
  exact ⟨h1, t, q, h2, k _ _ h3 trivial, k.seq h4.1, h4.2⟩
theorem KnownAt.keep {K : PySem.W.Frag} {N : Addr} {H H' : Hp} {a : Addr} {ws : List Ql67.Who} (k : KeepS H H') (ha : ∀ o, H a = some o → H' a = some o) (x : KnownAt K N H a ws) : KnownAt K N H' a ws := by
  obtain ⟨kvs, h, r⟩ := x
  exact ⟨kvs, ha _ h, Paired.imp' (fun _ _ q => q.keep k) r⟩
theorem HeldAt.keep {P : Program} {w : World} {K : PySem.W.Frag} {H H' : Hp} {a : Addr} {hs : List Ql67.Held} (k : KeepS H H') (ha : ∀ o, H a = some o → H' a = some o) (x : HeldAt P w K H a hs) : HeldAt P w K H' a hs := by
  obtain ⟨o, es, ep, xs, x⟩ := x
  exact ⟨o, es, ep, xs, ha _ x.at_, x.ex, x.dat, x.ent, Paired.imp' (fun _ _ r => ⟨r.1, r.2.1, r.2.2.keep (fun b ys z => k b _ z trivial) fun b o u z => k b _ z trivial⟩) x.rel, x.nd, x.len, x.ns⟩
def hF (k h : Addr) : List (Str × V) := [("known", .ref k), ("held", .ref h)]
theorem hF_known (k h : Addr) : (hF k h).lookup ("known" : Str) = some (.ref k) := lk_here
theorem hF_held (k h : Addr) : (hF k h).lookup ("held" : Str) = some (.ref h) := (lk_past (by decide +kernel)).trans lk_here
theorem hF_no (k h : Addr) (m : Str) (h1 : (m == ("known" : Str)) = false) (h2 : (m == ("held" : Str)) = false) : (hF k h).lookup m = none := (lk_past h1).trans ((lk_past h2).trans rfl)
theorem hF_put (k h g : Addr) : putF "held" (.ref g) (hF k h) = hF k g := (put_past (by decide +kernel)).trans (congrArg _ put_here)
theorem hF_new (k h : Addr) : putF "held" (.ref h) (putF "known" (.ref k) []) = hF k h := (put_past (by decide +kernel)).trans rfl
structure HouseOk (h : Ql67.House) : Prop where
  who : ∀ v ∈ h.known, v.key.length = 16 ∧ Ql67.Bytes v.key ∧ v.life < 2 ^ 32
  names : h.known.length ≤ 256
  held : h.held.length ≤ 1024
/-- a house at a -/
structure HouseIs (P : Program) (w : World) (K : PySem.W.Frag) (C N : Addr) (H : Hp) (a dx dk dh : Addr) (h : Ql67.House) : Prop where
  at_ : H a = some (.ins C dx (hF dk dh))
  known : KnownAt K N H dk h.known
  held : HeldAt P w K H dh h.held
  ok : HouseOk h
def HouseAt (P : Program) (w : World) (K : PySem.W.Frag) (C N : Addr) (H : Hp) (a : Addr) (h : Ql67.House) : Prop := ∃ dx dk dh, HouseIs P w K C N H a dx dk dh h
theorem HouseIs.same {P : Program} {w : World} {K : PySem.W.Frag} {C N : Addr} {H H' : Hp} {a dx dk dh : Addr} {h : Ql67.House} (s : Same H H') (x : HouseIs P w K C N H a dx dk dh h) : HouseIs P w K C N H' a dx dk dh h :=
  ⟨s _ _ x.at_, x.known.same s, x.held.same s, x.ok⟩
theorem HouseAt.same {P : Program} {w : World} {K : PySem.W.Frag} {C N : Addr} {H H' : Hp} {a : Addr} {h : Ql67.House} (s : Same H H') (x : HouseAt P w K C N H a h) : HouseAt P w K C N H' a h := by
  obtain ⟨dx, dk, dh, x⟩ := x
  exact ⟨dx, dk, dh, x.same s⟩
/-- its attributes -/
theorem HouseAt.meth {P : Program} {w : World} {K : PySem.W.Frag} {C N : Addr} {H : Hp} {a : Addr} {h : Ql67.House} (x : HouseAt P w K C N H a h) : ∃ dx fs, H a = some (.ins C dx fs) ∧ ∀ m : Str, (m == ("known" : Str)) = false → (m == ("held" : Str)) = false → fs.lookup m = none := by
  obtain ⟨dx, dk, dh, x⟩ := x
  exact ⟨dx, _, x.at_, fun m => hF_no dk dh m⟩
/-! ### House.__init__ -/
theorem sc_House___init__ : FnScope ["self"] ["self"] (defScope s_House___init__) := ⟨rfl, rfl, rfl, by decide +kernel, rfl, by decide +kernel, by decide +kernel⟩
def sp_House___init__ (P : Program) (w : World) (K : PySem.W.Frag) (C : Addr) : Sp := fun vs H Q _ => ∃ (x dx : Addr), vs = [.ref x] ∧ H x = some (.ins C dx []) ∧ ∀ H' : Hp, KeepB H H' x → (∀ N, HouseAt P w K C N H' x Ql67.empty) → Q .non H'
theorem ok_House___init__ {C : Cs} {f : Addr} {fd : FuncData} (F : Fun K "__init__" "House.__init__" s_House___init__ f fd) (T : Txt K mg) (TC : TxtC K mg C) : FnOk P w K mg base CX0 1 f fd ["self"] (sp_House___init__ P w K C.House) := by
  refine F.ok sc_House___init__ (fun vs H Q E h => ?_) (fun cdv A outer s H vs Q E hr h => ?_)
  · obtain ⟨x, dx, rfl, _⟩ := h
    rfl
  · obtain ⟨x, dx, rfl, hx, q⟩ := h
    refine ⟨_, pss_cons (ps_fld (pv 0) pe_dnewT rfl) (pss_one (ps_fld (pv 0) pe_dnewH rfl)), ?_⟩
    refine fun dk nk => ⟨_, rfl, x, C.House, dx, [], rfl, same_upd nk _ _ hx, TC.House_cl, TC.House_no_known, (by show 0 < 1000; decide), ?_⟩
    have hkx : dk ≠ x := (ne_of_none hx nk).symm
    intro H2 dh s2 nh hh
    have h2x := s2 _ _ (upd_same (H := upd H dk (.dT [])) (a := x) (o := .ins C.House dx (putF "known" (.ref dk) [])))
    have h2k : H2 dk = some (.dT []) := s2 _ _ (by rw [upd_ne hkx, upd_same])
    refine ⟨_, rfl, x, C.House, dx, _, rfl, h2x, TC.House_cl, TC.House_no_held, (by show 1 < 1000; decide), ?_⟩
    have kb : KeepB H2 (upd H2 x (.ins C.House dx (putF "held" (.ref dh) (putF "known" (.ref dk) [])))) x := keepB_set
    have ks := KeepS.ofB kb h2x (fun z => z)
    refine q _ (fun b o n h => kb b o n (s2 _ _ ?_)) fun N => ⟨dx, dk, dh, upd_same.trans (congrArg (fun z => some (HO.ins C.House dx z)) (hF_new dk dh)), ⟨[], kb _ _ hkx h2k, .nil⟩, hh.keep ks fun o e => kb _ _ (fun z => ?_) e, fun v hv => (by cases hv), Nat.zero_le _, Nat.zero_le _⟩
    · rw [upd_ne n, upd_ne (ne_of_none h nk)]
      exact h
    · obtain ⟨o2, es, ep, xs, hi⟩ := hh
      have e2 := hi.at_
      rw [z, h2x] at e2
      have e3 : HO.ins C.House dx (putF "known" (.ref dk) []) = HO.ext _ := Option.some.inj e2
      cases e3
/-! ### House.add -/
theorem sc_House_add : FnScope ["self", "life", "name", "key"] ["self", "life", "name", "key"] (defScope s_House_add) := ⟨rfl, rfl, rfl, by decide +kernel, rfl, by decide +kernel, by decide +kernel⟩
def sp_House_add (P : Program) (w : World) (K : PySem.W.Frag) (C N : Addr) : Sp := fun vs H Q _ => ∃ (a n k : Addr) (h : Ql67.House) (nm key : List Nat) (life : Nat), vs = [.ref a, .int (life : Int), .ref n, .ref k] ∧ HouseAt P w K C N H a h ∧ SqL K H n (vb nm) ∧ SqL K H k (vb key) ∧ k ≠ N ∧ key.length = 16 ∧ Ql67.Bytes key ∧ life < 2 ^ 32 ∧
  ∀ H' : Hp, KeepS H H' → HouseAt P w K C N H' a (Ql67.spec h (.add nm key life)).1 → Q (.int (Ql67.spec h (.add nm key life)).2.value) H'
theorem add_no {h : Ql67.House} {nm key : List Nat} {life : Nat} (c : Ql67.isName nm = false ∨ life = 0) : Ql67.spec h (.add nm key life) = (h, Ql67.only (-2)) := if_pos c
theorem add_yes {h : Ql67.House} {nm key : List Nat} {life : Nat} (c : ¬ (Ql67.isName nm = false ∨ life = 0)) : Ql67.spec h (.add nm key life) = (match Ql67.added h ⟨nm, key, life⟩ with
  | some g => (g, Ql67.only 0)
  | none => (h, Ql67.only (-5))) := if_neg c
theorem vtup_vb (nm : List Nat) : HO.tup (vb nm) = HO.tup ((kN nm).map kV) := by rw [kN_kV]
theorem ok_House_add {C : Cs} {N f : Addr} {fd : FuncData} (F : Fun K "add" "House.add" s_House_add f fd) (T : Txt K mg) (TC : TxtC K mg C) (G1 : Df P w K mg base CX0 2 "is_name" ["row"] (sp_is_name K)) :
    FnOk P w K mg base CX0 3 f fd ["self", "life", "name", "key"] (sp_House_add P w K C.House N) := by
  refine F.ok sc_House_add (fun vs H Q E h => ?_) (fun cdv A outer s H vs Q E hr h => ?_)
  · obtain ⟨a, n, k, h, nm, key, life, rfl, _⟩ := h
    rfl
  · obtain ⟨a, n, k, h, nm, key, life, rfl, hH, hN, hK, nK, lk, bK, ll, q⟩ := h
    refine ⟨_, pss_cons (ps_if (PW.pt (pw_or (pt_not (pt_val (pe_callD G1 (hr.mono (by decide)) pass0 (pa_cons (pv 2) pa_nil)))) (pw_or1 (pt_cmpR op_eq (pv 1) pe_int (nomark _))))) (pss_one (ps_ret (pe_gv T.c_NOT_AS_TOLD))) pss_nil)
      (pss_cons (ps_if (PW.pt (pw_and (pt_cmpR (op_notinS hr.units) (pe_callTy call_tuple_of (by rfl) T.b_tuple (by decide +kernel) (pa_cons (pv 2) pa_nil)) (pe_fld (pv 0) rfl) (by rfl)) (pw_and1 (pt_cmpR op_ge (pe_callB call_len_dT (by rfl) T.b_len PySem.boot_len (pa_cons (pe_fld (pv 0) rfl) pa_nil)) (pe_gv T.c_MOST_NAMES) (nomark _)))))
        (pss_one (ps_ret (pe_gv T.c_NO_ROOM))) pss_nil)
      (pss_cons (ps_dput (hu_of hr) (pe_fld (pv 0) rfl) (pe_callTy call_tuple_of (by rfl) T.b_tuple (by decide +kernel) (pa_cons (pv 2) pa_nil)) (pe_tup (pa_cons (pv 3) (pa_cons (pv 1) pa_nil))) rfl)
      (pss_one (ps_ret (pe_gv T.c_DONE))))), ?_⟩
    refine ⟨_, rfl, n, nm, rfl, hN, fun H1 s1 => ⟨_, rfl, ifB (fun c1 => iteT ?_) (fun c1 => ?_)⟩⟩
    · have c1' : Ql67.isName nm = false := by simpa using c1
      rw [add_no (.inl c1')] at q
      exact q H1 (KeepS.of s1) (hH.same s1)
    have c1' : Ql67.isName nm = true := by simpa using c1
    refine ⟨_, rfl, rfl, _, rfl, ifB (fun c2 => ?_) (fun c2 => ?_)⟩
    · have c2' := of_decide_eq_true c2
      have e0 : life = 0 := by
        injection c2' with c2'
        omega
      rw [add_no (.inr e0)] at q
      exact q H1 (KeepS.of s1) (hH.same s1)
    have e0 : life ≠ 0 := fun z => by
      rw [z] at c2
      exact Bool.noConfusion c2
    have hno : ¬ (Ql67.isName nm = false ∨ life = 0) := by
      intro z
      rcases z with z | z
      · rw [c1'] at z
        cases z
      · exact e0 z
    rw [add_yes hno] at q
    obtain ⟨dx, dk, dh, hI⟩ := hH
    have hI1 := hI.same s1
    obtain ⟨kvs, hkd, hkr⟩ := hI1.known
    have hkl : h.known.length = kvs.length := Paired.length hkr
    have hg := (known_get nm hkr).1
    have hnm := hI.ok.names
    have ew : (h.who nm).isSome = (valV kvs (kN nm)).isSome := hg.symm
    -- tuple(name) not in self.known
    refine ⟨_, rfl, n, _, rfl, .inl ⟨s1.seq hN, fun p2 n2 => ?_⟩⟩
    generalize hE : upd _ p2 _ = H2
    obtain ⟨s2, e2⟩ := gen_new hE n2
    clear hE
    have hI2 := hI1.same s2
    refine ⟨_, rfl, a, C.House, dx, _, _, rfl, hI2.at_, TC.House_cl, TC.House_no_known, hF_known dk dh, p2, dk, kvs, nm, rfl, rfl, s2 _ _ hkd, tup_of e2, _, rfl, ?_⟩
    have rest : ∀ H3 : Hp, Same H2 H3 → (h.who nm).isSome = true ∨ h.known.length < 256 → tSeq (sDPut (tFld K (tVar 0) "known") (tCB (fun xs H Q => ∃ p ys, xs = [V.ref p] ∧ ((SqL K H p ys ∧ ∀ l, H l = none → Q (.ref l) (upd H l (.tup ys))) ∨ (SqT K H p ys ∧ Q (.ref p) H))) (tCons (tVar 2) tNil)) (tTup (tCons (tVar 3) (tCons (tVar 1) tNil)))) (tRet (tC (.int 0)))
        { nx := fun _ H' => Q .non H', rt := Q } (L2.start ["self", "life", "name", "key"] [.ref a, .int (life : Int), .ref n, .ref k]) H3 := by
      intro H3 s3 hroom
      have s13 := s1.trans (s2.trans s3)
      have hI3 := hI2.same s3
      refine ⟨_, rfl, _, rfl, (by show 2 ≤ sizeLine; decide), fun p4 n4 => ?_⟩
      generalize hE : upd _ p4 _ = H4
      obtain ⟨s4, e4⟩ := gen_new hE n4
      clear hE
      have hI4 := hI3.same s4
      refine ⟨_, rfl, a, C.House, dx, _, _, rfl, hI4.at_, TC.House_cl, TC.House_no_known, hF_known dk dh, ?_⟩
      refine ⟨_, rfl, n, _, rfl, .inl ⟨(s13.trans s4).seq hN, fun p5 n5 => ?_⟩⟩
      generalize hE : upd _ p5 _ = H5
      obtain ⟨s5, e5⟩ := gen_new hE n5
      clear hE
      have hI5 := hI4.same s5
      have s15 := s13.trans (s4.trans s5)
      have e5' : H5 p5 = some (.tup ((kN nm).map kV)) := e5.trans (congrArg some (vtup_vb nm))
      have hkd5 : H5 dk = some (.dT kvs) := s5 _ _ (s4 _ _ (s3 _ _ (s2 _ _ hkd)))
      refine ⟨dk, _, rfl, DPut.t hkd5 e5' (by rw [sizeLine_eq]; omega), ?_⟩
      have kb : KeepB H5 (upd H5 dk (.dT (putK kvs (kN nm) (.ref p4)))) dk := keepB_set
      have ks := KeepS.ofB kb hkd5 (fun z => z)
      have nda : a ≠ dk := ne_of hI5.at_ hkd5 (fun z => by cases z)
      have rel5 : Paired (WhoRel K N H5) h.known kvs := Paired.imp' (fun _ _ r => r.keep (KeepS.of (s2.trans (s3.trans (s4.trans s5))))) hkr
      have rW : WhoRel K N H5 ⟨nm, key, life⟩ (kN nm, .ref p4) := ⟨rfl, p4, k, rfl, s5 _ _ e4, s15.seq hK, nK⟩
      have relN := known_put rW rel5
      have eadd : Ql67.added h ⟨nm, key, life⟩ = some { h with known := if (h.known.find? fun x => x.name == nm).isSome = true then h.known.map (fun x => if x.name = nm then ⟨nm, key, life⟩ else x) else h.known ++ [⟨nm, key, life⟩] } := by
        unfold Ql67.added
        by_cases z : (h.who nm).isSome = true
        · have z' : (h.known.find? fun x => x.name == nm).isSome = true := z
          rw [if_pos z, if_pos z']
        · have z' : ¬ (h.known.find? fun x => x.name == nm).isSome = true := z
          have hl : ¬ Ql67.NAMES ≤ h.known.length := fun y => by
            rcases hroom with r | r
            · exact z r
            · have y' : 256 ≤ h.known.length := y
              omega
          rw [if_neg z, if_neg hl, if_neg z']
      rw [eadd] at q
      refine q _ ((KeepS.of s15).trans ks) ⟨dx, dk, dh, kb _ _ nda hI5.at_, ⟨_, upd_same, Paired.imp' (fun _ _ r => r.keep ks) relN⟩, hI5.held.keep ks fun o e => kb _ _ (fun z => ?_) e, ?_, ?_, hI.ok.held⟩
      · obtain ⟨o2, es, ep, xs, hi⟩ := hI5.held
        have e2 := hi.at_
        rw [z, hkd5] at e2
        have e3 : HO.dT kvs = HO.ext _ := Option.some.inj e2
        cases e3
      · intro v hv
        have good : (⟨nm, key, life⟩ : Ql67.Who).key.length = 16 ∧ Ql67.Bytes (⟨nm, key, life⟩ : Ql67.Who).key ∧ (⟨nm, key, life⟩ : Ql67.Who).life < 2 ^ 32 := ⟨lk, bK, ll⟩
        dsimp only at hv
        split at hv
        · obtain ⟨x, hx, e⟩ := List.mem_map.mp hv
          split at e
          · rw [← e]
            exact good
          · rw [← e]
            exact hI.ok.who x hx
        · rcases List.mem_append.mp hv with hv | hv
          · exact hI.ok.who v hv
          · rw [List.mem_singleton.mp hv]
            exact good
      · dsimp only
        split
        · rw [List.length_map]
          exact hnm
        · rename_i z
          rw [List.length_append, List.length_singleton]
          rcases hroom with r | r
          · exact absurd r z
          · omega
    refine ifB (fun c3 => ?_) (fun c3 => ?_)
    · have c3' : (valV kvs (kN nm)).isSome = false := by simpa using c3
      refine ⟨_, rfl, a, C.House, dx, _, _, rfl, hI2.at_, TC.House_cl, TC.House_no_known, hF_known dk dh, dk, kvs, rfl, s2 _ _ hkd, _, _, rfl, rfl, _, rfl, ifB (fun c4 => ?_) (fun c4 => ?_)⟩
      · have c4' := of_decide_eq_true c4
        have eadd : Ql67.added h ⟨nm, key, life⟩ = none := by
          unfold Ql67.added
          have z : ¬ (h.who (⟨nm, key, life⟩ : Ql67.Who).name).isSome = true := by
            show ¬ (h.who nm).isSome = true
            rw [ew, c3']
            decide
          have hl : Ql67.NAMES ≤ h.known.length := by
            show 256 ≤ h.known.length
            omega
          rw [if_neg z, if_pos hl]
        rw [eadd] at q
        exact q H2 (KeepS.of (s1.trans s2)) ⟨dx, dk, dh, hI2⟩
      · have c4' := of_decide_eq_false c4
        exact rest H2 (Same.refl H2) (.inr (by omega))
    · have c3' : (valV kvs (kN nm)).isSome = true := by simpa using c3
      exact rest H2 (Same.refl H2) (.inl (ew.trans c3'))
/-! ### House.hold -/
theorem sc_House_hold : FnScope ["self", "client", "time", "service", "now", "proof"] ["self", "client", "time", "service", "now"] (defScope s_House_hold) := ⟨rfl, rfl, rfl, by decide +kernel, rfl, by decide +kernel, by decide +kernel⟩
/-- what still matters -/
def lasts (now : Nat) (h : Ql67.House) : Ql67.House := { h with held := h.held.filter fun x => decide (now ≤ x.time + Ql67.SKEW) }
def sp_House_hold (P : Program) (w : World) (K : PySem.W.Frag) (C N CR : Addr) : Sp := fun vs H Q E => ∃ (a c s : Addr) (h : Ql67.House) (cl sv : List Nat) (t now : Nat), vs = [.ref a, .ref c, .int (t : Int), .ref s, .int (now : Int)] ∧ HouseAt P w K C N H a h ∧ SqT K H c (vb cl) ∧ SqT K H s (vb sv) ∧
  ((⟨sv, cl, t⟩ : Ql67.Held) ∈ (lasts now h).held → ∀ H' : Hp, KeepS H H' → HouseAt P w K C N H' a (lasts now h) → Why E CR 8 H') ∧
  ((⟨sv, cl, t⟩ : Ql67.Held) ∉ (lasts now h).held → Ql67.HELD ≤ (lasts now h).held.length → ∀ H' : Hp, KeepS H H' → HouseAt P w K C N H' a (lasts now h) → Why E CR 10 H') ∧
  ((⟨sv, cl, t⟩ : Ql67.Held) ∉ (lasts now h).held → ¬ Ql67.HELD ≤ (lasts now h).held.length → ∀ H' : Hp, KeepS H H' → HouseAt P w K C N H' a { lasts now h with held := (lasts now h).held ++ [⟨sv, cl, t⟩] } → Q .non H')
theorem lasts_ok {now : Nat} {h : Ql67.House} (x : HouseOk h) : HouseOk (lasts now h) := ⟨x.who, x.names, Nat.le_trans (List.length_filter_le _ _) x.held⟩
theorem near_eq (now t : Nat) : decide ((now : Int) - (t : Int) ≤ 300) = decide (now ≤ t + Ql67.SKEW) := by
  rw [Bool.eq_iff_iff, decide_eq_true_iff, decide_eq_true_iff]
  show _ ↔ now ≤ t + 300
  omega
theorem filter_more {l : List Ql67.Held} {i : Nat} {x : Ql67.Held} (p : Ql67.Held → Bool) (h : l[i]? = some x) : (l.take (i + 1)).filter p = (l.take i).filter p ++ if p x = true then [x] else [] := by
  have e : l.take (i + 1) = l.take i ++ [x] := by
    rw [List.take_add_one, h]
    rfl
  rw [e, List.filter_append]
  by_cases c : p x = true
  · rw [if_pos c, List.filter_cons, if_pos c]
    rfl
  · rw [if_neg c, List.filter_cons, if_neg c]
    rfl
theorem PairOk.keep {K : PySem.W.Frag} {H H' : Hp} {h : Ql67.Held} {t : Addr × Addr} (k : KeepT H H') (kf : ∀ b o u, H b = some (.frz o u) → H' b = some (.frz o u)) (x : PairOk K H h t) : PairOk K H' h t := ⟨k _ _ x.1, x.2.keep k kf⟩
theorem ok_House_hold {C : Cs} {N f : Addr} {fd : FuncData} (F : Fun K "hold" "House.hold" s_House_hold f fd) (T : Txt K mg) (TC : TxtC K mg C) (G1 : Df P w K mg base (L2.CX P w) 3 "want" ["truth", "why"] (sp_want C.Refusal)) :
    FnOk P w K mg base (L2.CX P w) 4 f fd ["self", "client", "time", "service", "now"] (sp_House_hold P w K C.House N C.Refusal) := by
  refine F.okX sc_House_hold (fun vs H Q E h => ?_) (fun cdv A outer s H vs Q E hr h => ?_)
  · obtain ⟨a, c, s, h, cl, sv, t, now, rfl, _⟩ := h
    rfl
  · obtain ⟨a, c, s, h, cl, sv, t, now, rfl, ⟨dx, dk, dh, hI⟩, hC, hS, q8, q10, q0⟩ := h
    refine ⟨_, pss_cons (ps_fld (pv 0) (pe_callTy (call_dictHeld rfl hr.units) (by rfl) T.b_dict (by decide +kernel) (pa_cons (pe_lc (own := [("proof", 5)]) (g := gName 5) rfl sc_House_hold.nd (pi_held (pe_fld (pv 0) rfl))
          (blkOk_by (own := [("proof", 5)]) (N := ["self", "client", "time", "service", "now", "proof"]) (sc := defScope s_House_hold) (by decide +kernel)) (fun _ _ _ _ _ => pg_name (i := 5) sc_House_hold.nd rfl (Or.inl rfl))
          (fun _ _ _ _ _ => pts_one (pt_cmpR op_le (pe_op op_sub (pv 4) (pe_ix (show IxR _ (rIxT K) from ix_tup) (pv 5) pe_int (fun _ _ => rfl))) (pe_gv T.c_NEAR) (nomark _)))
          (fun _ _ _ _ _ => pe_tup (pa_cons (pv 5) (pa_cons pe_bl pa_nil)))) pa_nil)) rfl)
      (pss_cons (ps_set (i := 5) sc_House_hold.nd rfl (Or.inl rfl) (pe_tup (pa_cons (pv 1) (pa_cons (pv 2) (pa_cons (pv 3) pa_nil)))))
      (pss_cons (ps_expr (pe_callD G1 (hr.mono (by decide)) passX (pa_cons (pe_cmpR (op_heldNo hr.units) (pv 5) (pe_fld (pv 0) rfl) (by rfl)) (pa_cons (pe_gv T.c_SHOWN_BEFORE) pa_nil))))
      (pss_cons (ps_expr (pe_callD G1 (hr.mono (by decide)) passX (pa_cons (pe_cmpR op_lt (pe_callB call_lenHeld (by rfl) T.b_len PySem.boot_len (pa_cons (pe_fld (pv 0) rfl) pa_nil)) (pe_gv T.c_MOST_HELD) (nomark _)) (pa_cons (pe_gv T.c_TOO_MANY_HELD) pa_nil))))
      (pss_one (ps_asg pe_bl (pg_sub (pe_fld (pv 0) rfl) (pv 5) (set_held hr.units))))))), ?_⟩
    obtain ⟨o, es, ep, xs, hx⟩ := hI.held
    have hxl : h.held.length = xs.length := Paired.length hx.rel
    have hle := hI.ok.held
    -- what still matters
    refine ⟨_, rfl, a, C.House, dx, _, _, rfl, hI.at_, TC.House_cl, TC.House_no_held, hF_held dk dh, dh, o, es, ep, xs, h.held, rfl, hx, fun D hD => ?_⟩
    refine lc_it walk_held (fun i H' => Same H H' ∧ ∃ ts : List (Addr × Addr), H' D = some (.lst (ts.map fun t => V.ref t.1)) ∧ Paired (PairOk K H') ((h.held.take i).filter fun x => decide (now ≤ x.time + Ql67.SKEW)) ts) ⟨same_upd hD, [], upd_same, .nil⟩ (fun i H' _ z => z.1 _ _ hx.at_) ?_ ?_
    · rintro i y H1 H2 hi ⟨s1, ts, e1, pr⟩ ⟨rfl, p, hp, rfl⟩
      obtain ⟨g, hg, hk⟩ := heldkey_at hx.rel hp
      obtain ⟨gc, gs, g1, g2, g3⟩ := id hk
      have lts : ts.length ≤ 1024 := by
        rw [← Paired.length pr]
        exact Nat.le_trans (List.length_filter_le _ _) (by rw [List.length_take]; omega)
      refine ⟨rfl, _, rfl, _, rfl, p, _, 1, _, rfl, rfl, tup_of (s1 _ _ g1), atI_nat (j := 1) rfl, _, _, rfl, rfl, _, _, rfl, rfl, _, rfl, ?_⟩
      rw [near_eq now g.time]
      refine ifB (fun c1 => ?_) (fun c1 => ?_)
      · refine ⟨_, rfl, (by show 2 ≤ sizeLine; decide), fun r nr => ?_⟩
        have s2 := same_upd nr (o := .tup [.ref p, .bl true])
        have kD := s2 _ _ e1
        have nT : r ≠ D := fun z => by
          rw [z, e1] at nr
          cases nr
        have kT : KeepT (upd H2 r (.tup [.ref p, .bl true])) (upd (upd H2 r (.tup [.ref p, .bl true])) D (.lst ((ts.map fun t => V.ref t.1) ++ [.ref r]))) := keepT_upd kD (fun xs z => by cases z)
        have kF : ∀ b x y, upd H2 r (.tup [.ref p, .bl true]) b = some (.frz x y) → upd (upd H2 r (.tup [.ref p, .bl true])) D (.lst ((ts.map fun t => V.ref t.1) ++ [.ref r])) b = some (.frz x y) := keepF_upd kD (fun x y z => by cases z)
        refine ⟨_, kD, ?_, same_set (same_new s1 nr) hD, ts ++ [(r, p)], ?_, ?_⟩
        · rw [List.length_map]
          exact lt_line (by omega)
        · rw [upd_same, List.map_append]
          rfl
        · rw [filter_more _ hg, if_pos c1]
          refine paired_app ⟨?_, ?_⟩ (Paired.imp' (fun _ _ z => (z.keep (KeepT.of s2) fun b x y w => s2 b _ w).keep kT kF) pr)
          · exact kT _ _ upd_same
          · exact ((hk.keep (KeepT.of s1) fun b x y w => s1 b _ w).keep (KeepT.of s2) fun b x y w => s2 b _ w).keep kT kF
      · refine ⟨s1, ts, e1, ?_⟩
        rw [filter_more _ hg, if_neg (by rw [c1]; decide), List.append_nil]
        exact pr
    rintro H1 ⟨s1, ts, e1, pr⟩
    rw [List.take_of_length_le (by rw [List.length_map]; omega)] at pr
    have nd : (lasts now h).held.Nodup := hx.nd.filter _
    have ll : (lasts now h).held.length ≤ 1024 := (lasts_ok hI.ok).held
    refine ⟨D, (lasts now h).held, ts, rfl, lst_of e1, pr, nd, by omega, fun H2 p2 s2 n2 hh2 => ?_⟩
    have s12 := s1.trans s2
    have hI2 := hI.same s12
    refine ⟨_, rfl, a, C.House, dx, _, rfl, hI2.at_, TC.House_cl, TC.House_no_held, (by show 2 < 1000; decide), ?_⟩
    generalize hE : upd H2 a _ = H3
    have k3 : KeepB H2 H3 a := by
      rw [← hE]
      exact keepB_set
    have e3 : H3 a = some (.ins C.House dx (hF dk p2)) := by
      rw [← hE, upd_same, hF_put]
    clear hE
    have ks3 := KeepS.ofB k3 hI2.at_ (fun z => z)
    have hp2a : p2 ≠ a := fun z => by
      obtain ⟨o2, es2, ep2, xs2, hi⟩ := hh2
      have w2 := hi.at_
      rw [z, hI2.at_] at w2
      have w3 : HO.ins C.House dx (hF dk dh) = HO.ext _ := Option.some.inj w2
      cases w3
    have hka : dk ≠ a := fun z => by
      obtain ⟨kvs, w2, _⟩ := hI2.known
      rw [z, hI2.at_] at w2
      cases w2
    have hI3 : HouseIs P w K C.House N H3 a dx dk p2 (lasts now h) := ⟨e3, hI2.known.keep ks3 fun o e => k3 _ _ hka e, hh2.keep ks3 fun o e => k3 _ _ hp2a e, lasts_ok hI.ok⟩
    have kS3 : KeepS H H3 := (KeepS.of s12).trans ks3
    -- the proof
    refine ⟨_, rfl, _, rfl, _, rfl, (by show 3 ≤ sizeLine; decide), fun p4 n4 => ?_⟩
    generalize hE : upd _ p4 _ = H4
    obtain ⟨s4, e4⟩ := gen_new hE n4
    clear hE
    have hI4 := hI3.same s4
    have kS4 := kS3.trans (KeepS.of s4)
    have hk4 : HeldKey K H4 p4 ⟨sv, cl, t⟩ := ⟨c, s, e4, kS4.tup hC, kS4.tup hS⟩
    refine ⟨_, rfl, _, rfl, a, C.House, dx, _, _, rfl, hI4.at_, TC.House_cl, TC.House_no_held, hF_held dk p2, p4, p2, _, ⟨sv, cl, t⟩, rfl, rfl, hI4.held, hk4, _, 8, rfl, fun b1 => ?_, fun b1 => ?_⟩
    · have hn : (⟨sv, cl, t⟩ : Ql67.Held) ∉ (lasts now h).held := fun z => by
        rw [decide_eq_true z] at b1
        cases b1
      refine ⟨_, rfl, a, C.House, dx, _, _, rfl, hI4.at_, TC.House_cl, TC.House_no_held, hF_held dk p2, p2, _, rfl, hI4.held, _, _, rfl, rfl, _, 10, rfl, fun b2 => ?_, fun b2 => ?_⟩
      · have b2' := of_decide_eq_true b2
        have hl : ¬ Ql67.HELD ≤ (lasts now h).held.length := fun z => by
          have z' : 1024 ≤ (lasts now h).held.length := z
          omega
        refine ⟨_, rfl, a, C.House, dx, _, _, rfl, hI4.at_, TC.House_cl, TC.House_no_held, hF_held dk p2, _, rfl, p2, p4, _, ⟨sv, cl, t⟩, rfl, rfl, rfl, hI4.held, hk4, hn, by omega, fun H5 k5 hh5 => ?_⟩
        obtain ⟨o4, es4, ep4, xs4, hi4⟩ := id hI4.held
        have ks5 : KeepS H4 H5 := KeepS.ofB k5 hi4.at_ (fun z => z)
        have hka4 : dk ≠ p2 := fun z => by
          obtain ⟨kvs, w2, _⟩ := hI4.known
          have w3 := hi4.at_
          rw [← z, w2] at w3
          have w4 : HO.dT kvs = HO.ext _ := Option.some.inj w3
          cases w4
        have hna : a ≠ p2 := hp2a.symm
        refine q0 hn hl H5 (kS4.trans ks5) ⟨dx, dk, p2, k5 _ _ hna hI4.at_, hI4.known.keep ks5 fun o e => k5 _ _ hka4 e, hh5, hI4.ok.who, hI4.ok.names, ?_⟩
        show ((lasts now h).held ++ [_]).length ≤ 1024
        rw [List.length_append, List.length_singleton]
        have hl' : ¬ 1024 ≤ (lasts now h).held.length := hl
        omega
      · have b2' := of_decide_eq_false b2
        have hl : Ql67.HELD ≤ (lasts now h).held.length := by
          show 1024 ≤ _
          omega
        exact fun H5 s5 => q10 hn hl H5 (kS4.trans (KeepS.of s5)) ⟨dx, dk, p2, hI4.same s5⟩
    · have hm : (⟨sv, cl, t⟩ : Ql67.Held) ∈ (lasts now h).held := by
        by_cases z : (⟨sv, cl, t⟩ : Ql67.Held) ∈ (lasts now h).held
        · exact z
        · rw [decide_eq_false z] at b1
          cases b1
      exact fun H5 s5 => q8 hm H5 (kS4.trans (KeepS.of s5)) ⟨dx, dk, p2, hI4.same s5⟩
/-! ### House.let_in -/
theorem sc_House_let_in : FnScope ["self", "service", "ticket", "proof", "now", "within", "client", "key", "start", "end", "told"] ["self", "service", "ticket", "proof", "now"] (defScope s_House_let_in) := ⟨rfl, rfl, rfl, by decide +kernel, rfl, by decide +kernel, by decide +kernel⟩
def ticketIn (h : Ql67.House) (sv t : List Nat) : Option Ql67.Ticket := (h.who sv).bind fun w => (Ql67.open_ w.key t).bind Ql67.ticketOf
theorem lets_eq (h : Ql67.House) (now : Nat) (sv t p : List Nat) : h.lets now sv t p = (match ticketIn h sv t with
  | none => (h, .error 5)
  | some x =>
    if now < x.start ∨ x.halt_ ≤ now then (h, .error 6)
    else match (Ql67.open_ x.key p).bind Ql67.proofOf with
      | none => (h, .error 7)
      | some y =>
        if y.1 ≠ x.client ∨ y.2 + Ql67.SKEW < now ∨ now + Ql67.SKEW < y.2 then (h, .error 7)
        else if (lasts now h).held.contains ⟨sv, y.1, y.2⟩ = true then (lasts now h, .error 8)
        else if Ql67.HELD ≤ (lasts now h).held.length then (lasts now h, .error 10)
        else ({ lasts now h with held := (lasts now h).held ++ [⟨sv, y.1, y.2⟩] }, .ok x)) := rfl
theorem lets_5 {h : Ql67.House} {now : Nat} {sv t p : List Nat} (e : ticketIn h sv t = none) : h.lets now sv t p = (h, .error 5) := by
  rw [lets_eq, e]
theorem lets_6 {h : Ql67.House} {now : Nat} {sv t p : List Nat} {x : Ql67.Ticket} (e : ticketIn h sv t = some x) (c : now < x.start ∨ x.halt_ ≤ now) : h.lets now sv t p = (h, .error 6) := by
  rw [lets_eq, e]
  exact if_pos c
theorem lets_7a {h : Ql67.House} {now : Nat} {sv t p : List Nat} {x : Ql67.Ticket} (e : ticketIn h sv t = some x) (c : ¬ (now < x.start ∨ x.halt_ ≤ now)) (e2 : (Ql67.open_ x.key p).bind Ql67.proofOf = none) : h.lets now sv t p = (h, .error 7) := by
  rw [lets_eq, e]
  dsimp only
  rw [if_neg c, e2]
theorem lets_7b {h : Ql67.House} {now : Nat} {sv t p : List Nat} {x : Ql67.Ticket} {y : List Nat × Nat} (e : ticketIn h sv t = some x) (c : ¬ (now < x.start ∨ x.halt_ ≤ now)) (e2 : (Ql67.open_ x.key p).bind Ql67.proofOf = some y)
    (c2 : y.1 ≠ x.client ∨ y.2 + Ql67.SKEW < now ∨ now + Ql67.SKEW < y.2) : h.lets now sv t p = (h, .error 7) := by
  rw [lets_eq, e]
  dsimp only
  rw [if_neg c, e2]
  exact if_pos c2
section
variable {h : Ql67.House} {now : Nat} {sv t p : List Nat} {x : Ql67.Ticket} {y : List Nat × Nat}
theorem lets_8 (e : ticketIn h sv t = some x) (c : ¬ (now < x.start ∨ x.halt_ ≤ now)) (e2 : (Ql67.open_ x.key p).bind Ql67.proofOf = some y)
    (c2 : ¬ (y.1 ≠ x.client ∨ y.2 + Ql67.SKEW < now ∨ now + Ql67.SKEW < y.2)) (m : (⟨sv, y.1, y.2⟩ : Ql67.Held) ∈ (lasts now h).held) : h.lets now sv t p = (lasts now h, .error 8) := by
  rw [lets_eq, e]
  dsimp only
  rw [if_neg c, e2]
  dsimp only
  rw [if_neg c2, if_pos (List.contains_iff.mpr m)]
theorem lets_10 (e : ticketIn h sv t = some x) (c : ¬ (now < x.start ∨ x.halt_ ≤ now)) (e2 : (Ql67.open_ x.key p).bind Ql67.proofOf = some y)
    (c2 : ¬ (y.1 ≠ x.client ∨ y.2 + Ql67.SKEW < now ∨ now + Ql67.SKEW < y.2)) (m : (⟨sv, y.1, y.2⟩ : Ql67.Held) ∉ (lasts now h).held) (c3 : Ql67.HELD ≤ (lasts now h).held.length) : h.lets now sv t p = (lasts now h, .error 10) := by
  rw [lets_eq, e]
  dsimp only
  rw [if_neg c, e2]
  dsimp only
  rw [if_neg c2, if_neg (fun z => m (List.contains_iff.mp z)), if_pos c3]
theorem lets_ok (e : ticketIn h sv t = some x) (c : ¬ (now < x.start ∨ x.halt_ ≤ now)) (e2 : (Ql67.open_ x.key p).bind Ql67.proofOf = some y)
    (c2 : ¬ (y.1 ≠ x.client ∨ y.2 + Ql67.SKEW < now ∨ now + Ql67.SKEW < y.2)) (m : (⟨sv, y.1, y.2⟩ : Ql67.Held) ∉ (lasts now h).held) (c3 : ¬ Ql67.HELD ≤ (lasts now h).held.length) :
    h.lets now sv t p = ({ lasts now h with held := (lasts now h).held ++ [⟨sv, y.1, y.2⟩] }, .ok x) := by
  rw [lets_eq, e]
  dsimp only
  rw [if_neg c, e2]
  dsimp only
  rw [if_neg c2, if_neg (fun z => m (List.contains_iff.mp z)), if_neg c3]
end
theorem open_bytes {k c m : List Nat} (h : Ql67.open_ k c = some m) (hb : Ql67.Bytes c) : Ql67.Bytes m := by
  by_cases q : c.length < 8
  · rw [open_short q] at h
    cases h
  · rw [open_long q] at h
    by_cases e : Ql67.sum k (Ql67.veiled k (Ql67.num (c.take 8)) (c.drop 8)) = Ql67.num (c.take 8)
    · rw [if_pos e] at h
      injection h with h
      rw [← h]
      exact veiled_lt _ _ _ fun x hx => hb x (List.mem_of_mem_drop hx)
    · rw [if_neg e] at h
      cases h
theorem name_bytes {l x s : List Nat} (h : Ql67.takeName l = some (x, s)) (hb : Ql67.Bytes l) : (Ql67.Bytes x ∧ Ql67.Bytes s) ∧ x.length ≤ 32 := by
  cases l with
  | nil => cases h
  | cons c r =>
    have h' : (if c ≤ r.length ∧ Ql67.isName (r.take c) = true then some (r.take c, r.drop c) else none) = some (x, s) := h
    by_cases q : c ≤ r.length ∧ Ql67.isName (r.take c) = true
    · rw [if_pos q] at h'
      injection h' with h'
      injection h' with h1 h2
      subst h1 h2
      refine ⟨⟨fun b m => hb b (List.mem_cons_of_mem _ (List.mem_of_mem_take m)), fun b m => hb b (List.mem_cons_of_mem _ (List.mem_of_mem_drop m))⟩, ?_⟩
      have z := q.2
      unfold Ql67.isName at z
      rw [Bool.and_eq_true] at z
      exact (of_decide_eq_true z.1).2
    · rw [if_neg q] at h'
      cases h'
theorem ticket_good {m : List Nat} {x : Ql67.Ticket} (h : Ql67.ticketOf m = some x) (hb : Ql67.Bytes m) : x.key.length = 16 ∧ Ql67.Bytes x.key ∧ Ql67.Bytes x.client ∧ x.client.length ≤ 32 := by
  unfold Ql67.ticketOf at h
  obtain ⟨c, h1, h⟩ := Option.bind_eq_some_iff.mp h
  obtain ⟨k, h2, h⟩ := Option.bind_eq_some_iff.mp h
  obtain ⟨a, _, h⟩ := Option.bind_eq_some_iff.mp h
  obtain ⟨b, _, h⟩ := Option.bind_eq_some_iff.mp h
  obtain ⟨⟨b1, b2⟩, b3⟩ := name_bytes (x := c.1) (s := c.2) h1 hb
  obtain ⟨⟨k1, _⟩, _⟩ := take_bytes (x := k.1) (s := k.2) h2 b2
  have kl : k.1.length = 16 := by
    by_cases q : 16 ≤ c.2.length
    · rw [take_yes q] at h2
      injection h2 with h2
      rw [← h2]
      show (List.take 16 c.2).length = 16
      rw [List.length_take]
      omega
    · rw [take_no (by omega)] at h2
      cases h2
  unfold Ql67.ended at h
  split at h
  · injection h with h
    subst h
    exact ⟨kl, k1, b1, b3⟩
  · cases h
theorem ref_non (q : Addr) : (!decide (V.ref q = V.non)) = true := by
  rw [decide_eq_false (fun h => by cases h)]
  rfl
theorem abs_near (t now : Nat) : decide ((if ((t : Int) - (now : Int)) < 0 then -((t : Int) - (now : Int)) else ((t : Int) - (now : Int))) ≤ 300) = decide (¬ (t + Ql67.SKEW < now ∨ now + Ql67.SKEW < t)) := by
  rw [Bool.eq_iff_iff, decide_eq_true_iff, decide_eq_true_iff]
  show _ ↔ ¬ (t + 300 < now ∨ now + 300 < t)
  split <;> omega
def sp_House_let_in (P : Program) (w : World) (K : PySem.W.Frag) (C N CR : Addr) : Sp := fun vs H Q E => ∃ (a s tk pf : Addr) (h : Ql67.House) (sv t p : List Nat) (now : Nat), vs = [.ref a, .ref s, .ref tk, .ref pf, .int (now : Int)] ∧ HouseAt P w K C N H a h ∧ SqT K H s (vb sv) ∧
  SqL K H tk (vb t) ∧ Ql67.Bytes t ∧ t.length ≤ 5000 ∧ SqL K H pf (vb p) ∧ Ql67.Bytes p ∧ p.length ≤ 5000 ∧
  (∀ g n, h.lets now sv t p = (g, .error n) → ∀ H' : Hp, KeepS H H' → HouseAt P w K C N H' a g → Why E CR n H') ∧
  (∀ g x, h.lets now sv t p = (g, .ok x) → ∀ (H' : Hp) (q c k : Addr), KeepS H H' → HouseAt P w K C N H' a g → H' q = some (.tup [.ref c, .ref k, .int (x.halt_ : Int)]) → H' c = some (.tup (vb x.client)) → H' k = some (.lst (vb x.key)) →
    x.key.length = 16 → Ql67.Bytes x.key → Ql67.Bytes x.client → x.client.length ≤ 32 → Q (.ref q) H')
theorem ok_House_let_in {C : Cs} {N f fg_ticket_within fg_proof_within : Addr} {fd : FuncData} (F : Fun K "let_in" "House.let_in" s_House_let_in f fd) (T : Txt K mg) (TC : TxtC K mg C) (G1 : Df P w K mg base (L2.CX P w) 3 "want" ["truth", "why"] (sp_want C.Refusal))
    (G2 : Df P w K mg base CX0 5 "opened_as" ["key", "row", "within"] (sp_opened_as K C.NoMessage fg_ticket_within (sp_ticket_within K C.NoMessage))) (G3 : DfA P w K mg base (L2.CX P w) 4 "ticket_within" ["text"] (sp_ticket_within K C.NoMessage) fg_ticket_within)
    (G4 : Df P w K mg base CX0 5 "opened_as" ["key", "row", "within"] (sp_opened_as K C.NoMessage fg_proof_within (sp_proof_within K C.NoMessage))) (G5 : DfA P w K mg base (L2.CX P w) 4 "proof_within" ["text"] (sp_proof_within K C.NoMessage) fg_proof_within)
    (G6 : Mt P w K mg base (L2.CX P w) 4 C.House "hold" ["self", "client", "time", "service", "now"] (sp_House_hold P w K C.House N C.Refusal)) :
    FnOk P w K mg base (L2.CX P w) 6 f fd ["self", "service", "ticket", "proof", "now"] (sp_House_let_in P w K C.House N C.Refusal) := by
  refine F.okX sc_House_let_in (fun vs H Q E h => ?_) (fun cdv A outer s H vs Q E hr h => ?_)
  · obtain ⟨a, s, tk, pf, h, sv, t, p, now, rfl, _⟩ := h
    rfl
  · obtain ⟨a, s, tk, pf, h, sv, t, p, now, rfl, ⟨dx, dk, dh, hI⟩, hS, hT, bT, lt, hP, bP, lp, kE, kQ⟩ := h
    refine ⟨_, pss_cons (ps_expr (pe_callD G1 (hr.mono (by decide)) passX (pa_cons (pe_cmpR (op_inS hr.units) (pv 1) (pe_fld (pv 0) rfl) (by rfl)) (pa_cons (pe_gv T.c_BAD_TICKET) pa_nil))))
      (pss_cons (ps_set (i := 5) sc_House_let_in.nd rfl (Or.inl rfl) (pe_callD G2 (hr.mono (by decide)) pass0 (pa_cons (pe_ix ix_tup (pe_getS hr.units (pe_fld (pv 0) rfl) (pv 1) (fun _ _ => rfl)) pe_int (fun _ _ => rfl)) (pa_cons (pv 2) (pa_cons (pe_fn G3) pa_nil)))))
      (pss_cons (ps_expr (pe_callD G1 (hr.mono (by decide)) passX (pa_cons (pe_cmpR op_notN (pv 5) pe_non (nomark _)) (pa_cons (pe_gv T.c_BAD_TICKET) pa_nil))))
      (pss_cons (ps_asg (pv 5) (pg_tup rfl (pgs_cons (pg_name (i := 6) sc_House_let_in.nd rfl (Or.inl rfl)) (pgs_cons (pg_name (i := 7) sc_House_let_in.nd rfl (Or.inl rfl)) (pgs_cons (pg_name (i := 8) sc_House_let_in.nd rfl (Or.inl rfl)) (pgs_cons (pg_name (i := 9) sc_House_let_in.nd rfl (Or.inl rfl)) pgs_nil))))))
      (pss_cons (ps_expr (pe_callD G1 (hr.mono (by decide)) passX (pa_cons (pe_and (pe_cmpR op_le (pv 8) (pv 4) (nomark _)) (pe_one (pe_cmpR op_lt (pv 4) (pv 9) (nomark _)))) (pa_cons (pe_gv T.c_NOT_NOW) pa_nil))))
      (pss_cons (ps_set (i := 10) sc_House_let_in.nd rfl (Or.inl rfl) (pe_callD G4 (hr.mono (by decide)) pass0 (pa_cons (pv 7) (pa_cons (pv 3) (pa_cons (pe_fn G5) pa_nil)))))
      (pss_cons (ps_expr (pe_callD G1 (hr.mono (by decide)) passX (pa_cons (pe_and (pe_cmpR op_notN (pv 10) pe_non (nomark _)) (pe_and (pe_cmpR (op_eqD hr.units) (pe_ix ix_tup (pv 10) pe_int (fun _ _ => rfl)) (pv 6) (nomark _))
          (pe_one (pe_cmpR op_le (pe_callB call_abs (by rfl) T.b_abs (by decide +kernel) (pa_cons (pe_op op_sub (pe_ix ix_tup (pv 10) pe_int (fun _ _ => rfl)) (pv 4)) pa_nil)) (pe_gv T.c_NEAR) (nomark _))))) (pa_cons (pe_gv T.c_BAD_PROOF) pa_nil))))
      (pss_cons (ps_expr (pe_methD G6 (pv 0) TC.House_cl (hr.mono (by decide)) passX (pa_cons (pv 6) (pa_cons (pe_ix ix_tup (pv 10) pe_int (fun _ _ => rfl)) (pa_cons (pv 1) (pa_cons (pv 4) pa_nil))))))
      (pss_one (ps_ret (pe_tup (pa_cons (pv 6) (pa_cons (pv 7) (pa_cons (pv 9) pa_nil))))))))))))), ?_⟩
    obtain ⟨kvs, hkd, hkr⟩ := hI.known
    have hg := known_get sv hkr
    -- want(service in self.known, BAD_TICKET)
    refine ⟨_, rfl, _, rfl, a, C.House, dx, _, _, rfl, hI.at_, TC.House_cl, TC.House_no_known, hF_known dk dh, s, dk, kvs, sv, rfl, rfl, hkd, hS, _, 5, rfl, fun b1 => ?_, fun b1 H1 s1 => ?_⟩
    case refine_2 =>
      have b1' : (valV kvs (kN sv)).isSome = false := b1
      have e : ticketIn h sv t = none := by
        unfold ticketIn
        cases z : h.who sv with
        | none => rfl
        | some v =>
          have z2 := hg.1
          rw [b1'] at z2
          have z3 : (h.known.find? fun w => w.name == sv) = some v := z
          rw [z3] at z2
          cases z2
      exact kE _ _ (lets_5 e) H1 (KeepS.of s1) ⟨dx, dk, dh, hI.same s1⟩
    have b1' : (valV kvs (kN sv)).isSome = true := b1
    obtain ⟨v, hv⟩ : ∃ v, h.who sv = some v := by
      have z2 := hg.1
      rw [b1'] at z2
      exact Option.isSome_iff_exists.mp z2.symm
    obtain ⟨tt, kk, g1, g2, g3⟩ := hg.2 v hv
    have hvm : v ∈ h.known := List.mem_of_find?_eq_some hv
    obtain ⟨vk, vb', vl⟩ := hI.ok.who v hvm
    have eT : ticketIn h sv t = (Ql67.open_ v.key t).bind Ql67.ticketOf := by
      unfold ticketIn
      rw [hv]
      rfl
    -- within
    refine ⟨_, rfl, a, C.House, dx, _, _, rfl, hI.at_, TC.House_cl, TC.House_no_known, hF_known dk dh, _, rfl, dk, s, kvs, sv, _, rfl, rfl, hkd, hS, g1, tt, _, 0, _, rfl, rfl, tup_of g2, atI_nat (j := 0) rfl, _, rfl, kk, tk, v.key, t, rfl, g3, vk, hT, bT, lt, fun e H1 s1 => ?_, fun m e H1 p1 s1 n1 e1 E2 hE2 => ?_⟩
    · refine ⟨_, rfl, rfl, _, 5, rfl, fun b => absurd b (by decide), fun b H2 s2 => kE _ _ (lets_5 (by rw [eT, e]; rfl)) H2 (KeepS.of (s1.trans s2)) ⟨dx, dk, dh, hI.same (s1.trans s2)⟩⟩
    have bm := open_bytes e bT
    have lm := open_len e
    refine ⟨p1, m, rfl, lst_of e1, by omega, fun e' H2 s2 => hE2 _ _ ?_, fun x e' H2 q2 a1 a2 s2 n2 o2 o3 o4 => ?_⟩
    · refine ⟨_, rfl, rfl, _, 5, rfl, fun b => absurd b (by decide), fun b H3 s3 => kE _ _ (lets_5 (by rw [eT, e]; exact e')) H3 (KeepS.of (s1.trans (s2.trans s3))) ⟨dx, dk, dh, hI.same (s1.trans (s2.trans s3))⟩⟩
    have eX : ticketIn h sv t = some x := by
      rw [eT, e]
      exact e'
    obtain ⟨x1, x2, x3, x4⟩ := ticket_good e' bm
    have s12 := s1.trans s2
    have hI2 := hI.same s12
    refine ⟨_, rfl, rfl, _, 5, rfl, fun b => ?_, fun b => ?_⟩
    case refine_2 =>
      rw [ref_non] at b
      cases b
    -- client, key, start, end
    refine ⟨_, rfl, q2, _, rfl, tup_of o2, rfl, _, _, rfl, _, _, rfl, _, _, rfl, _, _, rfl, rfl, ?_⟩
    -- want(start <= now and now < end, NOT_NOW)
    refine ⟨_, rfl, _, rfl, _, _, rfl, rfl, _, rfl, ifB (fun z1 => ?_) (fun z1 => ?_)⟩
    case refine_2 =>
      have z1' := of_decide_eq_false z1
      refine ⟨_, 6, rfl, fun b => Bool.noConfusion b, fun _ H3 s3 => ?_⟩
      exact kE _ _ (lets_6 eX (.inl (by omega))) H3 (KeepS.of (s12.trans s3)) ⟨dx, dk, dh, hI2.same s3⟩
    have z1' := of_decide_eq_true z1
    refine ⟨_, rfl, _, rfl, _, _, rfl, rfl, _, 6, rfl, fun b => ?_, fun b H3 s3 => ?_⟩
    case refine_2 =>
      have b' := of_decide_eq_false b
      exact kE _ _ (lets_6 eX (.inr (by omega))) H3 (KeepS.of (s12.trans s3)) ⟨dx, dk, dh, hI2.same s3⟩
    have b' := of_decide_eq_true b
    have c : ¬ (now < x.start ∨ x.halt_ ≤ now) := by omega
    -- told
    refine ⟨_, rfl, _, rfl, a2, pf, x.key, p, rfl, lst_of o4, x1, s12.seq hP, bP, lp, fun e3 H3 s3 => ?_, fun m2 e3 H3 p3 s3 n3 o5 E3 hE3 => ?_⟩
    · refine ⟨_, rfl, rfl, _, rfl, ifB (fun z => absurd z (by decide)) (fun _ => ⟨_, 7, rfl, fun z => Bool.noConfusion z, fun _ H4 s4 => ?_⟩)⟩
      exact kE _ _ (lets_7a eX c (by rw [e3]; rfl)) H4 (KeepS.of (s12.trans (s3.trans s4))) ⟨dx, dk, dh, hI2.same (s3.trans s4)⟩
    have lm2 := open_len e3
    refine ⟨p3, m2, rfl, lst_of o5, by omega, fun e4 H4 s4 => hE3 _ _ ?_, fun y e4 H4 q4 a3 s4 n4 o6 o7 => ?_⟩
    · refine ⟨_, rfl, rfl, _, rfl, ifB (fun z => absurd z (by decide)) (fun _ => ⟨_, 7, rfl, fun z => Bool.noConfusion z, fun _ H5 s5 => ?_⟩)⟩
      exact kE _ _ (lets_7a eX c (by rw [e3]; exact e4)) H5 (KeepS.of (s12.trans (s3.trans (s4.trans s5)))) ⟨dx, dk, dh, hI2.same (s3.trans (s4.trans s5))⟩
    have eY : (Ql67.open_ x.key p).bind Ql67.proofOf = some y := by
      rw [e3]
      exact e4
    have s34 := s3.trans s4
    have s14 := s12.trans s34
    have hI4 := hI2.same s34
    -- want(told is not None and ..)
    refine ⟨_, rfl, rfl, _, rfl, ifB (fun _ => ?_) (fun z => by rw [ref_non] at z; cases z)⟩
    refine ⟨_, rfl, q4, _, 0, _, rfl, rfl, tup_of o6, atI_nat (j := 0) rfl, _, rfl, .tuple (dB y.1), .tuple (dB x.client), .tup (tup_of o7) (dp_all _), .tup (tup_of (s34 _ _ o3)) (dp_all _), shaped_tup _, shaped_tup _, _, rfl, ?_⟩
    rw [eqv_tup]
    refine ifB (fun c3 => ?_) (fun c3 => ?_)
    case refine_2 =>
      have c3' := of_decide_eq_false c3
      refine ⟨_, 7, rfl, fun z => Bool.noConfusion z, fun _ H5 s5 => ?_⟩
      exact kE _ _ (lets_7b eX c eY (.inl c3')) H5 (KeepS.of (s14.trans s5)) ⟨dx, dk, dh, hI4.same s5⟩
    have c3' := of_decide_eq_true c3
    refine ⟨_, rfl, q4, _, 1, _, rfl, rfl, tup_of o6, atI_nat (j := 1) rfl, _, rfl, _, _, rfl, rfl, _, rfl, _, _, rfl, rfl, ?_⟩
    refine ⟨_, 7, rfl, fun b5 => ?_, fun b5 H5 s5 => ?_⟩
    case refine_2 =>
      rw [abs_near] at b5
      have b5' := of_decide_eq_false b5
      exact kE _ _ (lets_7b eX c eY (.inr (by omega))) H5 (KeepS.of (s14.trans s5)) ⟨dx, dk, dh, hI4.same s5⟩
    rw [abs_near] at b5
    have b5' := of_decide_eq_true b5
    have c2 : ¬ (y.1 ≠ x.client ∨ y.2 + Ql67.SKEW < now ∨ now + Ql67.SKEW < y.2) := by
      intro z
      rcases z with z | z
      · exact z c3'
      · exact b5' z
    have o3' := s34 _ _ o3
    have o3y : H4 a1 = some (.tup (vb y.1)) := by rw [c3']; exact o3'
    -- hold
    refine ⟨_, rfl, a, dx, _, rfl, hI4.at_, hF_no dk dh _ (by decide +kernel) (by decide +kernel), _, rfl, _, rfl, q4, _, 1, _, rfl, rfl, tup_of o6, atI_nat (j := 1) rfl, _, rfl, _, rfl, a, a1, s, h, y.1, sv, y.2, now, rfl, ⟨dx, dk, dh, hI4⟩, tup_of o3y, Same.tup s14 hS, fun mm H5 k5 hh5 => ?_, fun mm ll H5 k5 hh5 => ?_, fun mm ll H5 k5 hh5 => ?_⟩
    · exact kE _ _ (lets_8 eX c eY c2 mm) H5 ((KeepS.of s14).trans k5) hh5
    · exact kE _ _ (lets_10 eX c eY c2 mm ll) H5 ((KeepS.of s14).trans k5) hh5
    · refine ⟨_, rfl, _, rfl, _, rfl, (by show 3 ≤ sizeLine; decide), fun p6 n6 => ?_⟩
      generalize hE : upd _ p6 _ = H6
      obtain ⟨s6, e6⟩ := gen_new hE n6
      clear hE
      exact kQ _ x (lets_ok eX c eY c2 mm ll) H6 p6 a1 a2 ((KeepS.of s14).trans (k5.trans (KeepS.of s6))) (hh5.same s6) e6 (s6 _ _ (k5 _ _ o3' trivial)) (s6 _ _ (k5 _ _ (s34 _ _ o4) trivial)) x1 x2 x3 x4
/-! ### House.grant -/
theorem sc_House_grant : FnScope ["self", "client", "service", "now", "end", "fresh"] ["self", "client", "service", "now", "end", "fresh"] (defScope s_House_grant) := ⟨rfl, rfl, rfl, by decide +kernel, rfl, by decide +kernel, by decide +kernel⟩
def sp_House_grant (P : Program) (w : World) (K : PySem.W.Frag) (C N : Addr) : Sp := fun vs H Q _ => ∃ (a c s f : Addr) (h : Ql67.House) (cl sv fr : List Nat) (now en : Nat) (v : Ql67.Who), vs = [.ref a, .ref c, .ref s, .int (now : Int), .int (en : Int), .ref f] ∧ HouseAt P w K C N H a h ∧ SqT K H c (vb cl) ∧ Ql67.Bytes cl ∧ cl.length ≤ 64 ∧
  SqT K H s (vb sv) ∧ h.who sv = some v ∧ SqL K H f (vb fr) ∧ Ql67.Bytes fr ∧ fr.length = 16 ∧ outL H Q (Ql67.seal_ v.key (Ql67.ticketText ⟨cl, fr, now, en⟩))
theorem ok_House_grant {C : Cs} {N f : Addr} {fd : FuncData} (F : Fun K "grant" "House.grant" s_House_grant f fd) (T : Txt K mg) (TC : TxtC K mg C) (G1 : Df P w K mg base CX0 5 "ticket_of" ["service_key", "client", "key", "start", "end"] (sp_ticket_of K)) :
    FnOk P w K mg base CX0 6 f fd ["self", "client", "service", "now", "end", "fresh"] (sp_House_grant P w K C.House N) := by
  refine F.ok sc_House_grant (fun vs H Q E h => ?_) (fun cdv A outer s H vs Q E hr h => ?_)
  · obtain ⟨a, c, s, f, h, cl, sv, fr, now, en, v, rfl, _⟩ := h
    rfl
  · obtain ⟨a, c, s, f, h, cl, sv, fr, now, en, v, rfl, ⟨dx, dk, dh, hI⟩, hC, bC, lc, hS, hv, hF, bF, lf, q⟩ := h
    refine ⟨_, pss_one (ps_ret (pe_callD G1 (hr.mono (by decide)) pass0 (pa_cons (pe_ix ix_tup (pe_getS hr.units (pe_fld (pv 0) rfl) (pv 2) (fun _ _ => rfl)) pe_int (fun _ _ => rfl)) (pa_cons (pv 1) (pa_cons (pv 5) (pa_cons (pv 3) (pa_cons (pv 4) pa_nil))))))), ?_⟩
    obtain ⟨kvs, hkd, hkr⟩ := hI.known
    obtain ⟨tt, kk, g1, g2, g3⟩ := (known_get sv hkr).2 v hv
    obtain ⟨vk, vb', vl⟩ := hI.ok.who v (List.mem_of_find?_eq_some hv)
    exact ⟨_, rfl, a, C.House, dx, _, _, rfl, hI.at_, TC.House_cl, TC.House_no_known, hF_known dk dh, _, rfl, dk, s, kvs, sv, _, rfl, rfl, hkd, hS, g1, tt, _, 0, _, rfl, rfl, tup_of g2, atI_nat (j := 0) rfl, _, rfl, _, rfl, _, rfl, _, rfl,
      kk, c, f, v.key, cl, fr, now, en, rfl, g3, vk, hC, bC, lc, hF, bF, lf, q⟩
/-! ### House.asked -/
theorem sc_House_asked : FnScope ["self", "now", "data", "fresh", "client", "service", "nonce", "life", "end", "ticket"] ["self", "now", "data", "fresh"] (defScope s_House_asked) := ⟨rfl, rfl, rfl, by decide +kernel, rfl, by decide +kernel, by decide +kernel⟩
def asks (h : Ql67.House) (now : Nat) (v : List Nat × List Nat × Nat × Nat) (fr : List Nat) : Except Nat (List Nat) := match h.who v.1 with
  | none => .error 2
  | some a => match h.who v.2.1 with
    | none => .error 3
    | some b => if v.2.2.2 = 0 then .error 4 else .ok (Ql67.gives false b a.key ⟨v.1, fr, now, now + min v.2.2.2 (min a.life b.life)⟩ v.2.2.1)
theorem gives_length (more : Bool) (s : Ql67.Who) (k : List Nat) (t : Ql67.Ticket) (n : Nat) : (Ql67.gives more s k t n).length = t.client.length + t.key.length + t.key.length + s.name.length + 63 := by
  unfold Ql67.gives
  show ((if more = true then 4 else 2) :: (Ql67.counted (Ql67.seal_ s.key (Ql67.ticketText t)) ++ Ql67.counted (Ql67.seal_ k (Ql67.partText ⟨t.key, s.name, n, t.start, t.halt_⟩)))).length = _
  rw [List.length_cons, List.length_append, counted_length, counted_length, seal_length, seal_length, partText_eq]
  rw [show Ql67.ticketText t = _ from ticketText_eq t.client t.key t.start t.halt_]
  simp only [List.length_append, named_length, be_length]
  omega
theorem ask_bytes {l : List Nat} {v : List Nat × List Nat × Nat × Nat} (h : askOf l = some v) (hb : Ql67.Bytes l) : (Ql67.Bytes v.1 ∧ v.1.length ≤ 32) ∧ (Ql67.Bytes v.2.1 ∧ v.2.1.length ≤ 32) := by
  unfold askOf at h
  obtain ⟨c, h1, h⟩ := Option.bind_eq_some_iff.mp h
  obtain ⟨k, h2, h⟩ := Option.bind_eq_some_iff.mp h
  obtain ⟨a, _, h⟩ := Option.bind_eq_some_iff.mp h
  obtain ⟨b, _, h⟩ := Option.bind_eq_some_iff.mp h
  obtain ⟨⟨b1, b2⟩, b3⟩ := name_bytes (x := c.1) (s := c.2) h1 hb
  obtain ⟨⟨k1, _⟩, k3⟩ := name_bytes (x := k.1) (s := k.2) h2 b2
  unfold Ql67.ended at h
  split at h
  · injection h with h
    subst h
    exact ⟨⟨b1, b3⟩, k1, k3⟩
  · cases h
theorem min3_eq (a b c : Nat) : (if (c : Int) < (if (b : Int) < (a : Int) then (b : Int) else (a : Int)) then (c : Int) else (if (b : Int) < (a : Int) then (b : Int) else (a : Int))) = ((min a (min b c) : Nat) : Int) := by
  split <;> split at * <;> omega
theorem known_some {K : PySem.W.Frag} {N : Addr} {H : Hp} {h : Ql67.House} {kvs : List (List Key × V)} {n : List Nat} (hr : Paired (WhoRel K N H) h.known kvs) (b : (valV kvs (kN n)).isSome = true) : ∃ v, h.who n = some v := by
  have z := (known_get n hr).1
  rw [b] at z
  exact Option.isSome_iff_exists.mp z.symm
theorem known_none {K : PySem.W.Frag} {N : Addr} {H : Hp} {h : Ql67.House} {kvs : List (List Key × V)} {n : List Nat} (hr : Paired (WhoRel K N H) h.known kvs) (b : (valV kvs (kN n)).isSome = false) : h.who n = none := by
  cases z : h.who n with
  | none => rfl
  | some v =>
    have z2 := (known_get n hr).1
    rw [b] at z2
    have z3 : (h.known.find? fun w => w.name == n) = some v := z
    rw [z3] at z2
    cases z2
def sp_House_asked (P : Program) (w : World) (K : PySem.W.Frag) (C N CR CN : Addr) : Sp := fun vs H Q E => ∃ (a d f : Addr) (h : Ql67.House) (l fr : List Nat) (now : Nat), vs = [.ref a, .int (now : Int), .ref d, .ref f] ∧ HouseAt P w K C N H a h ∧ SqL K H d (vb l) ∧ Ql67.Bytes l ∧ l.length ≤ 5000 ∧ SqL K H f (vb fr) ∧ Ql67.Bytes fr ∧ fr.length = 16 ∧
  (askOf l = none → ∀ H' : Hp, Same H H' → E (.ref CN) none H') ∧
  (∀ v n, askOf l = some v → asks h now v fr = .error n → ∀ H' : Hp, Same H H' → Why E CR n H') ∧
  (∀ v m, askOf l = some v → asks h now v fr = .ok m → m.length ≤ 5000 → outL H Q m)
theorem ok_House_asked {C : Cs} {N f : Addr} {fd : FuncData} (F : Fun K "asked" "House.asked" s_House_asked f fd) (T : Txt K mg) (TC : TxtC K mg C) (G1 : Df P w K mg base (L2.CX P w) 4 "asked_in" ["data"] (sp_asked_in K C.NoMessage))
    (G2 : Df P w K mg base (L2.CX P w) 3 "want" ["truth", "why"] (sp_want C.Refusal)) (G3 : Mt P w K mg base CX0 6 C.House "grant" ["self", "client", "service", "now", "end", "fresh"] (sp_House_grant P w K C.House N))
    (G4 : Df P w K mg base CX0 5 "given_told" ["sort", "ticket", "key", "grant"] (sp_given_told K)) :
    FnOk P w K mg base (L2.CX P w) 7 f fd ["self", "now", "data", "fresh"] (sp_House_asked P w K C.House N C.Refusal C.NoMessage) := by
  refine F.okX sc_House_asked (fun vs H Q E h => ?_) (fun cdv A outer s H vs Q E hr h => ?_)
  · obtain ⟨a, d, f, h, l, fr, now, rfl, _⟩ := h
    rfl
  · obtain ⟨a, d, f, h, l, fr, now, rfl, ⟨dx, dk, dh, hI⟩, hD, bD, ld, hF, bF, lf, kN, kE, kQ⟩ := h
    refine ⟨_, pss_cons (ps_asg (pe_callD G1 (hr.mono (by decide)) passX (pa_cons (pv 2) pa_nil)) (pg_tup rfl (pgs_cons (pg_name (i := 4) sc_House_asked.nd rfl (Or.inl rfl)) (pgs_cons (pg_name (i := 5) sc_House_asked.nd rfl (Or.inl rfl)) (pgs_cons (pg_name (i := 6) sc_House_asked.nd rfl (Or.inl rfl)) (pgs_cons (pg_name (i := 7) sc_House_asked.nd rfl (Or.inl rfl)) pgs_nil))))))
      (pss_cons (ps_expr (pe_callD G2 (hr.mono (by decide)) passX (pa_cons (pe_cmpR (op_inS hr.units) (pv 4) (pe_fld (pv 0) rfl) (by rfl)) (pa_cons (pe_gv T.c_NO_CLIENT) pa_nil))))
      (pss_cons (ps_expr (pe_callD G2 (hr.mono (by decide)) passX (pa_cons (pe_cmpR (op_inS hr.units) (pv 5) (pe_fld (pv 0) rfl) (by rfl)) (pa_cons (pe_gv T.c_NO_SERVICE) pa_nil))))
      (pss_cons (ps_expr (pe_callD G2 (hr.mono (by decide)) passX (pa_cons (pe_cmpR op_gt (pv 7) pe_int (nomark _)) (pa_cons (pe_gv T.c_NO_LIFE) pa_nil))))
      (pss_cons (ps_set (i := 8) sc_House_asked.nd rfl (Or.inl rfl) (pe_op op_add (pv 1) (pe_callB (call_min3 rfl) (by rfl) T.b_min (by decide +kernel) (pa_cons (pv 7) (pa_cons (pe_ix ix_tup (pe_getS hr.units (pe_fld (pv 0) rfl) (pv 4) (fun _ _ => rfl)) pe_int (fun _ _ => rfl)) (pa_cons (pe_ix ix_tup (pe_getS hr.units (pe_fld (pv 0) rfl) (pv 5) (fun _ _ => rfl)) pe_int (fun _ _ => rfl)) pa_nil))))))
      (pss_cons (ps_set (i := 9) sc_House_asked.nd rfl (Or.inl rfl) (pe_methD G3 (pv 0) TC.House_cl (hr.mono (by decide)) pass0 (pa_cons (pv 4) (pa_cons (pv 5) (pa_cons (pv 1) (pa_cons (pv 8) (pa_cons (pv 3) pa_nil)))))))
      (pss_one (ps_ret (pe_callD G4 (hr.mono (by decide)) pass0 (pa_cons (pe_gv T.c_GIVEN) (pa_cons (pv 9) (pa_cons (pe_ix ix_tup (pe_getS hr.units (pe_fld (pv 0) rfl) (pv 4) (fun _ _ => rfl)) pe_int (fun _ _ => rfl)) (pa_cons (pe_tup (pa_cons (pv 3) (pa_cons (pv 5) (pa_cons (pv 6) (pa_cons (pv 1) (pa_cons (pv 8) pa_nil)))))) pa_nil)))))))))))), ?_⟩
    refine ⟨_, rfl, d, l, rfl, hD, ld, kN, fun v hv H1 q a0 a1 s1 n1 o1 o2 o3 => ?_⟩
    obtain ⟨⟨b0, l0⟩, b1, l1⟩ := ask_bytes hv bD
    refine ⟨q, _, rfl, tup_of o1, rfl, _, _, rfl, _, _, rfl, _, _, rfl, _, _, rfl, rfl, ?_⟩
    have hI1 := hI.same s1
    obtain ⟨kvs, hkd, hkr⟩ := hI1.known
    -- want(client in self.known, NO_CLIENT)
    refine ⟨_, rfl, _, rfl, a, C.House, dx, _, _, rfl, hI1.at_, TC.House_cl, TC.House_no_known, hF_known dk dh, a0, dk, kvs, v.1, rfl, rfl, hkd, tup_of o2, _, 2, rfl, fun c1 => ?_, fun c1 H2 s2 => ?_⟩
    case refine_2 =>
      exact kE v 2 hv (by unfold asks; rw [known_none hkr c1]) H2 (s1.trans s2)
    obtain ⟨wc, hc⟩ := known_some hkr c1
    -- want(service in self.known, NO_SERVICE)
    refine ⟨_, rfl, _, rfl, a, C.House, dx, _, _, rfl, hI1.at_, TC.House_cl, TC.House_no_known, hF_known dk dh, a1, dk, kvs, v.2.1, rfl, rfl, hkd, tup_of o3, _, 3, rfl, fun c2 => ?_, fun c2 H2 s2 => ?_⟩
    case refine_2 =>
      exact kE v 3 hv (by unfold asks; rw [hc]; dsimp only; rw [known_none hkr c2]) H2 (s1.trans s2)
    obtain ⟨ws, hs⟩ := known_some hkr c2
    -- want(life > 0, NO_LIFE)
    refine ⟨_, rfl, _, _, rfl, rfl, _, 4, rfl, fun c3 => ?_, fun c3 H2 s2 => ?_⟩
    case refine_2 =>
      have c3' := of_decide_eq_false c3
      exact kE v 4 hv (by unfold asks; rw [hc]; dsimp only; rw [hs]; dsimp only; rw [if_pos (by omega)]) H2 (s1.trans s2)
    have c3' := of_decide_eq_true c3
    obtain ⟨tc, kc, g1, g2, g3⟩ := (known_get v.1 hkr).2 wc hc
    obtain ⟨ts, ks, e1, e2, e3⟩ := (known_get v.2.1 hkr).2 ws hs
    obtain ⟨vk, vb', vl⟩ := hI.ok.who wc (List.mem_of_find?_eq_some hc)
    -- end
    refine ⟨_, rfl, _, rfl, _, rfl, a, C.House, dx, _, _, rfl, hI1.at_, TC.House_cl, TC.House_no_known, hF_known dk dh, _, rfl, dk, a0, kvs, v.1, _, rfl, rfl, hkd, tup_of o2, g1, tc, _, 1, _, rfl, rfl, tup_of g2, atI_nat (j := 1) rfl, ?_⟩
    refine ⟨_, rfl, a, C.House, dx, _, _, rfl, hI1.at_, TC.House_cl, TC.House_no_known, hF_known dk dh, _, rfl, dk, a1, kvs, v.2.1, _, rfl, rfl, hkd, tup_of o3, e1, ts, _, 1, _, rfl, rfl, tup_of e2, atI_nat (j := 1) rfl, _, _, _, rfl, _, _, rfl, rfl, ?_⟩
    rw [min3_eq]
    refine ⟨_, rfl, a, dx, _, rfl, hI1.at_, hF_no dk dh _ (by decide +kernel) (by decide +kernel), _, rfl, _, rfl, _, rfl, _, rfl, _, rfl, a, a0, a1, f, h, v.1, v.2.1, fr, now, now + min v.2.2.2 (min wc.life ws.life), ws, rfl, ⟨dx, dk, dh, hI1⟩, tup_of o2, b0, by omega, tup_of o3, hs, s1.seq hF, bF, lf, fun H2 p2 s2 n2 e2 => ?_⟩
    have hI2 := hI1.same s2
    refine ⟨_, rfl, _, rfl, a, C.House, dx, _, _, rfl, hI2.at_, TC.House_cl, TC.House_no_known, hF_known dk dh, _, rfl, dk, a0, kvs, v.1, _, rfl, rfl, s2 _ _ hkd, tup_of (s2 _ _ o2), g1, tc, _, 0, _, rfl, rfl, tup_of (s2 _ _ g2), atI_nat (j := 0) rfl, _, rfl, _, rfl, _, rfl, _, rfl, _, rfl, (by show 5 ≤ sizeLine; decide), fun p3 n3 => ?_⟩
    generalize hE : upd _ p3 _ = H3
    obtain ⟨s3, e3'⟩ := gen_new hE n3
    clear hE
    have s23 := s2.trans s3
    have eA : asks h now v fr = .ok (Ql67.gives false ws wc.key ⟨v.1, fr, now, now + min v.2.2.2 (min wc.life ws.life)⟩ v.2.2.1) := by
      unfold asks
      rw [hc]
      dsimp only
      rw [hs]
      dsimp only
      rw [if_neg (by omega)]
    have en : ws.name = v.2.1 := by simpa using List.find?_some hs
    refine ⟨2, p2, kc, p3, f, a1, _, wc.key, ⟨fr, ws.name, v.2.2.1, now, now + min v.2.2.2 (min wc.life ws.life)⟩, rfl, lst_of (s3 _ _ e2), ?_, s23.seq g3, vk, tup_of e3', (s1.trans s23).seq hF, bF, lf, ?_, ?_, ?_, fun H4 p4 s4 n4 e4 => kQ v _ hv eA (by rw [gives_length, en]; show v.1.length + fr.length + fr.length + v.2.1.length + 63 ≤ 5000; omega) H4 p4 (s1.trans (s23.trans s4)) ((s1.trans s23).free n4) e4⟩
    · rw [seal_length, ticketText_eq, List.length_append, List.length_append, List.length_append, named_length, be_length, be_length]
      omega
    · rw [en]
      exact tup_of (s23 _ _ o3)
    · rw [en]
      exact b1
    · rw [en]
      show v.2.1.length ≤ 64
      omega
/-! ### House.more_asked -/
theorem sc_House_more_asked : FnScope ["self", "now", "data", "fresh", "ticket", "proof", "service", "nonce", "life", "client", "key", "last", "end", "more"] ["self", "now", "data", "fresh"] (defScope s_House_more_asked) := ⟨rfl, rfl, rfl, by decide +kernel, rfl, by decide +kernel, by decide +kernel⟩
def mores (h : Ql67.House) (now : Nat) (v : List Nat × List Nat × List Nat × Nat × Nat) (fr : List Nat) : Ql67.House × Except Nat (List Nat) := match h.who v.2.2.1 with
  | none => (h, .error 3)
  | some b => if v.2.2.2.2 = 0 then (h, .error 4) else match h.lets now Ql67.KEYS v.1 v.2.1 with
    | (g, .error n) => (g, .error n)
    | (g, .ok t) => (g, .ok (Ql67.gives true b t.key ⟨t.client, fr, now, min t.halt_ (now + min v.2.2.2.2 b.life)⟩ v.2.2.2.1))
theorem more_bytes {l : List Nat} {v : List Nat × List Nat × List Nat × Nat × Nat} (h : moreOf l = some v) (hb : Ql67.Bytes l) : (Ql67.Bytes v.1 ∧ v.1.length ≤ l.length) ∧ (Ql67.Bytes v.2.1 ∧ v.2.1.length ≤ l.length) ∧ (Ql67.Bytes v.2.2.1 ∧ v.2.2.1.length ≤ 32) := by
  unfold moreOf at h
  obtain ⟨c, h1, h⟩ := Option.bind_eq_some_iff.mp h
  obtain ⟨k, h2, h⟩ := Option.bind_eq_some_iff.mp h
  obtain ⟨m, h3, h⟩ := Option.bind_eq_some_iff.mp h
  obtain ⟨a, _, h⟩ := Option.bind_eq_some_iff.mp h
  obtain ⟨b, _, h⟩ := Option.bind_eq_some_iff.mp h
  obtain ⟨⟨b1, b2⟩, b3, b4⟩ := counted_bytes (x := c.1) (s := c.2) h1 hb
  obtain ⟨⟨k1, k2⟩, k3, k4⟩ := counted_bytes (x := k.1) (s := k.2) h2 b2
  obtain ⟨⟨m1, _⟩, m3⟩ := name_bytes (x := m.1) (s := m.2) h3 k2
  unfold Ql67.ended at h
  split at h
  · injection h with h
    subst h
    exact ⟨⟨b1, b3⟩, ⟨k1, by show k.1.length ≤ l.length; omega⟩, m1, m3⟩
  · cases h
theorem lets_known (h : Ql67.House) (now : Nat) (sv t p : List Nat) : (h.lets now sv t p).1.known = h.known := by
  unfold Ql67.House.lets
  split
  · rfl
  · split
    · rfl
    · split
      · rfl
      · split
        · rfl
        · dsimp only
          split
          · rfl
          · split <;> rfl
theorem min2_eq (a b : Nat) : (if (b : Int) < (a : Int) then (b : Int) else (a : Int)) = ((min a b : Nat) : Int) := by
  split <;> omega
def sp_House_more_asked (P : Program) (w : World) (K : PySem.W.Frag) (C N CR CN : Addr) : Sp := fun vs H Q E => ∃ (a d f : Addr) (h : Ql67.House) (l fr : List Nat) (now : Nat), vs = [.ref a, .int (now : Int), .ref d, .ref f] ∧ HouseAt P w K C N H a h ∧ SqL K H d (vb l) ∧ Ql67.Bytes l ∧ l.length ≤ 5000 ∧ SqL K H f (vb fr) ∧ Ql67.Bytes fr ∧ fr.length = 16 ∧
  (moreOf l = none → ∀ H' : Hp, Same H H' → E (.ref CN) none H') ∧
  (∀ v g n, moreOf l = some v → mores h now v fr = (g, .error n) → ∀ H' : Hp, KeepS H H' → HouseAt P w K C N H' a g → Why E CR n H') ∧
  (∀ v g m, moreOf l = some v → mores h now v fr = (g, .ok m) → m.length ≤ 5000 → ∀ (H' : Hp) (p : Addr), KeepS H H' → HouseAt P w K C N H' a g → H' p = some (.lst (vb m)) → Q (.ref p) H')
theorem ok_House_more_asked {C : Cs} {N f : Addr} {fd : FuncData} (F : Fun K "more_asked" "House.more_asked" s_House_more_asked f fd) (T : Txt K mg) (TC : TxtC K mg C) (G1 : Df P w K mg base (L2.CX P w) 4 "more_asked_in" ["data"] (sp_more_asked_in K C.NoMessage))
    (G2 : Df P w K mg base (L2.CX P w) 3 "want" ["truth", "why"] (sp_want C.Refusal)) (G3 : Mt P w K mg base CX0 6 C.House "grant" ["self", "client", "service", "now", "end", "fresh"] (sp_House_grant P w K C.House N))
    (G4 : Df P w K mg base CX0 5 "given_told" ["sort", "ticket", "key", "grant"] (sp_given_told K)) (G5 : Mt P w K mg base (L2.CX P w) 6 C.House "let_in" ["self", "service", "ticket", "proof", "now"] (sp_House_let_in P w K C.House N C.Refusal)) :
    FnOk P w K mg base (L2.CX P w) 7 f fd ["self", "now", "data", "fresh"] (sp_House_more_asked P w K C.House N C.Refusal C.NoMessage) := by
  obtain ⟨ah, mh, th⟩ := T.c_HOUSE
  refine F.okX sc_House_more_asked (fun vs H Q E h => ?_) (fun cdv A outer s H vs Q E hr h => ?_)
  · obtain ⟨a, d, f, h, l, fr, now, rfl, _⟩ := h
    rfl
  · obtain ⟨a, d, f, h, l, fr, now, rfl, ⟨dx, dk, dh, hI⟩, hD, bD, ld, hF, bF, lf, kN, kE, kQ⟩ := h
    refine ⟨_, pss_cons (ps_asg (pe_callD G1 (hr.mono (by decide)) passX (pa_cons (pv 2) pa_nil)) (pg_tup rfl (pgs_cons (pg_name (i := 4) sc_House_more_asked.nd rfl (Or.inl rfl)) (pgs_cons (pg_name (i := 5) sc_House_more_asked.nd rfl (Or.inl rfl)) (pgs_cons (pg_name (i := 6) sc_House_more_asked.nd rfl (Or.inl rfl)) (pgs_cons (pg_name (i := 7) sc_House_more_asked.nd rfl (Or.inl rfl)) (pgs_cons (pg_name (i := 8) sc_House_more_asked.nd rfl (Or.inl rfl)) pgs_nil)))))))
      (pss_cons (ps_expr (pe_callD G2 (hr.mono (by decide)) passX (pa_cons (pe_cmpR (op_inS hr.units) (pv 6) (pe_fld (pv 0) rfl) (by rfl)) (pa_cons (pe_gv T.c_NO_SERVICE) pa_nil))))
      (pss_cons (ps_expr (pe_callD G2 (hr.mono (by decide)) passX (pa_cons (pe_cmpR op_gt (pv 8) pe_int (nomark _)) (pa_cons (pe_gv T.c_NO_LIFE) pa_nil))))
      (pss_cons (ps_asg (pe_methD G5 (pv 0) TC.House_cl (hr.mono (by decide)) passX (pa_cons (pe_gv (v := .ref ah) ⟨_, mh, rfl⟩) (pa_cons (pv 4) (pa_cons (pv 5) (pa_cons (pv 1) pa_nil))))) (pg_tup rfl (pgs_cons (pg_name (i := 9) sc_House_more_asked.nd rfl (Or.inl rfl)) (pgs_cons (pg_name (i := 10) sc_House_more_asked.nd rfl (Or.inl rfl)) (pgs_cons (pg_name (i := 11) sc_House_more_asked.nd rfl (Or.inl rfl)) pgs_nil)))))
      (pss_cons (ps_set (i := 12) sc_House_more_asked.nd rfl (Or.inl rfl) (pe_callB (call_min2 rfl) (by rfl) T.b_min (by decide +kernel) (pa_cons (pv 11) (pa_cons (pe_op op_add (pv 1) (pe_callB (call_min2 rfl) (by rfl) T.b_min (by decide +kernel) (pa_cons (pv 8) (pa_cons (pe_ix ix_tup (pe_getS hr.units (pe_fld (pv 0) rfl) (pv 6) (fun _ _ => rfl)) pe_int (fun _ _ => rfl)) pa_nil)))) pa_nil))))
      (pss_cons (ps_set (i := 13) sc_House_more_asked.nd rfl (Or.inl rfl) (pe_methD G3 (pv 0) TC.House_cl (hr.mono (by decide)) pass0 (pa_cons (pv 9) (pa_cons (pv 6) (pa_cons (pv 1) (pa_cons (pv 12) (pa_cons (pv 3) pa_nil)))))))
      (pss_one (ps_ret (pe_callD G4 (hr.mono (by decide)) pass0 (pa_cons (pe_gv T.c_MORE_GIVEN) (pa_cons (pv 13) (pa_cons (pv 10) (pa_cons (pe_tup (pa_cons (pv 3) (pa_cons (pv 6) (pa_cons (pv 7) (pa_cons (pv 1) (pa_cons (pv 12) pa_nil)))))) pa_nil)))))))))))), ?_⟩
    refine ⟨_, rfl, d, l, rfl, hD, ld, kN, fun v hv H1 q a0 a1 a2 s1 n1 o1 o2 o3 o4 => ?_⟩
    obtain ⟨⟨b0, l0⟩, ⟨b1, l1⟩, b2, l2⟩ := more_bytes hv bD
    refine ⟨q, _, rfl, tup_of o1, rfl, _, _, rfl, _, _, rfl, _, _, rfl, _, _, rfl, _, _, rfl, rfl, ?_⟩
    have hI1 := hI.same s1
    obtain ⟨kvs, hkd, hkr⟩ := hI1.known
    -- want(service in self.known, NO_SERVICE)
    refine ⟨_, rfl, _, rfl, a, C.House, dx, _, _, rfl, hI1.at_, TC.House_cl, TC.House_no_known, hF_known dk dh, a2, dk, kvs, v.2.2.1, rfl, rfl, hkd, tup_of o4, _, 3, rfl, fun c2 => ?_, fun c2 H2 s2 => ?_⟩
    case refine_2 =>
      exact kE v h 3 hv (by unfold mores; rw [known_none hkr c2]) H2 (KeepS.of (s1.trans s2)) ⟨dx, dk, dh, hI1.same s2⟩
    obtain ⟨ws, hs⟩ := known_some hkr c2
    -- want(life > 0, NO_LIFE)
    refine ⟨_, rfl, _, _, rfl, rfl, _, 4, rfl, fun c3 => ?_, fun c3 H2 s2 => ?_⟩
    case refine_2 =>
      have c3' := of_decide_eq_false c3
      exact kE v h 4 hv (by unfold mores; rw [hs]; dsimp only; rw [if_pos (by omega)]) H2 (KeepS.of (s1.trans s2)) ⟨dx, dk, dh, hI1.same s2⟩
    have c3' := of_decide_eq_true c3
    have c3n : ¬ v.2.2.2.2 = 0 := by omega
    -- let_in
    refine ⟨_, rfl, a, dx, _, rfl, hI1.at_, hF_no dk dh _ (by decide +kernel) (by decide +kernel), _, rfl, _, rfl, _, rfl, a, ah, a0, a1, h, Ql67.KEYS, v.1, v.2.1, now, rfl, ⟨dx, dk, dh, hI1⟩, th H1, lst_of o2, b0, by omega, lst_of o3, b1, by omega, fun g n eg H2 k2 hh2 => ?_, fun g x eg H2 q2 c2 kk k2 hh2 o5 o6 o7 lx bx bc lc => ?_⟩
    · refine kE v g n hv ?_ H2 ((KeepS.of s1).trans k2) hh2
      unfold mores
      rw [hs]
      dsimp only
      rw [if_neg c3n, eg]
    refine ⟨q2, _, rfl, tup_of o5, rfl, _, _, rfl, _, _, rfl, _, _, rfl, rfl, ?_⟩
    have gk : g.known = h.known := by
      have z := lets_known h now Ql67.KEYS v.1 v.2.1
      rw [eg] at z
      exact z
    have hs' : g.who v.2.2.1 = some ws := by
      have z : (g.known.find? fun w => w.name == v.2.2.1) = some ws := by
        rw [gk]
        exact hs
      exact z
    obtain ⟨dx2, dk2, dh2, hI2⟩ := hh2
    obtain ⟨kvs2, hkd2, hkr2⟩ := hI2.known
    obtain ⟨ts, ks, e1, e2, e3⟩ := (known_get v.2.2.1 hkr2).2 ws hs'
    have k12 := (KeepS.of s1).trans k2
    have o4' := k2 _ _ o4 trivial
    -- end
    refine ⟨_, rfl, _, rfl, _, rfl, _, rfl, a, C.House, dx2, _, _, rfl, hI2.at_, TC.House_cl, TC.House_no_known, hF_known dk2 dh2, _, rfl, dk2, a2, kvs2, v.2.2.1, _, rfl, rfl, hkd2, tup_of o4', e1, ts, _, 1, _, rfl, rfl, tup_of e2, atI_nat (j := 1) rfl, _, _, rfl, ?_⟩
    rw [min2_eq]
    refine ⟨_, _, rfl, rfl, (x.halt_ : Int), ((now + min v.2.2.2.2 ws.life : Nat) : Int), rfl, ?_⟩
    rw [min2_eq]
    refine ⟨_, rfl, a, dx2, _, rfl, hI2.at_, hF_no dk2 dh2 _ (by decide +kernel) (by decide +kernel), _, rfl, _, rfl, _, rfl, _, rfl, _, rfl, a, c2, a2, f, g, x.client, v.2.2.1, fr, now, min x.halt_ (now + min v.2.2.2.2 ws.life), ws, rfl, ⟨dx2, dk2, dh2, hI2⟩, tup_of o6, bc, by omega, tup_of o4', hs', k12.seq hF, bF, lf, fun H3 p3 s3 n3 e3' => ?_⟩
    have hI3 := hI2.same s3
    refine ⟨_, rfl, _, rfl, _, rfl, _, rfl, _, rfl, _, rfl, _, rfl, (by show 5 ≤ sizeLine; decide), fun p4 n4 => ?_⟩
    generalize hE : upd _ p4 _ = H4
    obtain ⟨s4, e4⟩ := gen_new hE n4
    clear hE
    have s34 := s3.trans s4
    have eA : mores h now v fr = (g, .ok (Ql67.gives true ws x.key ⟨x.client, fr, now, min x.halt_ (now + min v.2.2.2.2 ws.life)⟩ v.2.2.2.1)) := by
      unfold mores
      rw [hs]
      dsimp only
      rw [if_neg c3n, eg]
    have en : ws.name = v.2.2.1 := by simpa using List.find?_some hs
    refine ⟨4, p3, kk, p4, f, a2, _, x.key, ⟨fr, ws.name, v.2.2.2.1, now, min x.halt_ (now + min v.2.2.2.2 ws.life)⟩, rfl, lst_of (s4 _ _ e3'), ?_, lst_of (s34 _ _ o7), lx, tup_of e4, (k12.trans (KeepS.of s34)).seq hF, bF, lf, ?_, ?_, ?_, fun H5 p5 s5 n5 e5 => kQ v g _ hv eA (by rw [gives_length, en]; show x.client.length + fr.length + fr.length + v.2.2.1.length + 63 ≤ 5000; omega) H5 p5 (k12.trans (KeepS.of (s34.trans s5))) ⟨dx2, dk2, dh2, hI2.same (s34.trans s5)⟩ e5⟩
    · rw [seal_length, ticketText_eq, List.length_append, List.length_append, List.length_append, named_length, be_length, be_length]
      omega
    · rw [en]
      exact tup_of (s34 _ _ o4')
    · rw [en]
      exact b2
    · rw [en]
      show v.2.2.1.length ≤ 64
      omega
/-! ### House.told -/
theorem sc_House_told : FnScope ["self", "now", "message", "fresh", "e"] ["self", "now", "message", "fresh"] (defScope s_House_told) := ⟨rfl, rfl, rfl, by decide +kernel, rfl, by decide +kernel, by decide +kernel⟩
theorem msg_one (r : List Nat) : Ql67.msgOf (1 :: r) = (askOf r).map fun v => .asked v.1 v.2.1 v.2.2.1 v.2.2.2 := by
  show ((Ql67.takeName r).bind fun c => (Ql67.takeName c.2).bind fun s => (Ql67.takeNum 8 s.2).bind fun n => (Ql67.takeNum 4 n.2).bind fun f => Ql67.ended (Ql67.Msg.asked c.1 s.1 n.1 f.1, f.2)) = _
  unfold askOf
  cases Ql67.takeName r with
  | none => rfl
  | some c =>
    dsimp only [Option.bind]
    cases Ql67.takeName c.2 with
    | none => rfl
    | some k =>
      dsimp only
      cases Ql67.takeNum 8 k.2 with
      | none => rfl
      | some m =>
        dsimp only
        cases Ql67.takeNum 4 m.2 with
        | none => rfl
        | some f =>
          dsimp only
          unfold Ql67.ended
          dsimp only
          split <;> rfl
theorem msg_three (r : List Nat) : Ql67.msgOf (3 :: r) = (moreOf r).map fun v => .more v.1 v.2.1 v.2.2.1 v.2.2.2.1 v.2.2.2.2 := by
  show ((Ql67.takeCounted r).bind fun t => (Ql67.takeCounted t.2).bind fun p => (Ql67.takeName p.2).bind fun s => (Ql67.takeNum 8 s.2).bind fun n => (Ql67.takeNum 4 n.2).bind fun f => Ql67.ended (Ql67.Msg.more t.1 p.1 s.1 n.1 f.1, f.2)) = _
  unfold moreOf
  cases Ql67.takeCounted r with
  | none => rfl
  | some c =>
    dsimp only [Option.bind]
    cases Ql67.takeCounted c.2 with
    | none => rfl
    | some k =>
      dsimp only
      cases Ql67.takeName k.2 with
      | none => rfl
      | some s =>
        dsimp only
        cases Ql67.takeNum 8 s.2 with
        | none => rfl
        | some m =>
          dsimp only
          cases Ql67.takeNum 4 m.2 with
          | none => rfl
          | some f =>
            dsimp only
            unfold Ql67.ended
            dsimp only
            split <;> rfl
section
variable {h : Ql67.House} {now : Nat} {r fr : List Nat}
theorem ans_ask_no (e : askOf r = none) : h.answer now (1 :: r) fr = (h, [9, 1]) := by
  unfold Ql67.House.answer
  rw [msg_one, e]
  rfl
theorem ans_ask {v : List Nat × List Nat × Nat × Nat} (e : askOf r = some v) : h.answer now (1 :: r) fr = (h, match asks h now v fr with
  | .error n => [9, n]
  | .ok m => m) := by
  unfold Ql67.House.answer
  rw [msg_one, e]
  dsimp only [Option.map]
  unfold asks
  cases h.who v.1 with
  | none => rfl
  | some a =>
    dsimp only
    cases h.who v.2.1 with
    | none => rfl
    | some b =>
      dsimp only
      by_cases z : v.2.2.2 = 0
      · rw [if_pos z, if_pos z]
        rfl
      · rw [if_neg z, if_neg z]
theorem ans_more_no (e : moreOf r = none) : h.answer now (3 :: r) fr = (h, [9, 1]) := by
  unfold Ql67.House.answer
  rw [msg_three, e]
  rfl
theorem ans_more {v : List Nat × List Nat × List Nat × Nat × Nat} (e : moreOf r = some v) : h.answer now (3 :: r) fr = ((mores h now v fr).1, match (mores h now v fr).2 with
  | .error n => [9, n]
  | .ok m => m) := by
  unfold Ql67.House.answer
  rw [msg_three, e]
  dsimp only [Option.map]
  unfold mores
  cases h.who v.2.2.1 with
  | none => rfl
  | some b =>
    dsimp only
    by_cases z : v.2.2.2.2 = 0
    · rw [if_pos z, if_pos z]
      rfl
    · rw [if_neg z, if_neg z]
      rcases h.lets now Ql67.KEYS v.1 v.2.1 with ⟨g, n | t⟩ <;> rfl
theorem asked_head {l c s : List Nat} {n f : Nat} (h : Ql67.msgOf l = some (.asked c s n f)) : ∃ r, l = 1 :: r := by
  unfold Ql67.msgOf at h
  split at h
  · exact ⟨_, rfl⟩
  all_goals exfalso
  all_goals first
    | (cases h; done)
    | (obtain ⟨_, _, h⟩ := Option.bind_eq_some_iff.mp h; obtain ⟨_, _, h⟩ := Option.bind_eq_some_iff.mp h; unfold Ql67.ended at h; split at h <;> cases h; done)
    | (obtain ⟨_, _, h⟩ := Option.bind_eq_some_iff.mp h; obtain ⟨_, _, h⟩ := Option.bind_eq_some_iff.mp h; obtain ⟨_, _, h⟩ := Option.bind_eq_some_iff.mp h; obtain ⟨_, _, h⟩ := Option.bind_eq_some_iff.mp h; obtain ⟨_, _, h⟩ := Option.bind_eq_some_iff.mp h; unfold Ql67.ended at h; split at h <;> cases h; done)
theorem more_head {l t p s : List Nat} {n f : Nat} (h : Ql67.msgOf l = some (.more t p s n f)) : ∃ r, l = 3 :: r := by
  unfold Ql67.msgOf at h
  split at h
  case h_3 => exact ⟨_, rfl⟩
  all_goals exfalso
  all_goals first
    | (cases h; done)
    | (obtain ⟨_, _, h⟩ := Option.bind_eq_some_iff.mp h; obtain ⟨_, _, h⟩ := Option.bind_eq_some_iff.mp h; unfold Ql67.ended at h; split at h <;> cases h; done)
    | (obtain ⟨_, _, h⟩ := Option.bind_eq_some_iff.mp h; obtain ⟨_, _, h⟩ := Option.bind_eq_some_iff.mp h; obtain ⟨_, _, h⟩ := Option.bind_eq_some_iff.mp h; obtain ⟨_, _, h⟩ := Option.bind_eq_some_iff.mp h; unfold Ql67.ended at h; split at h <;> cases h; done)
theorem ans_other {b : Nat} (h1 : b ≠ 1) (h3 : b ≠ 3) : h.answer now (b :: r) fr = (h, [9, 1]) := by
  unfold Ql67.House.answer
  split
  · rename_i e
    obtain ⟨r', e'⟩ := asked_head e
    injection e' with e1 _
    exact absurd e1 h1
  · rename_i e
    obtain ⟨r', e'⟩ := more_head e
    injection e' with e1 _
    exact absurd e1 h3
  · rfl
end
def sp_House_told (P : Program) (w : World) (K : PySem.W.Frag) (C N : Addr) : Sp := fun vs H Q _ => ∃ (a d f : Addr) (h : Ql67.House) (l fr : List Nat) (now : Nat), vs = [.ref a, .int (now : Int), .ref d, .ref f] ∧ HouseAt P w K C N H a h ∧ SqL K H d (vb l) ∧ Ql67.Bytes l ∧ l.length ≤ 5000 ∧ SqL K H f (vb fr) ∧ Ql67.Bytes fr ∧ fr.length = 16 ∧
  ∀ (H' : Hp) (p : Addr), KeepS H H' → HouseAt P w K C N H' a (h.answer now l fr).1 → H' p = some (.lst (vb (h.answer now l fr).2)) → (h.answer now l fr).2.length ≤ 5000 → Q (.ref p) H'
theorem ok_House_told {C : Cs} {N f : Addr} {fd : FuncData} (F : Fun K "told" "House.told" s_House_told f fd) (T : Txt K mg) (TC : TxtC K mg C) (G1 : Df P w K mg base (L2.CX P w) 3 "want" ["truth", "why"] (sp_want C.Refusal))
    (G2 : Mt P w K mg base (L2.CX P w) 7 C.House "asked" ["self", "now", "data", "fresh"] (sp_House_asked P w K C.House N C.Refusal C.NoMessage))
    (G3 : Mt P w K mg base (L2.CX P w) 7 C.House "more_asked" ["self", "now", "data", "fresh"] (sp_House_more_asked P w K C.House N C.Refusal C.NoMessage)) :
    FnOk P w K mg base CX0 8 f fd ["self", "now", "message", "fresh"] (sp_House_told P w K C.House N) := by
  refine F.ok sc_House_told (fun vs H Q E h => ?_) (fun cdv A outer s H vs Q E hr h => ?_)
  · obtain ⟨a, d, f, h, l, fr, now, rfl, _⟩ := h
    rfl
  · obtain ⟨a, d, f, h, l, fr, now, rfl, hh, hD, bD, ld, hF, bF, lf, kQ⟩ := h
    refine ⟨_, pss_one (ps_try_mix (l := [(.ref C.NoMessage, none, fun _ _ _ => tRet (tLst (tCons (tC (.int 9)) (tCons (tC (.int 1)) tNil)))), (.ref C.Refusal, some 4, fun a cls d => tRet (tLst (tCons (tC (.int 9)) (tCons (tXf a cls d C.Refusal "why" (tVar 4)) tNil))))])
      (tb := fun W => tSeq (tDrop (tCallS (sp_want C.Refusal) (WE W) (tCons (tAndV (tOp (rNeD K) (tVar 2) (tLst tNil)) (tOp (rIn K false) (tOp (rIxL K) (tVar 2) (tC (.int 0))) (tTup (tCons (tC (.int 1)) (tCons (tC (.int 3)) tNil))))) (tCons (tC (.int 1)) tNil))))
        (tSeq (tIfS (tTest (tOp rEq (tOp (rIxL K) (tVar 2) (tC (.int 0))) (tC (.int 1)))) (tRet (tMethS C.House "asked" (sp_House_asked P w K C.House N C.Refusal C.NoMessage) (WE W) (tVar 0) (tCons (tVar 1) (tCons (tSl (rSlL K) (tVar 2) (tPart (tC (.int 1))) tNoPart) (tCons (tVar 3) tNil))))) tNext)
          (tRet (tMethS C.House "more_asked" (sp_House_more_asked P w K C.House N C.Refusal C.NoMessage) (WE W) (tVar 0) (tCons (tVar 1) (tCons (tSl (rSlL K) (tVar 2) (tPart (tC (.int 1))) tNoPart) (tCons (tVar 3) tNil)))))))
      (Wout := fun _ _ _ _ => False) rfl rfl takes0
      (fun W pn xe tk _ => pss_cons (ps_expr (pe_callDS G1 (hr.mono (by decide)) (fun σ => passAt tk σ) (pa_cons (pe_and (pe_cmpR (op_neD hr.units) (pv 2) (pe_lst pa_nil) (nomark _)) (pe_one (pe_cmpR op_in_seq (pe_ix ix_list (pv 2) pe_int (fun _ _ => rfl)) (pe_tup (pa_cons (pe_gv T.c_ASKED) (pa_cons (pe_gv T.c_MORE_ASKED) pa_nil))) (by rfl)))) (pa_cons (pe_gv T.c_NO_MESSAGE) pa_nil))))
        (pss_cons (ps_if (pt_cmpR op_eq (pe_ix ix_list (pv 2) pe_int (fun _ _ => rfl)) (pe_gv T.c_ASKED) (nomark _)) (pss_one (ps_ret (pe_methDS G2 (pv 0) TC.House_cl (hr.mono (by decide)) (fun σ => passAt tk σ) (pa_cons (pv 1) (pa_cons (pe_slice (show SlR _ (rSlL K) from sl_list) (pv 2) (po_some pe_int) po_none) (pa_cons (pv 3) pa_nil)))))) pss_nil)
        (pss_one (ps_ret (pe_methDS G3 (pv 0) TC.House_cl (hr.mono (by decide)) (fun σ => passAt tk σ) (pa_cons (pv 1) (pa_cons (pe_slice (show SlR _ (rSlL K) from sl_list) (pv 2) (po_some pe_int) po_none) (pa_cons (pv 3) pa_nil))))))))
      (.cons ⟨rfl, by decide, Or.inl TC.NoMessage_g⟩ (fun _ _ _ _ _ _ _ => pss_one (ps_ret (pe_lst (pa_cons (pe_gv T.c_REFUSED) (pa_cons (pe_gv T.c_NO_MESSAGE) pa_nil)))))
        (.as sc_House_told.nd rfl rfl ⟨rfl, by decide, Or.inl TC.Refusal_g⟩ (fun a oe cls d pn hz hf => pss_one (ps_ret (pe_lst (pa_cons (pe_gv T.c_REFUSED) (pa_cons (pe_xf TC.Refusal_f TC.Refusal_no_why hz hf (pv 4)) pa_nil))))) .nil))), ?_⟩
    have fin : ∀ (H' : Hp) (g : Ql67.House) (m : List Nat), h.answer now l fr = (g, m) → m.length ≤ 5000 → KeepS H H' → HouseAt P w K C.House N H' a g → ∀ p, H' p = none → Q (.ref p) (upd H' p (.lst (vb m))) := by
      intro H' g m e lm k hg p np
      refine kQ _ p (k.trans (KeepS.of (same_upd np))) ?_ ?_ (by rw [e]; exact lm)
      · rw [e]
        exact hg.same (same_upd np)
      · rw [e]
        exact upd_same
    -- what the clauses tell
    have xR : ∀ (H' : Hp) (n : Nat), (∀ p, H' p = none → Q (.ref p) (upd H' p (.lst [.int 9, .int (n : Int)]))) → Why (WE (wMix K (fun _ _ _ _ => False) { nx := fun _ H' => Q .non H', rt := Q } [(.ref C.NoMessage, none, fun _ _ _ => tRet (tLst (tCons (tC (.int 9)) (tCons (tC (.int 1)) tNil)))), (.ref C.Refusal, some 4, fun a cls d => tRet (tLst (tCons (tC (.int 9)) (tCons (tXf a cls d C.Refusal "why" (tVar 4)) tNil))))])
        (L2.start ["self", "now", "message", "fresh", "e"] [.ref a, .int (now : Int), .ref d, .ref f])) C.Refusal n H' := by
      intro H' n q d hd
      refine ⟨false, TC.Refusal_nm, fun z => Bool.noConfusion z, fun _ => ⟨true, TC.Refusal_e, fun _ b nb => ?_, fun z => Bool.noConfusion z⟩⟩
      exact ⟨_, rfl, rfl, rfl, d, _, _, rfl, hd, lk_here, (by show 2 ≤ sizeLine; decide), q⟩
    have xN : ∀ (H' : Hp), (∀ p, H' p = none → Q (.ref p) (upd H' p (.lst [.int 9, .int 1]))) → (WE (wMix K (fun _ _ _ _ => False) { nx := fun _ H' => Q .non H', rt := Q } [(.ref C.NoMessage, none, fun _ _ _ => tRet (tLst (tCons (tC (.int 9)) (tCons (tC (.int 1)) tNil)))), (.ref C.Refusal, some 4, fun a cls d => tRet (tLst (tCons (tC (.int 9)) (tCons (tXf a cls d C.Refusal "why" (tVar 4)) tNil))))])
        (L2.start ["self", "now", "message", "fresh", "e"] [.ref a, .int (now : Int), .ref d, .ref f])) (.ref C.NoMessage) none H' := by
      intro H' q
      exact ⟨true, TC.NoMessage_e, fun _ b nb => ⟨(by show 2 ≤ sizeLine; decide), q⟩, fun z => Bool.noConfusion z⟩
    refine ⟨_, rfl, (by show 0 ≤ sizeLine; decide), fun p0 n0 => ?_⟩
    generalize hE : upd _ p0 _ = H0
    obtain ⟨s0, e0⟩ := gen_new hE n0
    clear hE
    refine ⟨.list (dB l), .list (dB []), .lst (s0.seq hD) (dp_all l), .lst (lst_of e0) .nil, shaped_list l, shaped_list [], _, rfl, ?_⟩
    rw [eqv_list]
    refine ifB (fun c1 => ?_) (fun c1 => ?_)
    case refine_2 =>
      have c1' : l = [] := by simpa using c1
      subst c1'
      exact ⟨_, 1, rfl, fun z => Bool.noConfusion z, fun _ H2 s2 => xR H2 1 (fin H2 h [9, 1] rfl (by show 2 ≤ 5000; decide) (KeepS.of (s0.trans s2)) (hh.same (s0.trans s2)))⟩
    have c1' : l ≠ [] := by simpa using c1
    obtain ⟨b0, r, rfl⟩ : ∃ b0 r, l = b0 :: r := by
      cases l with
      | nil => exact absurd rfl c1'
      | cons b0 r => exact ⟨b0, r, rfl⟩
    have hB1 : Ql67.Bytes r := fun x hx => bD x (List.mem_cons_of_mem _ hx)
    have lr : r.length ≤ 5000 := by
      have : r.length + 1 ≤ 5000 := ld
      omega
    refine ⟨_, rfl, d, _, 0, .int (b0 : Int), rfl, rfl, s0.seq hD, atI_nat (j := 0) (vb_get rfl), (by show 2 ≤ sizeLine; decide), fun p1 n1 => ?_⟩
    generalize hE : upd _ p1 _ = H1
    obtain ⟨s1, e1⟩ := gen_new hE n1
    clear hE
    have s01 := s0.trans s1
    refine ⟨p1, _, rfl, .inr (tup_of e1), rfl, rfl, _, 1, rfl, fun c2 => ?_, fun c2 H2 s2 => ?_⟩
    case refine_2 =>
      refine xR H2 1 (fin H2 h [9, 1] (ans_other ?_ ?_) (by show 2 ≤ 5000; decide) (KeepS.of (s01.trans s2)) (hh.same (s01.trans s2)))
      · intro e
        subst e
        exact Bool.noConfusion c2
      · intro e
        subst e
        exact Bool.noConfusion c2
    have hb0 : b0 = 1 ∨ b0 = 3 := by
      have e : inV (.int (b0 : Int)) [.int 1, .int 3] = (((1 : Int) == (b0 : Int)) || (((3 : Int) == (b0 : Int)) || false)) := rfl
      have c2' : inV (.int (b0 : Int)) [.int 1, .int 3] = true := c2
      rw [e] at c2'
      simp at c2'
      omega
    have ec : cutV (vb (b0 :: r)) (some 1) none = vb r := (cut_from (vb (b0 :: r)) 1).trans rfl
    have hh1 := hh.same s01
    refine ⟨_, rfl, d, _, 0, .int (b0 : Int), rfl, rfl, s01.seq hD, atI_nat (j := 0) (vb_get rfl), rfl, _, rfl, ifB (fun c3 => ?_) (fun c3 => ?_)⟩
    · have c3' := of_decide_eq_true c3
      obtain rfl : b0 = 1 := by
        injection c3' with c3'
        omega
      obtain ⟨dx, dk, dh, hI⟩ := hh1
      refine ⟨_, rfl, a, dx, _, rfl, hI.at_, hF_no dk dh _ (by decide +kernel) (by decide +kernel), _, rfl, _, rfl, _, rfl, d, _, rfl, s01.seq hD, fun p2 n2 => ?_⟩
      generalize hE : upd _ p2 _ = H2
      obtain ⟨s2, e2⟩ := gen_new hE n2
      clear hE
      rw [ec] at e2
      have s02 := s01.trans s2
      refine ⟨_, rfl, a, p2, f, h, r, fr, now, rfl, hh.same s02, lst_of e2, hB1, lr, s02.seq hF, bF, lf, fun e H3 s3 => ?_, fun v n ev ea H3 s3 => ?_, fun v m ev ea lm H3 p3 s3 n3 e3 => ?_⟩
      · exact xN H3 (fin H3 h [9, 1] (ans_ask_no e) (by show 2 ≤ 5000; decide) (KeepS.of (s02.trans s3)) (hh.same (s02.trans s3)))
      · exact xR H3 n (fin H3 h [9, n] (by rw [ans_ask ev, ea]) (by show 2 ≤ 5000; decide) (KeepS.of (s02.trans s3)) (hh.same (s02.trans s3)))
      · have ez : h.answer now (1 :: r) fr = (h, m) := by rw [ans_ask ev, ea]
        rw [ez] at kQ
        exact kQ H3 p3 (KeepS.of (s02.trans s3)) (hh.same (s02.trans s3)) e3 lm
    · obtain rfl : b0 = 3 := by
        rcases hb0 with rfl | rfl
        · cases c3
        · rfl
      obtain ⟨dx, dk, dh, hI⟩ := hh1
      refine ⟨_, rfl, a, dx, _, rfl, hI.at_, hF_no dk dh _ (by decide +kernel) (by decide +kernel), _, rfl, _, rfl, _, rfl, d, _, rfl, s01.seq hD, fun p2 n2 => ?_⟩
      generalize hE : upd _ p2 _ = H2
      obtain ⟨s2, e2⟩ := gen_new hE n2
      clear hE
      rw [ec] at e2
      have s02 := s01.trans s2
      refine ⟨_, rfl, a, p2, f, h, r, fr, now, rfl, hh.same s02, lst_of e2, hB1, lr, s02.seq hF, bF, lf, fun e H3 s3 => ?_, fun v g n ev ea H3 k3 hg => ?_, fun v g m ev ea lm H3 p3 k3 hg e3 => ?_⟩
      · exact xN H3 (fin H3 h [9, 1] (ans_more_no e) (by show 2 ≤ 5000; decide) (KeepS.of (s02.trans s3)) (hh.same (s02.trans s3)))
      · exact xR H3 n (fin H3 g [9, n] (by rw [ans_more ev, ea]) (by show 2 ≤ 5000; decide) ((KeepS.of s02).trans k3) hg)
      · have ez : h.answer now (3 :: r) fr = (g, m) := by rw [ans_more ev, ea]
        rw [ez] at kQ
        exact kQ H3 p3 ((KeepS.of s02).trans k3) hg e3 lm
/-! ### House.answer -/
theorem sc_House_answer : FnScope ["self", "now", "message", "fresh", "found"] ["self", "now", "message", "fresh"] (defScope s_House_answer) := ⟨rfl, rfl, rfl, by decide +kernel, rfl, by decide +kernel, by decide +kernel⟩
/-- an answer as the desk tells it -/
def saysV (x : Ql67.Ans) : List V := .int x.value :: vb x.bytes
def sp_House_answer (P : Program) (w : World) (K : PySem.W.Frag) (C N : Addr) : Sp := fun vs H Q _ => ∃ (a d f : Addr) (h : Ql67.House) (l fr : List Nat) (now : Nat), vs = [.ref a, .int (now : Int), .ref d, .ref f] ∧ HouseAt P w K C N H a h ∧ SqL K H d (vb l) ∧ Ql67.Bytes l ∧ l.length ≤ 100000 ∧ SqL K H f (vb fr) ∧ Ql67.Bytes fr ∧ fr.length = 16 ∧
  ∀ (H' : Hp) (p : Addr), KeepS H H' → HouseAt P w K C N H' a (Ql67.spec h (.answer now l l.length fr)).1 → H' p = some (.lst (saysV (Ql67.spec h (.answer now l l.length fr)).2)) → (Ql67.spec h (.answer now l l.length fr)).2.bytes.length ≤ 5000 → NewS H p → Q (.ref p) H'
theorem spec_answer_no {h : Ql67.House} {now : Nat} {l fr : List Nat} (c : 512 < l.length) : Ql67.spec h (.answer now l l.length fr) = (h, Ql67.only (-2)) := if_pos c
theorem spec_answer {h : Ql67.House} {now : Nat} {l fr : List Nat} (c : ¬ 512 < l.length) : Ql67.spec h (.answer now l l.length fr) = ((h.answer now l fr).1, Ql67.told (h.answer now l fr).2) := if_neg c
theorem ok_House_answer {C : Cs} {N f : Addr} {fd : FuncData} (F : Fun K "answer" "House.answer" s_House_answer f fd) (T : Txt K mg) (TC : TxtC K mg C)
    (G1 : Mt P w K mg base CX0 8 C.House "told" ["self", "now", "message", "fresh"] (sp_House_told P w K C.House N)) :
    FnOk P w K mg base CX0 9 f fd ["self", "now", "message", "fresh"] (sp_House_answer P w K C.House N) := by
  refine F.ok sc_House_answer (fun vs H Q E h => ?_) (fun cdv A outer s H vs Q E hr h => ?_)
  · obtain ⟨a, d, f, h, l, fr, now, rfl, _⟩ := h
    rfl
  · obtain ⟨a, d, f, h, l, fr, now, rfl, hh, hD, bD, ld, hF, bF, lf, kQ⟩ := h
    refine ⟨_, pss_cons (ps_if (pt_cmpR op_gt (pe_callB call_len_seq (by rfl) T.b_len PySem.boot_len (pa_cons (pv 2) pa_nil)) (pe_gv T.c_MOST_MESSAGE) (nomark _)) (pss_one (ps_ret (pe_lst (pa_cons (pe_gv T.c_NOT_AS_TOLD) pa_nil)))) pss_nil)
      (pss_cons (ps_set (i := 4) sc_House_answer.nd rfl (Or.inl rfl) (pe_methD G1 (pv 0) TC.House_cl (hr.mono (by decide)) pass0 (pa_cons (pv 1) (pa_cons (pv 2) (pa_cons (pv 3) pa_nil)))))
      (pss_one (ps_ret (pe_op op_cat (pe_lst (pa_cons (pe_callB call_len_seq (by rfl) T.b_len PySem.boot_len (pa_cons (pv 4) pa_nil)) pa_nil)) (pv 4))))), ?_⟩
    refine ⟨_, rfl, d, _, rfl, .inl hD, _, _, rfl, rfl, _, rfl, ifB (fun c1 => ?_) (fun c1 => ?_)⟩
    · have c1' := of_decide_eq_true c1
      rw [vb_length] at c1'
      have c : 512 < l.length := by omega
      refine ⟨(by show 1 ≤ sizeLine; decide), fun p np => ?_⟩
      rw [spec_answer_no c] at kQ
      exact kQ _ p (KeepS.of (same_upd np)) (hh.same (same_upd np)) upd_same (by show 0 ≤ 5000; decide) (NewS.here np)
    have c1' := of_decide_eq_false c1
    rw [vb_length] at c1'
    have c : ¬ 512 < l.length := by omega
    rw [spec_answer c] at kQ
    obtain ⟨dx, dk, dh, hI⟩ := hh
    refine ⟨_, rfl, a, dx, _, rfl, hI.at_, hF_no dk dh _ (by decide +kernel) (by decide +kernel), _, rfl, _, rfl, _, rfl, a, d, f, h, l, fr, now, rfl, ⟨dx, dk, dh, hI⟩, hD, bD, by omega, hF, bF, lf, fun H1 p1 k1 hh1 e1 lm => ?_⟩
    refine ⟨_, rfl, p1, _, rfl, .inl (lst_of e1), (by show 1 ≤ sizeLine; decide), fun p2 n2 => ?_⟩
    generalize hE : upd _ p2 _ = H2
    obtain ⟨s2, e2⟩ := gen_new hE n2
    clear hE
    refine ⟨_, rfl, p2, p1, _, _, rfl, rfl, e2, s2 _ _ e1, ?_, fun p3 n3 => ?_⟩
    · rw [vb_length]
      exact le_line (by show 1 + (h.answer now l fr).2.length ≤ 100000; omega)
    · refine kQ _ p3 (k1.trans (KeepS.of (s2.trans (same_upd n3)))) (hh1.same (s2.trans (same_upd n3))) (upd_same.trans ?_) lm (NewS.of (k1.trans (KeepS.of s2)) n3)
      rw [vb_length]
      rfl
/-! ### House.shown -/
theorem sc_House_shown : FnScope ["self", "now", "service", "message", "ticket", "proof", "client", "key", "end", "name"] ["self", "now", "service", "message"] (defScope s_House_shown) := ⟨rfl, rfl, rfl, by decide +kernel, rfl, by decide +kernel, by decide +kernel⟩
def shows_ (h : Ql67.House) (now : Nat) (sv l : List Nat) : Ql67.House × Ql67.Ans := match Ql67.msgOf l with
  | some (.shown t p) => if (h.who sv).isNone = true then (h, Ql67.only 3) else match h.lets now sv t p with
    | (g, .error n) => (g, Ql67.only ((n : Nat) : Int))
    | (g, .ok x) => (g, ⟨0, Ql67.named x.client ++ (List.replicate (32 - x.client.length) 0 ++ x.key)⟩)
  | _ => (h, Ql67.only 1)
theorem msg_five (r : List Nat) : Ql67.msgOf (5 :: r) = (twoRows r).map fun v => .shown v.1 v.2 := by
  show ((Ql67.takeCounted r).bind fun t => (Ql67.takeCounted t.2).bind fun p => Ql67.ended (Ql67.Msg.shown t.1 p.1, p.2)) = _
  unfold twoRows
  cases Ql67.takeCounted r with
  | none => rfl
  | some t =>
    dsimp only [Option.bind]
    cases Ql67.takeCounted t.2 with
    | none => rfl
    | some p =>
      dsimp only
      unfold Ql67.ended
      dsimp only
      split <;> rfl
theorem shown_head {l t p : List Nat} (h : Ql67.msgOf l = some (.shown t p)) : ∃ r, l = 5 :: r := by
  unfold Ql67.msgOf at h
  split at h
  case h_5 => exact ⟨_, rfl⟩
  all_goals exfalso
  all_goals first
    | (cases h; done)
    | (obtain ⟨_, _, h⟩ := Option.bind_eq_some_iff.mp h; obtain ⟨_, _, h⟩ := Option.bind_eq_some_iff.mp h; unfold Ql67.ended at h; split at h <;> cases h; done)
    | (obtain ⟨_, _, h⟩ := Option.bind_eq_some_iff.mp h; obtain ⟨_, _, h⟩ := Option.bind_eq_some_iff.mp h; obtain ⟨_, _, h⟩ := Option.bind_eq_some_iff.mp h; obtain ⟨_, _, h⟩ := Option.bind_eq_some_iff.mp h; unfold Ql67.ended at h; split at h <;> cases h; done)
    | (obtain ⟨_, _, h⟩ := Option.bind_eq_some_iff.mp h; obtain ⟨_, _, h⟩ := Option.bind_eq_some_iff.mp h; obtain ⟨_, _, h⟩ := Option.bind_eq_some_iff.mp h; obtain ⟨_, _, h⟩ := Option.bind_eq_some_iff.mp h; obtain ⟨_, _, h⟩ := Option.bind_eq_some_iff.mp h; unfold Ql67.ended at h; split at h <;> cases h; done)
section
variable {h : Ql67.House} {now : Nat} {sv r : List Nat}
theorem shows_other {b : Nat} (h5 : b ≠ 5) : shows_ h now sv (b :: r) = (h, Ql67.only 1) := by
  unfold shows_
  split
  · rename_i e
    obtain ⟨r', e'⟩ := shown_head e
    injection e' with e1 _
    exact absurd e1 h5
  · rfl
theorem shows_no (e : twoRows r = none) : shows_ h now sv (5 :: r) = (h, Ql67.only 1) := by
  unfold shows_
  rw [msg_five, e]
  rfl
theorem shows_yes {v : List Nat × List Nat} (e : twoRows r = some v) : shows_ h now sv (5 :: r) = if (h.who sv).isNone = true then (h, Ql67.only 3) else match h.lets now sv v.1 v.2 with
    | (g, .error n) => (g, Ql67.only ((n : Nat) : Int))
    | (g, .ok x) => (g, ⟨0, Ql67.named x.client ++ (List.replicate (32 - x.client.length) 0 ++ x.key)⟩) := by
  unfold shows_
  rw [msg_five, e]
  rfl
end
def sp_House_shown (P : Program) (w : World) (K : PySem.W.Frag) (C N CR CN : Addr) : Sp := fun vs H Q E => ∃ (a s d : Addr) (h : Ql67.House) (sv l : List Nat) (now : Nat), vs = [.ref a, .int (now : Int), .ref s, .ref d] ∧ HouseAt P w K C N H a h ∧ SqT K H s (vb sv) ∧ SqL K H d (vb l) ∧ Ql67.Bytes l ∧ l.length ≤ 5000 ∧
  (∀ g, shows_ h now sv l = (g, Ql67.only 1) → ∀ H' : Hp, KeepS H H' → HouseAt P w K C N H' a g → E (.ref CN) none H') ∧
  (∀ g (n : Nat), shows_ h now sv l = (g, Ql67.only (n : Int)) → ∀ H' : Hp, KeepS H H' → HouseAt P w K C N H' a g → Why E CR n H') ∧
  (∀ g x, shows_ h now sv l = (g, x) → x.bytes.length ≤ 5000 → ∀ (H' : Hp) (p : Addr), KeepS H H' → HouseAt P w K C N H' a g → H' p = some (.lst (saysV x)) → NewS H p → Q (.ref p) H')
theorem ok_House_shown {C : Cs} {N f : Addr} {fd : FuncData} (F : Fun K "shown" "House.shown" s_House_shown f fd) (T : Txt K mg) (TC : TxtC K mg C) (G1 : Df P w K mg base (L2.CX P w) 4 "two_rows_in" ["data"] (sp_two_rows_in K C.NoMessage))
    (G2 : Df P w K mg base (L2.CX P w) 3 "want" ["truth", "why"] (sp_want C.Refusal)) (G3 : Df P w K mg base CX0 1 "name_told" ["name"] (sp_name_told K))
    (G4 : Mt P w K mg base (L2.CX P w) 6 C.House "let_in" ["self", "service", "ticket", "proof", "now"] (sp_House_let_in P w K C.House N C.Refusal)) :
    FnOk P w K mg base (L2.CX P w) 7 f fd ["self", "now", "service", "message"] (sp_House_shown P w K C.House N C.Refusal C.NoMessage) := by
  refine F.okX sc_House_shown (fun vs H Q E h => ?_) (fun cdv A outer s H vs Q E hr h => ?_)
  · obtain ⟨a, s, d, h, sv, l, now, rfl, _⟩ := h
    rfl
  · obtain ⟨a, s, d, h, sv, l, now, rfl, ⟨dx, dk, dh, hI⟩, hS, hD, bD, ld, kN, kE, kQ⟩ := h
    refine ⟨_, pss_cons (ps_expr (pe_callD G2 (hr.mono (by decide)) passX (pa_cons (pe_and (pe_cmpR (op_neD hr.units) (pv 3) (pe_lst pa_nil) (nomark _)) (pe_one (pe_cmpR op_eq (pe_ix ix_list (pv 3) pe_int (fun _ _ => rfl)) (pe_gv T.c_SHOWN) (nomark _)))) (pa_cons (pe_gv T.c_NO_MESSAGE) pa_nil))))
      (pss_cons (ps_asg (pe_callD G1 (hr.mono (by decide)) passX (pa_cons (pe_slice (show SlR _ (rSlL K) from sl_list) (pv 3) (po_some pe_int) po_none) pa_nil)) (pg_tup rfl (pgs_cons (pg_name (i := 4) sc_House_shown.nd rfl (Or.inl rfl)) (pgs_cons (pg_name (i := 5) sc_House_shown.nd rfl (Or.inl rfl)) pgs_nil))))
      (pss_cons (ps_expr (pe_callD G2 (hr.mono (by decide)) passX (pa_cons (pe_cmpR (op_inS hr.units) (pv 2) (pe_fld (pv 0) rfl) (by rfl)) (pa_cons (pe_gv T.c_NO_SERVICE) pa_nil))))
      (pss_cons (ps_asg (pe_methD G4 (pv 0) TC.House_cl (hr.mono (by decide)) passX (pa_cons (pv 2) (pa_cons (pv 4) (pa_cons (pv 5) (pa_cons (pv 1) pa_nil))))) (pg_tup rfl (pgs_cons (pg_name (i := 6) sc_House_shown.nd rfl (Or.inl rfl)) (pgs_cons (pg_name (i := 7) sc_House_shown.nd rfl (Or.inl rfl)) (pgs_cons (pg_name (i := 8) sc_House_shown.nd rfl (Or.inl rfl)) pgs_nil)))))
      (pss_cons (ps_set (i := 9) sc_House_shown.nd rfl (Or.inl rfl) (pe_callD G3 (hr.mono (by decide)) pass0 (pa_cons (pv 6) pa_nil)))
      (pss_one (ps_ret (pe_op op_cat (pe_op op_cat (pe_op op_cat (pe_lst (pa_cons (pe_gv T.c_DONE) pa_nil)) (pv 9)) (pe_op op_rep (pe_lst (pa_cons pe_int pa_nil)) (pe_op op_sub (pe_gv T.c_CLIENT_BYTES) (pe_callB call_len_seq (by rfl) T.b_len PySem.boot_len (pa_cons (pv 9) pa_nil))))) (pv 7)))))))), ?_⟩
    refine ⟨_, rfl, (by show 0 ≤ sizeLine; decide), fun p0 n0 => ?_⟩
    generalize hE : upd _ p0 _ = H0
    obtain ⟨s0, e0⟩ := gen_new hE n0
    clear hE
    have hI0 := hI.same s0
    refine ⟨.list (dB l), .list (dB []), .lst (s0.seq hD) (dp_all l), .lst (lst_of e0) .nil, shaped_list l, shaped_list [], _, rfl, ?_⟩
    rw [eqv_list]
    refine ifB (fun c1 => ?_) (fun c1 => ?_)
    case refine_2 =>
      have c1' : l = [] := by simpa using c1
      subst c1'
      exact ⟨_, 1, rfl, fun z => Bool.noConfusion z, fun _ H2 s2 => kE h 1 rfl H2 (KeepS.of (s0.trans s2)) ⟨dx, dk, dh, hI0.same s2⟩⟩
    have c1' : l ≠ [] := by simpa using c1
    obtain ⟨b0, r, rfl⟩ : ∃ b0 r, l = b0 :: r := by
      cases l with
      | nil => exact absurd rfl c1'
      | cons b0 r => exact ⟨b0, r, rfl⟩
    have hB1 : Ql67.Bytes r := fun x hx => bD x (List.mem_cons_of_mem _ hx)
    have lr : r.length ≤ 5000 := by
      have : r.length + 1 ≤ 5000 := ld
      omega
    refine ⟨_, rfl, d, _, 0, .int (b0 : Int), rfl, rfl, s0.seq hD, atI_nat (j := 0) (vb_get rfl), rfl, _, 1, rfl, fun c2 => ?_, fun c2 H2 s2 => ?_⟩
    case refine_2 =>
      refine kE h 1 (shows_other ?_) H2 (KeepS.of (s0.trans s2)) ⟨dx, dk, dh, hI0.same s2⟩
      intro e
      subst e
      exact (of_decide_eq_false c2) rfl
    have c2' := of_decide_eq_true c2
    obtain rfl : b0 = 5 := by
      injection c2' with c2'
      omega
    have ec : cutV (vb (5 :: r)) (some 1) none = vb r := (cut_from (vb (5 :: r)) 1).trans rfl
    -- the two rows
    refine ⟨_, rfl, _, rfl, d, _, rfl, s0.seq hD, fun p2 n2 => ?_⟩
    generalize hE : upd _ p2 _ = H2
    obtain ⟨s2, e2⟩ := gen_new hE n2
    clear hE
    rw [ec] at e2
    have s02 := s0.trans s2
    refine ⟨p2, r, rfl, lst_of e2, lr, fun e H3 s3 => kN h (shows_no e) H3 (KeepS.of (s02.trans s3)) ⟨dx, dk, dh, hI0.same (s2.trans s3)⟩, fun v ev H3 q a1 a2 s3 n3 o3 o1 o2 => ?_⟩
    obtain ⟨⟨bt, bp⟩, l1, l2⟩ := two_bytes ev hB1
    refine ⟨q, _, rfl, tup_of o3, rfl, _, _, rfl, _, _, rfl, rfl, ?_⟩
    have s03 := s02.trans s3
    have hI3 := hI0.same (s2.trans s3)
    obtain ⟨kvs, hkd, hkr⟩ := hI3.known
    -- want(service in self.known, NO_SERVICE)
    refine ⟨_, rfl, _, rfl, a, C.House, dx, _, _, rfl, hI3.at_, TC.House_cl, TC.House_no_known, hF_known dk dh, s, dk, kvs, sv, rfl, rfl, hkd, Same.tup s03 hS, _, 3, rfl, fun c3 => ?_, fun c3 H4 s4 => ?_⟩
    case refine_2 =>
      exact kE h 3 (by rw [shows_yes ev, known_none hkr c3]; rfl) H4 (KeepS.of (s03.trans s4)) ⟨dx, dk, dh, hI3.same s4⟩
    obtain ⟨ws, hs⟩ := known_some hkr c3
    -- let_in
    refine ⟨_, rfl, a, dx, _, rfl, hI3.at_, hF_no dk dh _ (by decide +kernel) (by decide +kernel), _, rfl, _, rfl, _, rfl, _, rfl, a, s, a1, a2, h, sv, v.1, v.2, now, rfl, ⟨dx, dk, dh, hI3⟩, Same.tup s03 hS, lst_of o1, bt, by omega, lst_of o2, bp, by omega, fun g n eg H4 k4 hh4 => ?_, fun g x eg H4 q2 c kk k4 hh4 o5 o6 o7 lx bx bc lc => ?_⟩
    · refine kE g n ?_ H4 ((KeepS.of s03).trans k4) hh4
      rw [shows_yes ev, hs, eg]
      rfl
    have eS : shows_ h now sv (5 :: r) = (g, ⟨0, Ql67.named x.client ++ (List.replicate (32 - x.client.length) 0 ++ x.key)⟩) := by
      rw [shows_yes ev, hs, eg]
      rfl
    refine ⟨q2, _, rfl, tup_of o5, rfl, _, _, rfl, _, _, rfl, _, _, rfl, rfl, ?_⟩
    -- name
    refine ⟨_, rfl, c, _, rfl, .inr (tup_of o6), by omega, fun H5 p5 s5 n5 e5 => ?_⟩
    refine ⟨(by show 1 ≤ sizeLine; decide), fun p6 n6 => ?_⟩
    generalize hE : upd _ p6 _ = H6
    obtain ⟨s6, e6⟩ := gen_new hE n6
    clear hE
    refine ⟨_, rfl, p6, p5, _, _, rfl, rfl, e6, s6 _ _ e5, ?_, fun p7 n7 => ?_⟩
    · rw [vb_length, named_length]
      exact le_line (by show 1 + (x.client.length + 1) ≤ 100000; omega)
    generalize hE : upd _ p7 _ = H7
    obtain ⟨s7, e7⟩ := gen_new hE n7
    clear hE
    refine ⟨(by show 1 ≤ sizeLine; decide), fun p8 n8 => ?_⟩
    generalize hE : upd _ p8 _ = H8
    obtain ⟨s8, e8⟩ := gen_new hE n8
    clear hE
    have s68 := s6.trans (s7.trans s8)
    have hnum : (33 : Int) - ((vb (Ql67.named x.client)).length : Nat) = ((32 - x.client.length : Nat) : Int) := by
      rw [vb_length, named_length]
      omega
    refine ⟨_, rfl, p5, _, rfl, .inl (lst_of (s68 _ _ e5)), _, _, rfl, rfl, ?_⟩
    refine ⟨p8, ((32 - x.client.length : Nat) : Int), _, rfl, congrArg V.int hnum, e8, ?_, ?_, ?_, fun p9 n9 => ?_⟩
    · have : (-(2 ^ 63) : Int) = -9223372036854775808 := by decide
      omega
    · have : (2 ^ 63 : Int) = 9223372036854775808 := by decide
      omega
    · rw [Int.toNat_natCast]
      exact le_line (by show 1 * (32 - x.client.length) ≤ 100000; omega)
    rw [Int.toNat_natCast] at *
    generalize hE : upd _ p9 _ = H9
    obtain ⟨s9, e9⟩ := gen_new hE n9
    clear hE
    have er : (List.replicate (32 - x.client.length) [V.int 0]).flatten = vb (List.replicate (32 - x.client.length) 0) := by
      rw [List.flatten_replicate_singleton]
      unfold vb
      rw [List.map_replicate]
      rfl
    rw [er] at e9
    refine ⟨p7, p9, _, _, rfl, rfl, s9 _ _ (s8 _ _ e7), e9, ?_, fun p10 n10 => ?_⟩
    · rw [List.length_append, vb_length, vb_length, List.length_replicate, named_length]
      exact le_line (by show 1 + (x.client.length + 1) + (32 - x.client.length) ≤ 100000; omega)
    generalize hE : upd _ p10 _ = H10
    obtain ⟨s10, e10⟩ := gen_new hE n10
    clear hE
    have s510 := s5.trans (s68.trans (s9.trans s10))
    refine ⟨_, rfl, p10, kk, _, _, rfl, rfl, e10, s510 _ _ o7, ?_, fun p11 n11 => ?_⟩
    · rw [List.length_append, List.length_append, vb_length, vb_length, vb_length, List.length_replicate, named_length, lx]
      exact le_line (by show 1 + (x.client.length + 1) + (32 - x.client.length) + 16 ≤ 100000; omega)
    have s11 := same_upd n11 (o := .lst ([V.int 0] ++ vb (Ql67.named x.client) ++ vb (List.replicate (32 - x.client.length) 0) ++ vb x.key))
    refine kQ g _ eS ?_ _ p11 ((KeepS.of s03).trans (k4.trans (KeepS.of (s510.trans s11)))) (hh4.same (s510.trans s11)) (upd_same.trans ?_) (NewS.of ((KeepS.of s03).trans (k4.trans (KeepS.of s510))) n11)
    · show (Ql67.named x.client ++ (List.replicate (32 - x.client.length) 0 ++ x.key)).length ≤ 5000
      rw [List.length_append, List.length_append, List.length_replicate, named_length, lx]
      omega
    · unfold saysV
      rw [vb_append, vb_append]
      simp only [List.append_assoc, List.singleton_append, List.cons_append, List.nil_append]
/-! ### House.show -/
theorem sc_House_show : FnScope ["self", "now", "name", "message", "e"] ["self", "now", "name", "message"] (defScope s_House_show) := ⟨rfl, rfl, rfl, by decide +kernel, rfl, by decide +kernel, by decide +kernel⟩
theorem spec_show_no {h : Ql67.House} {now : Nat} {nm l : List Nat} (c : 512 < l.length ∨ Ql67.isName nm = false) : Ql67.spec h (.show_ now nm l l.length) = (h, Ql67.only (-2)) := if_pos c
theorem spec_show {h : Ql67.House} {now : Nat} {nm l : List Nat} (c : ¬ (512 < l.length ∨ Ql67.isName nm = false)) : Ql67.spec h (.show_ now nm l l.length) = shows_ h now nm l := if_neg c
def sp_House_show (P : Program) (w : World) (K : PySem.W.Frag) (C N : Addr) : Sp := fun vs H Q _ => ∃ (a n d : Addr) (h : Ql67.House) (nm l : List Nat) (now : Nat), vs = [.ref a, .int (now : Int), .ref n, .ref d] ∧ HouseAt P w K C N H a h ∧ SqL K H n (vb nm) ∧ SqL K H d (vb l) ∧ Ql67.Bytes l ∧ l.length ≤ 100000 ∧
  ∀ (H' : Hp) (p : Addr), KeepS H H' → HouseAt P w K C N H' a (Ql67.spec h (.show_ now nm l l.length)).1 → H' p = some (.lst (saysV (Ql67.spec h (.show_ now nm l l.length)).2)) → (Ql67.spec h (.show_ now nm l l.length)).2.bytes.length ≤ 5000 → NewS H p → Q (.ref p) H'
theorem ok_House_show {C : Cs} {N f : Addr} {fd : FuncData} (F : Fun K "show" "House.show" s_House_show f fd) (T : Txt K mg) (TC : TxtC K mg C) (G1 : Df P w K mg base CX0 2 "is_name" ["row"] (sp_is_name K))
    (G2 : Mt P w K mg base (L2.CX P w) 7 C.House "shown" ["self", "now", "service", "message"] (sp_House_shown P w K C.House N C.Refusal C.NoMessage)) :
    FnOk P w K mg base CX0 8 f fd ["self", "now", "name", "message"] (sp_House_show P w K C.House N) := by
  refine F.ok sc_House_show (fun vs H Q E h => ?_) (fun cdv A outer s H vs Q E hr h => ?_)
  · obtain ⟨a, n, d, h, nm, l, now, rfl, _⟩ := h
    rfl
  · obtain ⟨a, n, d, h, nm, l, now, rfl, hh, hN, hD, bD, ld, kQ⟩ := h
    refine ⟨_, pss_cons (ps_if (PW.pt (pw_or (pt_cmpR op_gt (pe_callB call_len_seq (by rfl) T.b_len PySem.boot_len (pa_cons (pv 3) pa_nil)) (pe_gv T.c_MOST_MESSAGE) (nomark _)) (pw_or1 (pt_not (pt_val (pe_callD G1 (hr.mono (by decide)) pass0 (pa_cons (pv 2) pa_nil))))))) (pss_one (ps_ret (pe_lst (pa_cons (pe_gv T.c_NOT_AS_TOLD) pa_nil)))) pss_nil)
      (pss_one (ps_try_mix (l := [(.ref C.NoMessage, none, fun _ _ _ => tRet (tLst (tCons (tC (.int 1)) tNil))), (.ref C.Refusal, some 4, fun a cls d => tRet (tLst (tCons (tXf a cls d C.Refusal "why" (tVar 4)) tNil)))])
      (tb := fun W => tRet (tMethS C.House "shown" (sp_House_shown P w K C.House N C.Refusal C.NoMessage) (WE W) (tVar 0) (tCons (tVar 1) (tCons (tCB (fun xs H Q => ∃ p ys, xs = [V.ref p] ∧ ((SqL K H p ys ∧ ∀ l, H l = none → Q (.ref l) (upd H l (.tup ys))) ∨ (SqT K H p ys ∧ Q (.ref p) H))) (tCons (tVar 2) tNil)) (tCons (tVar 3) tNil)))))
      (Wout := fun _ _ _ _ => False) rfl rfl takes0
      (fun W pn xe tk _ => pss_one (ps_ret (pe_methDS G2 (pv 0) TC.House_cl (hr.mono (by decide)) (fun σ => passAt tk σ) (pa_cons (pv 1) (pa_cons (pe_callTy call_tuple_of (by rfl) T.b_tuple (by decide +kernel) (pa_cons (pv 2) pa_nil)) (pa_cons (pv 3) pa_nil))))))
      (.cons ⟨rfl, by decide, Or.inl TC.NoMessage_g⟩ (fun _ _ _ _ _ _ _ => pss_one (ps_ret (pe_lst (pa_cons (pe_gv T.c_NO_MESSAGE) pa_nil))))
        (.as sc_House_show.nd rfl rfl ⟨rfl, by decide, Or.inl TC.Refusal_g⟩ (fun a oe cls d pn hz hf => pss_one (ps_ret (pe_lst (pa_cons (pe_xf TC.Refusal_f TC.Refusal_no_why hz hf (pv 4)) pa_nil)))) .nil)))), ?_⟩
    refine ⟨_, rfl, d, _, rfl, .inl hD, _, _, rfl, rfl, _, rfl, ifB (fun c1 => iteT ?_) (fun c1 => ?_)⟩
    · have c1' := of_decide_eq_true c1
      rw [vb_length] at c1'
      rw [spec_show_no (.inl (by omega))] at kQ
      exact ⟨(by show 1 ≤ sizeLine; decide), fun p np => kQ _ p (KeepS.of (same_upd np)) (hh.same (same_upd np)) upd_same (by show 0 ≤ 5000; decide) (NewS.here np)⟩
    have c1' := of_decide_eq_false c1
    rw [vb_length] at c1'
    refine ⟨_, rfl, n, nm, rfl, hN, fun H1 s1 => ⟨_, rfl, ifB (fun c2 => ?_) (fun c2 => ?_)⟩⟩
    · have c2' : Ql67.isName nm = false := by simpa using c2
      rw [spec_show_no (.inr c2')] at kQ
      exact ⟨(by show 1 ≤ sizeLine; decide), fun p np => kQ _ p (KeepS.of (s1.trans (same_upd np))) (hh.same (s1.trans (same_upd np))) upd_same (by show 0 ≤ 5000; decide) (NewS.of (KeepS.of s1) np)⟩
    have c2' : Ql67.isName nm = true := by simpa using c2
    have cc : ¬ (512 < l.length ∨ Ql67.isName nm = false) := by
      intro z
      rcases z with z | z
      · omega
      · rw [c2'] at z
        cases z
    rw [spec_show cc] at kQ
    have fin : ∀ (H' : Hp) (g : Ql67.House) (m : Nat), shows_ h now nm l = (g, Ql67.only (m : Int)) → KeepS H H' → HouseAt P w K C.House N H' a g → ∀ p, H' p = none → Q (.ref p) (upd H' p (.lst [.int (m : Int)])) := by
      intro H' g m e k hg p np
      refine kQ _ p (k.trans (KeepS.of (same_upd np))) ?_ ?_ (by rw [e]; show 0 ≤ 5000; decide) (NewS.of k np)
      · rw [e]
        exact hg.same (same_upd np)
      · rw [e]
        exact upd_same
    obtain ⟨dx, dk, dh, hI⟩ := hh.same s1
    refine ⟨_, rfl, a, dx, _, rfl, hI.at_, hF_no dk dh _ (by decide +kernel) (by decide +kernel), _, rfl, _, rfl, n, _, rfl, .inl ⟨s1.seq hN, fun p2 n2 => ?_⟩⟩
    generalize hE : upd _ p2 _ = H2
    obtain ⟨s2, e2⟩ := gen_new hE n2
    clear hE
    have s12 := s1.trans s2
    refine ⟨_, rfl, a, p2, d, h, nm, l, now, rfl, hh.same s12, tup_of e2, s12.seq hD, bD, by omega, fun g e H3 k3 hg => ?_, fun g m e H3 k3 hg d3 hd => ?_, fun g x e lx H3 p3 k3 hg e3 w3 => ?_⟩
    · exact ⟨true, TC.NoMessage_e, fun _ b nb => ⟨(by show 1 ≤ sizeLine; decide), fin H3 g 1 e ((KeepS.of s12).trans k3) hg⟩, fun z => Bool.noConfusion z⟩
    · refine ⟨false, TC.Refusal_nm, fun z => Bool.noConfusion z, fun _ => ⟨true, TC.Refusal_e, fun _ b nb => ?_, fun z => Bool.noConfusion z⟩⟩
      exact ⟨_, rfl, rfl, rfl, d3, _, _, rfl, hd, lk_here, (by show 1 ≤ sizeLine; decide), fin H3 g m e ((KeepS.of s12).trans k3) hg⟩
    · rw [e] at kQ
      exact kQ H3 p3 ((KeepS.of s12).trans k3) hg e3 lx (NewS.trans (KeepS.of s12) w3)
/-! ### reply -/
theorem sc_reply : FnScope ["house", "kind", "numbers", "rows"] ["house", "kind", "numbers", "rows"] (defScope s_reply) := ⟨rfl, rfl, rfl, by decide +kernel, rfl, by decide +kernel, by decide +kernel⟩
/-- the call of a kind -/
def callN (p x0 : Nat) (x y : List Nat) : Ql67.Call := if p = 1 then .add x y x0 else if p = 2 then .answer x0 x x.length y else .show_ x0 x y y.length
def sp_reply (P : Program) (w : World) (K : PySem.W.Frag) (C : Addr) : Sp := fun vs H Q _ => ∃ (N a n r r0 r1 : Addr) (h : Ql67.House) (p x0 : Nat) (x y : List Nat), vs = [.ref a, .int (p : Int), .ref n, .ref r] ∧ HouseAt P w K C N H a h ∧ SqL K H n [.int (x0 : Int)] ∧ SqL K H r [.ref r0, .ref r1] ∧ SqL K H r0 (vb x) ∧ SqL K H r1 (vb y) ∧
  (p = 1 ∨ p = 2 ∨ p = 3) ∧ (p = 1 → r1 ≠ N ∧ y.length = 16 ∧ Ql67.Bytes y ∧ x0 < 2 ^ 32) ∧ (p = 2 → Ql67.Bytes x ∧ x.length ≤ 100000 ∧ Ql67.Bytes y ∧ y.length = 16) ∧ (p = 3 → Ql67.Bytes y ∧ y.length ≤ 100000) ∧
  ∀ (H' : Hp) (t : Addr), KeepS H H' → HouseAt P w K C N H' a (Ql67.spec h (callN p x0 x y)).1 → H' t = some (.lst (saysV (Ql67.spec h (callN p x0 x y)).2)) → (Ql67.spec h (callN p x0 x y)).2.bytes.length ≤ 5000 → NewS H t → Q (.ref t) H'
theorem add_bytes (h : Ql67.House) (nm key : List Nat) (life : Nat) : (Ql67.spec h (.add nm key life)).2.bytes = [] := by
  by_cases c : Ql67.isName nm = false ∨ life = 0
  · rw [add_no c]
    rfl
  · rw [add_yes c]
    cases Ql67.added h ⟨nm, key, life⟩ <;> rfl
theorem ok_reply {C : Cs} {f : Addr} {fd : FuncData} (F : Fun K "reply" "reply" s_reply f fd) (T : Txt K mg) (TC : TxtC K mg C) (G1 : ∀ N : Addr, Mt P w K mg base CX0 3 C.House "add" ["self", "life", "name", "key"] (sp_House_add P w K C.House N))
    (G2 : ∀ N : Addr, Mt P w K mg base CX0 9 C.House "answer" ["self", "now", "message", "fresh"] (sp_House_answer P w K C.House N)) (G3 : ∀ N : Addr, Mt P w K mg base CX0 8 C.House "show" ["self", "now", "name", "message"] (sp_House_show P w K C.House N)) :
    FnOk P w K mg base CX0 10 f fd ["house", "kind", "numbers", "rows"] (sp_reply P w K C.House) := by
  refine F.ok sc_reply (fun vs H Q E h => ?_) (fun cdv A outer s H vs Q E hr h => ?_)
  · obtain ⟨N, a, n, r, r0, r1, h, p, x0, x, y, rfl, _⟩ := h
    rfl
  · obtain ⟨N, a, n, r, r0, r1, h, p, x0, x, y, rfl, hh, hN, hR, h0, h1, hp, c1, c2, c3, kQ⟩ := h
    refine ⟨_, pss_cons (ps_if (pt_cmpR op_eq (pv 1) (pe_gv T.c_ADD) (nomark _)) (pss_one (ps_ret (pe_lst (pa_cons (pe_methD (G1 N) (pv 0) TC.House_cl (hr.mono (by decide)) pass0 (pa_cons (pe_ix ix_list (pv 2) pe_int (fun _ _ => rfl)) (pa_cons (pe_ix ix_list (pv 3) pe_int (fun _ _ => rfl)) (pa_cons (pe_ix ix_list (pv 3) pe_int (fun _ _ => rfl)) pa_nil)))) pa_nil)))) pss_nil)
      (pss_cons (ps_if (pt_cmpR op_eq (pv 1) (pe_gv T.c_ANSWER) (nomark _)) (pss_one (ps_ret (pe_methD (G2 N) (pv 0) TC.House_cl (hr.mono (by decide)) pass0 (pa_cons (pe_ix ix_list (pv 2) pe_int (fun _ _ => rfl)) (pa_cons (pe_ix ix_list (pv 3) pe_int (fun _ _ => rfl)) (pa_cons (pe_ix ix_list (pv 3) pe_int (fun _ _ => rfl)) pa_nil)))))) pss_nil)
      (pss_one (ps_ret (pe_methD (G3 N) (pv 0) TC.House_cl (hr.mono (by decide)) pass0 (pa_cons (pe_ix ix_list (pv 2) pe_int (fun _ _ => rfl)) (pa_cons (pe_ix ix_list (pv 3) pe_int (fun _ _ => rfl)) (pa_cons (pe_ix ix_list (pv 3) pe_int (fun _ _ => rfl)) pa_nil))))))), ?_⟩
    obtain ⟨dx, dk, dh, hI⟩ := id hh
    refine ⟨_, rfl, rfl, _, rfl, ifB (fun d1 => ?_) (fun d1 => ?_)⟩
    · have d1' := of_decide_eq_true d1
      obtain rfl : p = 1 := by
        injection d1' with d1'
        omega
      obtain ⟨e0, e1, e2, e3⟩ := c1 rfl
      refine ⟨_, rfl, a, dx, _, rfl, hI.at_, hF_no dk dh _ (by decide +kernel) (by decide +kernel), _, rfl, n, _, 0, _, rfl, rfl, hN, atI_nat (j := 0) rfl, _, rfl, r, _, 0, _, rfl, rfl, hR, atI_nat (j := 0) rfl, _, rfl, r, _, 1, _, rfl, rfl, hR, atI_nat (j := 1) rfl,
        a, r0, r1, h, x, y, x0, rfl, hh, h0, h1, e0, e1, e2, e3, fun H1 k1 hh1 => ⟨(by show 1 ≤ sizeLine; decide), fun q nq => ?_⟩⟩
      refine kQ _ q (k1.trans (KeepS.of (same_upd nq))) (hh1.same (same_upd nq)) (upd_same.trans ?_) ?_ (NewS.of k1 nq)
      · show _ = some (HO.lst (.int (Ql67.spec h (.add x y x0)).2.value :: vb (Ql67.spec h (.add x y x0)).2.bytes))
        rw [add_bytes]
        rfl
      · show (Ql67.spec h (.add x y x0)).2.bytes.length ≤ 5000
        rw [add_bytes]
        decide
    refine ⟨_, rfl, rfl, _, rfl, ifB (fun d2 => ?_) (fun d2 => ?_)⟩
    · have d2' := of_decide_eq_true d2
      obtain rfl : p = 2 := by
        injection d2' with d2'
        omega
      obtain ⟨e1, e2, e3, e4⟩ := c2 rfl
      exact ⟨_, rfl, a, dx, _, rfl, hI.at_, hF_no dk dh _ (by decide +kernel) (by decide +kernel), _, rfl, n, _, 0, _, rfl, rfl, hN, atI_nat (j := 0) rfl, _, rfl, r, _, 0, _, rfl, rfl, hR, atI_nat (j := 0) rfl, _, rfl, r, _, 1, _, rfl, rfl, hR, atI_nat (j := 1) rfl,
        a, r0, r1, h, x, y, x0, rfl, hh, h0, e1, e2, h1, e3, e4, kQ⟩
    · obtain rfl : p = 3 := by
        rcases hp with rfl | rfl | rfl
        · cases d1
        · cases d2
        · rfl
      obtain ⟨e1, e2⟩ := c3 rfl
      exact ⟨_, rfl, a, dx, _, rfl, hI.at_, hF_no dk dh _ (by decide +kernel) (by decide +kernel), _, rfl, n, _, 0, _, rfl, rfl, hN, atI_nat (j := 0) rfl, _, rfl, r, _, 0, _, rfl, rfl, hR, atI_nat (j := 0) rfl, _, rfl, r, _, 1, _, rfl, rfl, hR, atI_nat (j := 1) rfl,
        a, r0, r1, h, x, y, x0, rfl, hh, h0, h1, e1, e2, kQ⟩
/-! ### call_at -/
theorem sc_call_at : FnScope ["calls", "at", "kind", "behind", "numbers", "rows", "k", "end"] ["calls", "at"] (defScope s_call_at) := ⟨rfl, rfl, rfl, by decide +kernel, rfl, by decide +kernel, by decide +kernel⟩
theorem shape_cases {p : Int} {n k : Nat} (h : PyQl67.shape p = some (n, k)) : (p = 0 ∧ n = 0 ∧ k = 0) ∨ ((p = 1 ∨ p = 2 ∨ p = 3) ∧ n = 1 ∧ k = 2) := by
  unfold PyQl67.shape at h
  split at h
  · injection h with h
    injection h with h1 h2
    exact .inl ⟨by assumption, h1.symm, h2.symm⟩
  · split at h
    · injection h with h
      injection h with h1 h2
      exact .inr ⟨.inl (by assumption), h1.symm, h2.symm⟩
    · split at h
      · injection h with h
        injection h with h1 h2
        exact .inr ⟨.inr (.inl (by assumption)), h1.symm, h2.symm⟩
      · split at h
        · injection h with h
          injection h with h1 h2
          exact .inr ⟨.inr (.inr (by assumption)), h1.symm, h2.symm⟩
        · cases h
theorem num_at {p : Int} {n k : Nat} (h : PyQl67.shape p = some (n, k)) : atI (vb [0, 1, 1, 1]) p = some (.int (n : Int)) ∧ atI (vb [0, 2, 2, 2]) p = some (.int (k : Int)) := by
  rcases shape_cases h with ⟨rfl, rfl, rfl⟩ | ⟨rfl | rfl | rfl, rfl, rfl⟩
  · exact ⟨atI_nat (j := 0) rfl, atI_nat (j := 0) rfl⟩
  · exact ⟨atI_nat (j := 1) rfl, atI_nat (j := 1) rfl⟩
  · exact ⟨atI_nat (j := 2) rfl, atI_nat (j := 2) rfl⟩
  · exact ⟨atI_nat (j := 3) rfl, atI_nat (j := 3) rfl⟩
theorem row_read {L : List Int} {k : Nat} {n : Int} {x t : List Int} (h : L.drop k = n :: (x ++ t)) : (L.map V.int)[k]? = some (.int n) ∧ L.drop (k + 1 + x.length) = t ∧ k + 1 + x.length ≤ L.length ∧
    ∀ u v : Int, u = ((k + 1 : Nat) : Int) → v = ((k + 1 + x.length : Nat) : Int) → cutV (L.map V.int) (some u) (some v) = x.map V.int := by
  have h0 : L[k]? = some n := by
    have z := List.getElem?_drop (xs := L) (i := k) (j := 0)
    rw [h] at z
    exact z.symm
  have h1 : L.drop (k + 1) = x ++ t := by
    have z : (L.drop k).drop 1 = x ++ t := by
      rw [h]
      rfl
    rw [List.drop_drop] at z
    exact z
  refine ⟨?_, ?_, ?_, ?_⟩
  · rw [List.getElem?_map, h0]
    rfl
  · have z : (L.drop (k + 1)).drop x.length = t := by
      rw [h1]
      exact List.drop_left
    rw [List.drop_drop] at z
    exact z
  · have z := congrArg List.length h
    rw [List.length_drop, List.length_cons, List.length_append] at z
    omega
  · rintro u v rfl rfl
    have e : k + 1 + x.length - (k + 1) = x.length := by omega
    rw [cut_nat, e, ← List.map_drop, ← List.map_take, h1, List.take_left]
theorem putRows_app : ∀ a b : List (List Int), PyFlat.putRows (a ++ b) = PyFlat.putRows a ++ PyFlat.putRows b
  | [], _ => rfl
  | x :: a, b => by
    show PyFlat.putRow x ++ PyFlat.putRows (a ++ b) = (PyFlat.putRow x ++ PyFlat.putRows a) ++ PyFlat.putRows b
    rw [putRows_app a b, List.append_assoc]
theorem rows_drop (pre post : List Int) (p : Int) (a : List Int) (xs : List (List Int)) (i : Nat) : (pre ++ (PyFlat.put1 ((p :: a) :: xs) ++ post)).drop (pre.length + 1 + a.length + (PyFlat.putRows (xs.take i)).length) = PyFlat.putRows (xs.drop i) ++ post := by
  have e : pre ++ (PyFlat.put1 ((p :: a) :: xs) ++ post) = (pre ++ ((p :: a) ++ PyFlat.putRows (xs.take i))) ++ (PyFlat.putRows (xs.drop i) ++ post) := by
    have e1 : PyFlat.putRows xs = PyFlat.putRows (xs.take i) ++ PyFlat.putRows (xs.drop i) := by
      rw [← putRows_app, List.take_append_drop]
    show pre ++ ((p :: a) ++ PyFlat.putRows xs ++ post) = _
    rw [e1]
    simp only [List.append_assoc]
  have l : pre.length + 1 + a.length + (PyFlat.putRows (xs.take i)).length = (pre ++ ((p :: a) ++ PyFlat.putRows (xs.take i))).length := by
    simp only [List.length_append, List.length_cons]
    omega
  rw [e, l]
  exact List.drop_left
theorem rows_more (xs : List (List Int)) (i : Nat) {x : List Int} (h : xs[i]? = some x) : (PyFlat.putRows (xs.take (i + 1))).length = (PyFlat.putRows (xs.take i)).length + 1 + x.length := by
  have e : xs.take (i + 1) = xs.take i ++ [x] := by
    rw [List.take_add_one, h]
    rfl
  rw [e, putRows_app, List.length_append]
  show _ + (PyFlat.putRow x ++ []).length = _
  rw [List.append_nil]
  show _ + (x.length + 1) = _
  omega
def sp_call_at (K : PySem.W.Frag) : Sp := fun vs H Q _ => ∃ (b : Addr) (pre post : List Int) (p : Int) (a : List Int) (xs : List (List Int)), vs = [.ref b, .int (pre.length : Nat)] ∧ SqL K H b ((pre ++ (PyFlat.put1 ((p :: a) :: xs) ++ post)).map V.int) ∧ (pre ++ (PyFlat.put1 ((p :: a) :: xs) ++ post)).length ≤ 16000 ∧ PyQl67.shape p = some (a.length, xs.length) ∧
  ∀ (H' : Hp) (q n r : Addr) (rs : List Addr), Same H H' → H' q = some (.tup [.int p, .ref n, .ref r, .int ((pre.length + (PyFlat.put1 ((p :: a) :: xs)).length : Nat) : Int)]) → H' n = some (.lst (a.map V.int)) → H' r = some (.lst (rs.map V.ref)) → Paired (fun x t => H t = none ∧ H' t = some (.lst (x.map V.int))) xs rs → Q (.ref q) H'
theorem ok_call_at {f : Addr} {fd : FuncData} (F : Fun K "call_at" "call_at" s_call_at f fd) (T : Txt K mg) : FnOk P w K mg base CX0 1 f fd ["calls", "at"] (sp_call_at K) := by
  obtain ⟨aN, mN, tN⟩ := T.c_NUMBERS
  obtain ⟨aR, mR, tR⟩ := T.c_ROWS
  refine F.ok sc_call_at (fun vs H Q E h => ?_) (fun cdv A outer s H vs Q E hr h => ?_)
  · obtain ⟨b, pre, post, p, a, xs, rfl, _⟩ := h
    rfl
  · obtain ⟨b, pre, post, p, a, xs, rfl, hC, hl, hs, kQ⟩ := h
    refine ⟨_, pss_cons (ps_set (i := 2) sc_call_at.nd rfl (Or.inl rfl) (pe_ix ix_list (pv 0) (pv 1) (fun _ _ => rfl)))
      (pss_cons (ps_set (i := 3) sc_call_at.nd rfl (Or.inl rfl) (pe_op op_add (pe_op op_add (pv 1) pe_int) (pe_ix ix_tup (pe_gv (v := .ref aN) ⟨_, mN, rfl⟩) (pv 2) (fun _ _ => rfl))))
      (pss_cons (ps_set (i := 4) sc_call_at.nd rfl (Or.inl rfl) (pe_slice sl_list (pv 0) (po_some (pe_op op_add (pv 1) pe_int)) (po_some (pv 3))))
      (pss_cons (ps_set (i := 5) sc_call_at.nd rfl (Or.inl rfl) (pe_lst pa_nil))
      (pss_cons (ps_for PassesOwn.never rfl (pi_range1 (by rfl) T.b_range (pa_cons (pe_ix ix_tup (pe_gv (v := .ref aR) ⟨_, mR, rfl⟩) (pv 2) (fun _ _ => rfl)) pa_nil)) (pg_name (i := 6) sc_call_at.nd rfl (Or.inl rfl))
        (pss_cons (ps_set (i := 7) sc_call_at.nd rfl (Or.inl rfl) (pe_op op_add (pe_op op_add (pv 3) pe_int) (pe_ix ix_list (pv 0) (pv 3) (fun _ _ => rfl))))
        (pss_cons (ps_expr (pe_bm PySem.F.plainAttrs_list PySem.F.slot_list_append PySem.F.type_list_append mt_append (pv 5) (pa_cons (pe_slice sl_list (pv 0) (po_some (pe_op op_add (pv 3) pe_int)) (po_some (pv 7))) pa_nil)))
        (pss_one (ps_set (i := 3) sc_call_at.nd rfl (Or.inl rfl) (pv 7))))))
      (pss_one (ps_ret (pe_tup (pa_cons (pv 2) (pa_cons (pv 4) (pa_cons (pv 5) (pa_cons (pv 3) pa_nil))))))))))), ?_⟩
    have drop0 : (pre ++ (PyFlat.put1 ((p :: a) :: xs) ++ post)).drop pre.length = p :: (a ++ (PyFlat.putRows xs ++ post)) := by
      rw [List.drop_left]
      show ((p :: a) ++ PyFlat.putRows xs) ++ post = _
      simp only [List.append_assoc, List.cons_append]
    obtain ⟨g0, _, l0, c0⟩ := row_read drop0
    have rd := fun i => rows_drop pre post p a xs i
    generalize hL : pre ++ (PyFlat.put1 ((p :: a) :: xs) ++ post) = L at hC hl drop0 g0 l0 c0 rd
    have lxs : xs.length ≤ 2 := by
      rcases shape_cases hs with ⟨_, _, e⟩ | ⟨_, _, e⟩ <;> omega
    have p62 : (2 ^ 62 : Int) = 4611686018427387904 := by decide
    -- kind, behind, numbers, rows
    refine ⟨_, rfl, _, rfl, b, _, _, _, rfl, rfl, hC, atI_nat (j := pre.length) g0, ?_⟩
    refine ⟨_, rfl, _, _, rfl, rfl, _, rfl, aN, _, _, _, rfl, rfl, tN H, (num_at hs).1, _, _, rfl, rfl, ?_⟩
    refine ⟨_, rfl, _, rfl, _, _, rfl, rfl, _, rfl, _, rfl, _, rfl, b, _, rfl, hC, fun n nn => ?_⟩
    generalize hE : upd _ n _ = H1
    obtain ⟨s1, e1⟩ := gen_new hE nn
    clear hE
    rw [c0 _ _ (by omega) (by omega)] at e1
    refine ⟨(by show 0 ≤ sizeLine; decide), fun r nr => ?_⟩
    generalize hE : upd _ r _ = H2
    obtain ⟨s2, e2⟩ := gen_new hE nr
    clear hE
    refine ⟨_, rfl, aR, _, _, _, rfl, rfl, tR H2, (num_at hs).2, _, rfl, by omega, by omega, ?_⟩
    refine for_it (walk_range (lo := 0) (n := xs.length)) (fun i σ H' => Same H1 H' ∧ (∃ rs : List Addr, H' r = some (.lst (rs.map V.ref)) ∧ Paired (fun x t => (t ≠ r ∧ H t = none) ∧ H' t = some (.lst (x.map V.int))) (xs.take i) rs) ∧
      ∃ v6 v7 : Option V, σ = [some (.ref b), some (.int (pre.length : Nat)), some (.int p), some (.int ((pre.length + 1 + a.length + (PyFlat.putRows (xs.take i)).length : Nat) : Int)), some (.ref n), some (.ref r), v6, v7]) ⟨s2, ⟨[], e2, .nil⟩, none, none, ?_⟩ (fun _ _ _ _ _ => trivial) ?_ ?_
    · have e : (((pre.length : Nat) : Int) + 1 + (a.length : Int)) = ((pre.length + 1 + a.length + (PyFlat.putRows (xs.take 0)).length : Nat) : Int) := by
        show _ = ((pre.length + 1 + a.length + 0 : Nat) : Int)
        omega
      rw [← e]
      rfl
    · rintro i x σ H' H'' hi ⟨s3, ⟨rs, e3, pr⟩, v6, v7, rfl⟩ ⟨rfl, rfl⟩
      obtain ⟨x, hx⟩ : ∃ x, xs[i]? = some x := ⟨_, List.getElem?_eq_getElem hi⟩
      have dx : xs.drop i = x :: xs.drop (i + 1) := by
        have z := List.getElem_cons_drop (as := xs) (i := i) hi
        rw [List.getElem?_eq_getElem hi] at hx
        injection hx with hx
        rw [← z, hx]
      have dr := rd i
      rw [dx] at dr
      have dr' : L.drop (pre.length + 1 + a.length + (PyFlat.putRows (xs.take i)).length) = (x.length : Int) :: (x ++ (PyFlat.putRows (xs.drop (i + 1)) ++ post)) := by
        rw [dr]
        show (PyFlat.putRow x ++ PyFlat.putRows (xs.drop (i + 1))) ++ post = _
        show (((x.length : Int) :: x) ++ PyFlat.putRows (xs.drop (i + 1))) ++ post = _
        simp only [List.append_assoc, List.cons_append]
      obtain ⟨g1, _, l1, c1⟩ := row_read dr'
      have mr := rows_more xs i hx
      have hC3 := (s1.trans s3).seq hC
      -- end
      refine ⟨_, rfl, _, _, rfl, rfl, _, rfl, _, rfl, b, _, _, _, rfl, rfl, hC3, atI_nat g1, _, _, rfl, rfl, ?_⟩
      -- append
      refine ⟨_, rfl, .inl ⟨rfl, _, lst_of e3⟩, ?_⟩
      refine ⟨_, rfl, _, rfl, _, _, rfl, rfl, _, rfl, _, rfl, _, rfl, b, _, rfl, hC3, fun t nt => ?_⟩
      generalize hE : upd _ t _ = H4
      obtain ⟨s4, e4⟩ := gen_new hE nt
      clear hE
      rw [c1 _ _ (by omega) (by omega)] at e4
      have ntr : t ≠ r := fun z => by
        rw [z, e3] at nt
        cases nt
      have lrs : rs.length ≤ 2 := by
        rw [← Paired.length pr, List.length_take]
        omega
      refine ⟨r, _, _, rfl, rfl, s4 _ _ e3, ?_, ?_⟩
      · rw [List.length_map]
        exact lt_line (by omega)
      refine ⟨_, rfl, ?_⟩
      refine ⟨same_set (s3.trans s4) nr, ⟨rs ++ [t], ?_, ?_⟩, ?_⟩
      · rw [upd_same, List.map_append]
        rfl
      · have ex : xs.take (i + 1) = xs.take i ++ [x] := by
          rw [List.take_add_one, hx]
          rfl
        rw [ex]
        refine paired_app ⟨⟨ntr, (s1.trans s3).free nt⟩, ?_⟩ (Paired.imp' (fun y u h => ⟨h.1, ?_⟩) pr)
        · rw [upd_ne ntr]
          exact e4
        · rw [upd_ne h.1.1]
          exact s4 _ _ h.2
      · have e : (((pre.length + 1 + a.length + (PyFlat.putRows (xs.take i)).length : Nat) : Int) + 1 + (x.length : Int)) = ((pre.length + 1 + a.length + (PyFlat.putRows (xs.take (i + 1))).length : Nat) : Int) := by
          rw [mr]
          omega
        rw [← e]
        exact ⟨_, _, rfl⟩
    · rintro σ H' ⟨s3, ⟨rs, e3, pr⟩, v6, v7, rfl⟩
      refine ⟨_, rfl, _, rfl, _, rfl, _, rfl, (by show 4 ≤ sizeLine; decide), fun q nq => ?_⟩
      generalize hE : upd _ q _ = H5
      obtain ⟨s5, e5⟩ := gen_new hE nq
      clear hE
      rw [List.take_length] at e5 pr
      have ep : pre.length + 1 + a.length + (PyFlat.putRows xs).length = pre.length + (PyFlat.put1 ((p :: a) :: xs)).length := by
        show _ = pre.length + ((p :: a) ++ PyFlat.putRows xs).length
        rw [List.length_append, List.length_cons]
        omega
      rw [ep] at e5
      exact kQ H5 q n r rs (s1.trans (s3.trans s5)) e5 (s5 _ _ (s3 _ _ e1)) (s5 _ _ e3) (Paired.imp' (fun y u h => ⟨h.1.2, s5 _ _ h.2⟩) pr)
/-! ### answers -/
theorem sc_answers : FnScope ["calls", "house", "told", "at", "kind", "numbers", "rows", "answer"] ["calls"] (defScope s_answers) := ⟨rfl, rfl, rfl, by decide +kernel, rfl, by decide +kernel, by decide +kernel⟩
/-! the calls -/
def run (h : Ql67.House) (cs : List (List (List Int))) : Ql67.House := cs.foldl (fun h c => (Ql67Neutral.step h (PyQl67.whole c)).1) h
def tells (h : Ql67.House) (cs : List (List (List Int))) : List Int := PyFlat.told (PyFlat.played Ql67Neutral.step h (cs.map PyQl67.whole))
theorem run_more (h : Ql67.House) (l : List (List (List Int))) (c : List (List Int)) : run h (l ++ [c]) = (Ql67Neutral.step (run h l) (PyQl67.whole c)).1 := by
  unfold run
  rw [List.foldl_append]
  rfl
theorem tells_cons (h : Ql67.House) (c : List (List Int)) (l : List (List (List Int))) : tells h (c :: l) = (((Ql67Neutral.step h (PyQl67.whole c)).2.length : Nat) : Int) :: ((Ql67Neutral.step h (PyQl67.whole c)).2 ++ tells (Ql67Neutral.step h (PyQl67.whole c)).1 l) := rfl
theorem tells_more : ∀ (l : List (List (List Int))) (h : Ql67.House) (c : List (List Int)), tells h (l ++ [c]) = tells h l ++ ((((Ql67Neutral.step (run h l) (PyQl67.whole c)).2.length : Nat) : Int) :: (Ql67Neutral.step (run h l) (PyQl67.whole c)).2)
  | [], h, c => by
    show tells h [c] = [] ++ _
    rw [tells_cons, List.nil_append]
    show _ :: (_ ++ []) = _
    rw [List.append_nil]
    rfl
  | d :: l, h, c => by
    have ih := tells_more l (Ql67Neutral.step h (PyQl67.whole d)).1 c
    show tells h (d :: (l ++ [c])) = _
    rw [tells_cons, tells_cons, ih]
    simp only [List.cons_append, List.append_assoc]
    rfl
theorem put_app : ∀ a b : List (List (List Int)), PyFlat.put (a ++ b) = PyFlat.put a ++ PyFlat.put b
  | [], _ => rfl
  | x :: a, b => by
    show PyFlat.put1 x ++ PyFlat.put (a ++ b) = (PyFlat.put1 x ++ PyFlat.put a) ++ PyFlat.put b
    rw [put_app a b, List.append_assoc]
def callsOk (cs : List (List (List Int))) : Prop := ∀ c ∈ cs, PyFlat.okCall PyQl67.shape c ∧ Ql67Neutral.asked1 (PyQl67.whole c) = true
theorem natural_of {z : Int} {k : Nat} (h : Ql67Neutral.natural z k = true) : 0 ≤ z ∧ z < 2 ^ k := by
  unfold Ql67Neutral.natural at h
  rw [Bool.and_eq_true] at h
  exact ⟨of_decide_eq_true h.1, of_decide_eq_true h.2⟩
theorem bytes_of {l : List Int} (h : (l.all fun (z : Int) => Ql67Neutral.natural z 8) = true) : Ql67Neutral.ints (Ql67Neutral.nats l) = l ∧ Ql67.Bytes (Ql67Neutral.nats l) ∧ (Ql67Neutral.nats l).length = l.length := by
  have h' := fun x hx => natural_of (List.all_eq_true.mp h x hx)
  refine ⟨?_, ?_, List.length_map _⟩
  · unfold Ql67Neutral.ints Ql67Neutral.nats
    rw [List.map_map]
    have e : l.map (fun x => x) = l := List.map_id' l
    refine Eq.trans (List.map_congr_left fun x hx => ?_) e
    show ((x.toNat : Nat) : Int) = x
    exact Int.toNat_of_nonneg (h' x hx).1
  · intro b hb
    obtain ⟨x, hx, rfl⟩ := List.mem_map.mp hb
    have z := h' x hx
    have z2 : (2 ^ 8 : Int) = 256 := by decide
    omega
theorem long_of {l : List Int} (h : Ql67Neutral.long l (l.length : Int) 0 512 = true) : l.length ≤ 512 := by
  have h' : (l.length : Int) = if (0 : Int) ≤ (l.length : Int) ∧ (l.length : Int) ≤ 512 then (l.length : Int) else 0 := of_decide_eq_true h
  by_cases c : (0 : Int) ≤ (l.length : Int) ∧ (l.length : Int) ≤ 512
  · omega
  · rw [if_neg c] at h'
    omega
theorem time_of {z : Int} (h : Ql67Neutral.time z = true) : 0 ≤ z := by
  unfold Ql67Neutral.time NeutralIO.within at h
  simp at h
  exact h.1
theorem key_of' {l : List Int} (h : Ql67Neutral.key l = true) : (l.all fun (z : Int) => Ql67Neutral.natural z 8) = true ∧ l.length = 16 := by
  unfold Ql67Neutral.key at h
  rw [Bool.and_eq_true] at h
  exact ⟨h.1, by simpa using h.2⟩
theorem name_of' {l : List Int} (h : Ql67Neutral.name l = true) : (l.all fun (z : Int) => Ql67Neutral.natural z 8) = true := by
  unfold Ql67Neutral.name at h
  rw [Bool.and_eq_true] at h
  exact h.1
theorem and_of {a b : Bool} (h : (a && b) = true) : a = true ∧ b = true := by
  rw [Bool.and_eq_true] at h
  exact h
theorem call_good {c : List (List Int)} (h1 : PyFlat.okCall PyQl67.shape c) (h2 : Ql67Neutral.asked1 (PyQl67.whole c) = true) : c = [[0]] ∨ ∃ (p x0 : Nat) (x y : List Nat), c = [[(p : Int), (x0 : Int)], Ql67Neutral.ints x, Ql67Neutral.ints y] ∧ (p = 1 ∨ p = 2 ∨ p = 3) ∧
    (p = 1 → y.length = 16 ∧ Ql67.Bytes y ∧ x0 < 2 ^ 32) ∧ (p = 2 → Ql67.Bytes x ∧ x.length ≤ 100000 ∧ Ql67.Bytes y ∧ y.length = 16) ∧ (p = 3 → Ql67.Bytes y ∧ y.length ≤ 100000) ∧
    ∀ h : Ql67.House, Ql67Neutral.step h (PyQl67.whole c) = ((Ql67.spec h (callN p x0 x y)).1, (Ql67.spec h (callN p x0 x y)).2.value :: Ql67Neutral.ints (Ql67.spec h (callN p x0 x y)).2.bytes) := by
  obtain ⟨p, a, xs, rfl, hs⟩ := h1
  rcases shape_cases hs with ⟨rfl, ha, hx⟩ | ⟨hp, ha, hx⟩
  · left
    rw [List.eq_nil_of_length_eq_zero ha, List.eq_nil_of_length_eq_zero hx]
  · right
    obtain ⟨z, rfl⟩ : ∃ z, a = [z] := List.length_eq_one_iff.mp ha
    obtain ⟨r0, r1, rfl⟩ : ∃ r0 r1, xs = [r0, r1] := by
      match xs, hx with
      | [r0, r1], _ => exact ⟨r0, r1, rfl⟩
    rcases hp with rfl | rfl | rfl
    · have q : (Ql67Neutral.natural z 32 && (Ql67Neutral.name r0 && Ql67Neutral.key r1)) = true := h2
      obtain ⟨q1, q⟩ := and_of q
      obtain ⟨q2, q3⟩ := and_of q
      obtain ⟨q3, l3⟩ := key_of' q3
      have z1 := natural_of q1
      obtain ⟨e0, b0, l0⟩ := bytes_of (name_of' q2)
      obtain ⟨e1, b1, l1⟩ := bytes_of q3
      have ez : ((z.toNat : Nat) : Int) = z := Int.toNat_of_nonneg z1.1
      have z32 : (2 ^ 32 : Int) = 4294967296 := by decide
      refine ⟨1, z.toNat, Ql67Neutral.nats r0, Ql67Neutral.nats r1, ?_, .inl rfl, fun _ => ⟨by omega, b1, by omega⟩, fun e => absurd e (by decide), fun e => absurd e (by decide), fun h => rfl⟩
      rw [e0, e1, ez]
      rfl
    · have q : (Ql67Neutral.time z && (Ql67Neutral.natural (r0.length : Int) 32 && (((r0.all fun (z : Int) => Ql67Neutral.natural z 8) && Ql67Neutral.long r0 (r0.length : Int) 0 512) && Ql67Neutral.key r1))) = true := h2
      obtain ⟨q1, q⟩ := and_of q
      obtain ⟨_, q⟩ := and_of q
      obtain ⟨q2, q3⟩ := and_of q
      obtain ⟨q2, q4⟩ := and_of q2
      obtain ⟨q3, l3⟩ := key_of' q3
      have z1 := time_of q1
      have l4 := long_of q4
      obtain ⟨e0, b0, l0⟩ := bytes_of q2
      obtain ⟨e1, b1, l1⟩ := bytes_of q3
      have ez : ((z.toNat : Nat) : Int) = z := Int.toNat_of_nonneg z1
      refine ⟨2, z.toNat, Ql67Neutral.nats r0, Ql67Neutral.nats r1, ?_, .inr (.inl rfl), fun e => absurd e (by decide), fun _ => ⟨b0, by omega, b1, by omega⟩, fun e => absurd e (by decide), fun h => ?_⟩
      · rw [e0, e1, ez]
        rfl
      · have el : (Ql67Neutral.nats r0).length = ((r0.length : Nat) : Int).toNat := by rw [l0, Int.toNat_natCast]
        have ec : callN 2 z.toNat (Ql67Neutral.nats r0) (Ql67Neutral.nats r1) = .answer z.toNat (Ql67Neutral.nats r0) ((r0.length : Nat) : Int).toNat (Ql67Neutral.nats r1) := by
          rw [← el]
          rfl
        rw [ec]
        rfl
    · have q : (Ql67Neutral.time z && (Ql67Neutral.natural (r1.length : Int) 32 && (Ql67Neutral.name r0 && ((r1.all fun (z : Int) => Ql67Neutral.natural z 8) && Ql67Neutral.long r1 (r1.length : Int) 0 512)))) = true := h2
      obtain ⟨q1, q⟩ := and_of q
      obtain ⟨_, q⟩ := and_of q
      obtain ⟨q2, q3⟩ := and_of q
      obtain ⟨q3, q4⟩ := and_of q3
      have z1 := time_of q1
      have l4 := long_of q4
      obtain ⟨e0, b0, l0⟩ := bytes_of (name_of' q2)
      obtain ⟨e1, b1, l1⟩ := bytes_of q3
      have ez : ((z.toNat : Nat) : Int) = z := Int.toNat_of_nonneg z1
      refine ⟨3, z.toNat, Ql67Neutral.nats r0, Ql67Neutral.nats r1, ?_, .inr (.inr rfl), fun e => absurd e (by decide), fun e => absurd e (by decide), fun _ => ⟨b1, by omega⟩, fun h => ?_⟩
      · rw [e0, e1, ez]
        rfl
      · have el : (Ql67Neutral.nats r1).length = ((r1.length : Nat) : Int).toNat := by rw [l1, Int.toNat_natCast]
        have ec : callN 3 z.toNat (Ql67Neutral.nats r0) (Ql67Neutral.nats r1) = .show_ z.toNat (Ql67Neutral.nats r0) (Ql67Neutral.nats r1) ((r1.length : Nat) : Int).toNat := by
          rw [← el]
          rfl
        rw [ec]
        rfl
theorem ints_vb (l : List Nat) : (Ql67Neutral.ints l).map V.int = vb l := by
  unfold Ql67Neutral.ints vb
  rw [List.map_map]
  rfl
theorem says_int (x : Ql67.Ans) : saysV x = (x.value :: Ql67Neutral.ints x.bytes).map V.int := by
  unfold saysV
  rw [List.map_cons, ints_vb]
theorem le_line' {n : Nat} (h : n ≤ 3000000) : n ≤ sizeLine := Nat.le_trans h (by decide)
theorem lt_line' {n : Nat} (h : n ≤ 3000000) : n < sizeLine := Nat.lt_of_le_of_lt h (by decide)
/-! what the told list's growth leaves -/
def KeepN (H H' : Hp) (N : Addr) : Prop := ∀ c o, c ≠ N → H c = some o → IsSeq o → H' c = some o
theorem KeepN.seq {K : PySem.W.Frag} {H H' : Hp} {N b : Addr} {xs : List V} (k : KeepN H H' N) (n : H N = none) (h : SqL K H b xs) : SqL K H' b xs := by
  rcases h with (h | ⟨o, h⟩) | h
  · exact .inl (.inl (k _ _ (ne_of_none h n) h trivial))
  · exact .inl (.inr ⟨o, k _ _ (ne_of_none h n) h trivial⟩)
  · exact .inr h
theorem KeepN.more {H H1 H2 : Hp} {N : Addr} (k : KeepN H H1 N) (s : KeepS H1 H2) : KeepN H H2 N := fun c o n h i => s c o (k c o n h i) i
theorem KeepN.put {H H1 : Hp} {N : Addr} {o : HO} (k : KeepN H H1 N) : KeepN H (upd H1 N o) N := fun c u n h i => by
  rw [upd_ne n]
  exact k c u n h i
theorem HouseAt.put {P : Program} {w : World} {K : PySem.W.Frag} {C N : Addr} {H : Hp} {a : Addr} {h : Ql67.House} {xs ys : List V} (x : HouseAt P w K C N H a h) (hN : H N = some (.lst xs)) : HouseAt P w K C N (upd H N (.lst ys)) a h := by
  obtain ⟨dx, dk, dh, x⟩ := x
  have kb : KeepB H (upd H N (.lst ys)) N := keepB_set
  have kt : KeepT H (upd H N (.lst ys)) := keepT_upd hN (fun xs z => by cases z)
  have kf := keepF_upd (u := .lst ys) hN (fun x y z => by cases z)
  refine ⟨dx, dk, dh, kb _ _ (ne_of x.at_ hN (fun z => by cases z)) x.at_, ?_, ?_, x.ok⟩
  · obtain ⟨kvs, h1, r⟩ := x.known
    refine ⟨kvs, kb _ _ (ne_of h1 hN (fun z => by cases z)) h1, Paired.imp' (fun _ _ q => ⟨q.1, ?_⟩) r⟩
    obtain ⟨t, k, h2, h3, h4, h5⟩ := q.2
    refine ⟨t, k, h2, kt _ _ h3, ?_, h5⟩
    rcases h4 with (h4 | ⟨o, h4⟩) | h4
    · exact .inl (.inl (kb _ _ h5 h4))
    · exact .inl (.inr ⟨o, kb _ _ h5 h4⟩)
    · exact .inr h4
  · obtain ⟨o, es, ep, zs, y⟩ := x.held
    have na : dh ≠ N := fun z => by
      have w1 := y.at_
      rw [z, hN] at w1
      have w2 : HO.lst xs = HO.ext _ := Option.some.inj w1
      cases w2
    exact ⟨o, es, ep, zs, kb _ _ na y.at_, y.ex, y.dat, y.ent, Paired.imp' (fun _ _ r => ⟨r.1, r.2.1, r.2.2.keep kt kf⟩) y.rel, y.nd, y.len, y.ns⟩
def sp_answers (K : PySem.W.Frag) : Sp := fun vs H Q _ => ∃ (b : Addr) (cs : List (List (List Int))), vs = [.ref b] ∧ SqL K H b ((PyFlat.put cs).map V.int) ∧ (PyFlat.put cs).length ≤ 16000 ∧ cs.length ≤ 400 ∧ callsOk cs ∧
  ∀ (H' : Hp) (p : Addr), H' p = some (.lst ((tells Ql67.empty cs).map V.int)) → Q (.ref p) H'
/-- the loop's state: what was answered, what is still to be -/
def AState (P : Program) (w : World) (K : PySem.W.Frag) (C : Addr) (cs : List (List (List Int))) (b t0 : Addr) (H : Hp) (m : Nat) (σ : L2.St) (H' : Hp) : Prop := ∃ (done rest : List (List (List Int))) (a : Addr) (v4 v5 v6 v7 : Option V), m = rest.length ∧ cs = done ++ rest ∧ KeepN H H' t0 ∧
  H' t0 = some (.lst ((tells Ql67.empty done).map V.int)) ∧ (tells Ql67.empty done).length ≤ 5002 * done.length ∧ HouseAt P w K C t0 H' a (run Ql67.empty done) ∧
  σ = [some (.ref b), some (.ref a), some (.ref t0), some (.int ((PyFlat.put done).length : Nat)), v4, v5, v6, v7]
theorem astate_more {P : Program} {w : World} {K : PySem.W.Frag} {C : Addr} {cs done rest : List (List (List Int))} {c : List (List Int)} {b t0 a2 : Addr} {H H5 : Hp} {x : List V} {v4 v5 v6 v7 : Option V} (ecs : cs = done ++ c :: rest) (kN : KeepN H H5 t0)
    (hh : HouseAt P w K C t0 H5 a2 (Ql67Neutral.step (run Ql67.empty done) (PyQl67.whole c)).1) (hT : H5 t0 = some (.lst ((tells Ql67.empty done).map V.int))) (hx : x = (Ql67Neutral.step (run Ql67.empty done) (PyQl67.whole c)).2.map V.int) (lx : x.length ≤ 5001) (lT : (tells Ql67.empty done).length ≤ 5002 * done.length) :
    AState P w K C cs b t0 H rest.length [some (.ref b), some (.ref a2), some (.ref t0), some (.int ((PyFlat.put (done ++ [c])).length : Nat)), v4, v5, v6, v7]
      (upd (upd H5 t0 (.lst ((tells Ql67.empty done).map V.int ++ [.int (x.length : Nat)]))) t0 (.lst (((tells Ql67.empty done).map V.int ++ [.int (x.length : Nat)]) ++ x))) := by
  have el : x.length = (Ql67Neutral.step (run Ql67.empty done) (PyQl67.whole c)).2.length := by rw [hx, List.length_map]
  refine ⟨done ++ [c], rest, a2, v4, v5, v6, v7, rfl, ?_, (kN.put).put, ?_, ?_, ?_, rfl⟩
  · rw [ecs, List.append_assoc]
    rfl
  · rw [upd_same, tells_more, List.map_append, List.map_cons, ← hx, ← el, List.append_assoc]
    rfl
  · rw [tells_more, List.length_append, List.length_cons, ← el, List.length_append, List.length_singleton]
    omega
  · rw [run_more]
    exact (hh.put hT).put upd_same
theorem ok_answers {C : Cs} {f : Addr} {fd : FuncData} (F : Fun K "answers" "answers" s_answers f fd) (T : Txt K mg) (TC : TxtC K mg C) (G1 : Cn P w K mg base CX0 1 "House" C.House ["self"] (sp_House___init__ P w K C.House))
    (G2 : Df P w K mg base CX0 1 "call_at" ["calls", "at"] (sp_call_at K)) (G3 : Df P w K mg base CX0 10 "reply" ["house", "kind", "numbers", "rows"] (sp_reply P w K C.House)) :
    FnOk P w K mg base CX0 11 f fd ["calls"] (sp_answers K) := by
  -- 
  refine F.ok sc_answers (fun vs H Q E h => ?_) (fun cdv A outer s H vs Q E hr h => ?_)
  · obtain ⟨b, cs, rfl, _⟩ := h
    rfl
  · obtain ⟨b, cs, rfl, hC, hl, hn, hok, kQ⟩ := h
    refine ⟨_, pss_cons (ps_set (i := 1) sc_answers.nd rfl (Or.inl rfl) (pe_make0D G1 (hr.mono (by decide)) pass0))
      (pss_cons (ps_set (i := 2) sc_answers.nd rfl (Or.inl rfl) (pe_lst pa_nil))
      (pss_cons (ps_set (i := 3) sc_answers.nd rfl (Or.inl rfl) pe_int)
      (pss_cons (ps_while PassesOwn.never (pt_cmpR op_lt (pv 3) (pe_callB call_len_seq (by rfl) T.b_len PySem.boot_len (pa_cons (pv 0) pa_nil)) (nomark _))
        (pss_cons (ps_asg (pe_callD G2 (hr.mono (by decide)) pass0 (pa_cons (pv 0) (pa_cons (pv 3) pa_nil))) (pg_tup rfl (pgs_cons (pg_name (i := 4) sc_answers.nd rfl (Or.inl rfl)) (pgs_cons (pg_name (i := 5) sc_answers.nd rfl (Or.inl rfl)) (pgs_cons (pg_name (i := 6) sc_answers.nd rfl (Or.inl rfl)) (pgs_cons (pg_name (i := 3) sc_answers.nd rfl (Or.inl rfl)) pgs_nil))))))
        (pss_cons (ps_if (pt_cmpR op_eq (pv 4) (pe_gv T.c_BEGIN) (nomark _)) (pss_cons (ps_set (i := 1) sc_answers.nd rfl (Or.inl rfl) (pe_make0D G1 (hr.mono (by decide)) pass0)) (pss_one (ps_set (i := 7) sc_answers.nd rfl (Or.inl rfl) (pe_lst (pa_cons (pe_gv T.c_DONE) pa_nil)))))
          (pss_one (ps_set (i := 7) sc_answers.nd rfl (Or.inl rfl) (pe_callD G3 (hr.mono (by decide)) pass0 (pa_cons (pv 1) (pa_cons (pv 4) (pa_cons (pv 5) (pa_cons (pv 6) pa_nil))))))))
        (pss_cons (ps_expr (pe_bm PySem.F.plainAttrs_list PySem.F.slot_list_append PySem.F.type_list_append mt_append (pv 2) (pa_cons (pe_callB call_len_seq (by rfl) T.b_len PySem.boot_len (pa_cons (pv 7) pa_nil)) pa_nil)))
        (pss_one (ps_expr (pe_bm PySem.F.plainAttrs_list PySem.F.slot_list_extend PySem.F.type_list_extend mt_extend (pv 2) (pa_cons (pv 7) pa_nil))))))))
      (pss_one (ps_ret (pv 2)))))), ?_⟩
    -- the first house, the told list
    refine fun x0 dx0 nx nd ne => ⟨x0, dx0, rfl, upd_same, fun H1 k1 hh1 => ⟨rfl, ?_⟩⟩
    have s01 : Same H H1 := Same.made nx nd fun b o h n => k1 b o n h
    refine ⟨(by show 0 ≤ sizeLine; decide), fun t0 n0 => ?_⟩
    generalize hE : upd _ t0 _ = H2
    obtain ⟨s12, e2⟩ := gen_new hE n0
    clear hE
    have nH : H t0 = none := s01.free n0
    have s02 := s01.trans s12
    -- the loop
    refine ⟨AState P w K C.House cs b t0 H, ⟨cs.length, [], cs, x0, none, none, none, none, rfl, rfl, fun c o _ h _ => s02 c o h, e2, Nat.zero_le _, (hh1 t0).same s12, rfl⟩, ?_⟩
    rintro m σ H3 ⟨done, rest, a, v4, v5, v6, v7, rfl, ecs, kN, hT, lT, hh, rfl⟩
    have hC3 := kN.seq nH hC
    have epl : PyFlat.put cs = PyFlat.put done ++ PyFlat.put rest := by rw [ecs, put_app]
    refine ⟨_, rfl, _, rfl, b, _, rfl, .inl hC3, _, _, rfl, rfl, _, rfl, ifB (fun c1 => ?_) (fun c1 => ?_)⟩
    case refine_2 =>
      have c1' := of_decide_eq_false c1
      rw [List.length_map, epl, List.length_append] at c1'
      have er : rest = [] := by
        cases rest with
        | nil => rfl
        | cons c r =>
          obtain ⟨p, z, xs, rfl, _⟩ := (hok c (by rw [ecs]; exact List.mem_append_right _ List.mem_cons_self)).1
          exfalso
          apply c1'
          have : (PyFlat.put (((p :: z) :: xs) :: r)).length = (p :: z ++ PyFlat.putRows xs ++ PyFlat.put r).length := rfl
          rw [List.length_append, List.length_append, List.length_cons] at this
          omega
      subst er
      rw [List.append_nil] at ecs
      subst ecs
      exact ⟨_, rfl, kQ H3 t0 hT⟩
    have c1' := of_decide_eq_true c1
    rw [List.length_map, epl, List.length_append] at c1'
    cases rest with
    | nil =>
      exfalso
      have : (PyFlat.put ([] : List (List (List Int)))).length = 0 := rfl
      omega
    | cons c rest =>
      obtain ⟨hc1, hc2⟩ := hok c (by rw [ecs]; exact List.mem_append_right _ List.mem_cons_self)
      obtain ⟨p, z, xs, ec, hs⟩ := id hc1
      refine ⟨AState P w K C.House cs b t0 H rest.length, fun σ' H' q => ⟨rest.length, Nat.lt_succ_self _, q⟩, ?_⟩
      have ld : done.length < 400 := by
        rw [ecs, List.length_append, List.length_cons] at hn
        omega
      have epc : PyFlat.put done ++ (PyFlat.put1 ((p :: z) :: xs) ++ PyFlat.put rest) = PyFlat.put cs := by
        rw [epl, ec]
        rfl
      have eat : (PyFlat.put done).length + (PyFlat.put1 ((p :: z) :: xs)).length = (PyFlat.put (done ++ [c])).length := by
        rw [put_app, List.length_append, ec]
        show _ = _ + (PyFlat.put1 ((p :: z) :: xs) ++ []).length
        rw [List.append_nil]
      -- call_at
      refine ⟨_, rfl, _, rfl, b, PyFlat.put done, PyFlat.put rest, p, z, xs, rfl, ?_, ?_, hs, fun H4 q n r rs s4 e4 e5 e6 pr => ?_⟩
      · rw [epc]
        exact hC3
      · rw [epc]
        exact hl
      rw [eat] at e4
      refine ⟨q, _, rfl, tup_of e4, rfl, _, _, rfl, _, _, rfl, _, _, rfl, _, _, rfl, rfl, ?_⟩
      have hT4 := s4 _ _ hT
      have hh4 := hh.same s4
      have kN4 := kN.more (KeepS.of s4)
      have lTm : ((tells Ql67.empty done).map V.int).length ≤ 2000800 := by
        rw [List.length_map]
        omega
      refine ⟨_, rfl, rfl, _, rfl, ifB (fun c2 => ?_) (fun c2 => ?_)⟩
      · have c2' := of_decide_eq_true c2
        obtain rfl : p = 0 := by
          injection c2'
        have ec0 : c = [[0]] := by
          rcases shape_cases hs with ⟨_, ha, hx⟩ | ⟨hp, _, _⟩
          · rw [ec, List.eq_nil_of_length_eq_zero ha, List.eq_nil_of_length_eq_zero hx]
          · omega
        refine fun x5 dx5 nx5 nd5 ne5 => ⟨x5, dx5, rfl, upd_same, fun H5 k5 hh5 => ⟨rfl, ?_⟩⟩
        have s45 : Same H4 H5 := Same.made nx5 nd5 fun b o h n => k5 b o n h
        refine ⟨(by show 1 ≤ sizeLine; decide), fun t nt => ?_⟩
        generalize hE : upd _ t _ = H6
        obtain ⟨s6, e6⟩ := gen_new hE nt
        clear hE
        have s46 := s45.trans s6
        have hT6 := s46 _ _ hT4
        have ntt : t ≠ t0 := fun z => by
          rw [z, s45 _ _ hT4] at nt
          cases nt
        refine ⟨_, rfl, .inl ⟨rfl, _, lst_of hT6⟩, _, rfl, t, _, rfl, .inl (lst_of e6), t0, _, _, rfl, rfl, hT6, lt_line' (by omega), ?_⟩
        refine ⟨_, rfl, .inl ⟨rfl, _, lst_of upd_same⟩, _, rfl, t0, t, _, _, rfl, rfl, upd_same, (upd_ne ntt).trans e6, ?_, ?_⟩
        · rw [List.length_append]
          exact le_line' (by show _ + 1 + 1 ≤ _; omega)
        · refine astate_more ecs (kN4.more (KeepS.of s46)) ?_ hT6 ?_ (by show 1 ≤ 5001; decide) lT
          · rw [ec0]
            exact (hh5 t0).same s6
          · rw [ec0]
            rfl
      · have hp0 : p ≠ 0 := fun z => by
          rw [z] at c2
          exact Bool.noConfusion c2
        rcases call_good hc1 hc2 with e0 | ⟨pn, x0n, x, y, ec', hp, g1, g2, g3, hst⟩
        · rw [ec] at e0
          injection e0 with e0 _
          injection e0 with e0 _
          exact absurd e0 hp0
        have ez : (p :: z) = [(pn : Int), (x0n : Int)] ∧ xs = [Ql67Neutral.ints x, Ql67Neutral.ints y] := by
          rw [ec] at ec'
          injection ec' with h1 h2
          exact ⟨h1, h2⟩
        obtain ⟨ez1, rfl⟩ := ez
        injection ez1 with ep1 ez2
        subst ep1 ez2
        cases pr with
        | @cons _ r0 _ rs' pr0 pr' =>
          cases pr' with
          | @cons _ r1 _ rs'' pr1 pr'' =>
            cases pr''
            have rne : r1 ≠ t0 := fun z => by
              have w1 := pr1.1
              rw [z, hT] at w1
              cases w1
            refine ⟨_, rfl, _, rfl, _, rfl, _, rfl, t0, a, n, r, r0, r1, run Ql67.empty done, pn, x0n, x, y, rfl, hh4, lst_of e5, lst_of e6, ?_, ?_, hp, fun e => ⟨rne, g1 e⟩, g2, g3, fun H5 t k5 hh5 e7 lb nw => ?_⟩
            · rw [← ints_vb]
              exact lst_of pr0.2
            · rw [← ints_vb]
              exact lst_of pr1.2
            have hT5 := k5 _ _ hT4 trivial
            have ntt : t ≠ t0 := fun z => nw (.lst ((tells Ql67.empty done).map V.int)) (by rw [z]; exact hT4) trivial
            have lsa : (saysV (Ql67.spec (run Ql67.empty done) (callN pn x0n x y)).2).length ≤ 5001 := by
              unfold saysV
              rw [List.length_cons, vb_length]
              omega
            refine ⟨_, rfl, .inl ⟨rfl, _, lst_of hT5⟩, _, rfl, t, _, rfl, .inl (lst_of e7), t0, _, _, rfl, rfl, hT5, lt_line' (by omega), ?_⟩
            refine ⟨_, rfl, .inl ⟨rfl, _, lst_of upd_same⟩, _, rfl, t0, t, _, _, rfl, rfl, upd_same, (upd_ne ntt).trans e7, ?_, ?_⟩
            · rw [List.length_append]
              exact le_line' (by show _ + 1 + _ ≤ _; omega)
            · refine astate_more ecs (kN4.more k5) ?_ hT5 ?_ lsa lT
              · rw [hst]
                exact hh5
              · rw [hst, says_int]
theorem asked_calls {l : List Int} (h : PyQl67.answers_asked l = true) : ∃ cs, l = PyFlat.put cs ∧ cs.length ≤ 400 ∧ callsOk cs ∧ PyQl67.answers l = tells Ql67.empty cs := by
  unfold PyQl67.answers_asked PyQl67.calls at h
  cases e : PyFlat.calls PyQl67.shape l.length l with
  | none =>
    rw [e] at h
    cases h
  | some cs =>
    rw [e] at h
    have h' : (PyFlat.atMost 400 (cs.map PyQl67.whole) && Ql67Neutral.asked (cs.map PyQl67.whole)) = true := h
    obtain ⟨h1, h2⟩ := and_of h'
    have h1' : (cs.map PyQl67.whole).length ≤ 400 := of_decide_eq_true h1
    rw [List.length_map] at h1'
    unfold Ql67Neutral.asked at h2
    obtain ⟨h3, _⟩ := and_of h2
    obtain ⟨e1, e2⟩ := PyFlat.put_calls _ _ _ e
    refine ⟨cs, e1, h1', fun c hc => ⟨e2 c hc, List.all_eq_true.mp h3 _ (List.mem_map_of_mem hc)⟩, ?_⟩
    unfold PyQl67.answers PyQl67.calls
    rw [e]
    rfl
end
end Th
namespace Th
open PySem PySem.Spec PyProof.Rows L2
open PySem.W (Codec WData)
/-! ### the request -/
theorem and2 {a b : Bool} (h : (a && b) = true) : a = true ∧ b = true := by
  rw [Bool.and_eq_true] at h
  exact h
theorem w_int {lo hi z : Int} (h : Codec.inInt lo hi z = true) : lo ≤ z ∧ z ≤ hi := by
  have h' : (decide (lo ≤ z) && decide (z ≤ hi)) = true := h
  rw [Bool.and_eq_true] at h'
  exact ⟨of_decide_eq_true h'.1, of_decide_eq_true h'.2⟩
theorem w_list {least most : Nat} {lo hi : Int} {l : List Int} (h : (Codec.inLen least most l && l.all (Codec.inInt lo hi)) = true) : (least ≤ l.length ∧ l.length ≤ most) ∧ ∀ x ∈ l, lo ≤ x ∧ x ≤ hi := by
  rw [Bool.and_eq_true] at h
  exact ⟨Codec.inNat_iff.mp h.1, fun x hx => w_int (List.all_eq_true.mp h.2 x hx)⟩
theorem w_bytes {least most : Nat} {l : List Int} (h : (Codec.inLen least most l && l.all (Codec.inInt 0 255)) = true) : l.map V.int = vb (Ql67Neutral.nats l) ∧ (Ql67Neutral.nats l).length = l.length ∧ (least ≤ l.length ∧ l.length ≤ most) ∧ ∀ b, b ∈ Ql67Neutral.nats l → b < 256 := by
  obtain ⟨h1, h2⟩ := w_list h
  refine ⟨vb_of l fun x hx => (h2 x hx).1, List.length_map _, h1, fun b hb => ?_⟩
  obtain ⟨x, hx, rfl⟩ := List.mem_map.mp hb
  have := h2 x hx
  omega
theorem nat_int {z hi : Int} (h : Codec.inInt 0 hi z = true) : V.int z = V.int ((z.toNat : Nat) : Int) := by
  rw [Int.toNat_of_nonneg (w_int h).1]
end Th
namespace Th
open PySem PySem.Spec PyProof.Rows L2
theorem all_mk {P : Program} {w : World} {K : PySem.W.Frag} {h : Heap} {mg : Str → Option Value} {fa C_NoMessage C_Reader C_Refusal C_House a_HOUSE a_NUMBERS a_ROWS f1 f2 f3 f4 f5 f6 f7 f8 f9 f10 f11 f12 f13 f14 f15 f16 f17 f18 f19 f20 f21 f22 f23 f24 f25 f26 f27 f28 f29 f30 f31 f32 f33 f34 f35 f36 f37 f38 f39 f40 f41 f42 f43 f44 f45 : Addr} (X : K.In h) (G : h.Ns mainGlobals mg) (hfa : mg "answers" = some (.ref fa))
    {nm_R q_R : Str} {N_R : Addr} {bs_R : List Value} {sn_R : List Str} {sub_R : List Value} {ab_R : Bool} {col_R : Option Bool} {dd_R : Option Addr} {m0_R m1_R m2_R m3_R m5_R : Option Value}
    {od1 an1 od2 an2 od3 an3 od4 an4 od5 an5 od6 an6 od7 an7 od8 an8 od9 an9 od10 an10 od11 an11 od12 an12 od13 an13 od14 an14 od15 an15 od16 an16 od17 an17 od18 an18 od19 an19 od20 an20 od21 an21 od22 an22 od23 an23 od24 an24 od25 an25 od26 an26 od27 an27 od28 an28 od29 an29 od30 an30 od31 an31 od32 an32 od33 an33 od34 an34 od35 an35 od36 an36 od37 an37 od38 an38 od39 an39 od40 an40 od41 an41 od42 an42 od43 an43 od44 an44 od45 an45 ot_HOUSE ot_NUMBERS ot_ROWS : Option Addr} {sl1 sl2 sl3 sl4 sl5 sl6 sl7 sl8 sl9 sl10 sl11 sl12 sl13 sl14 sl15 sl16 sl17 sl18 sl19 sl20 sl21 sl22 sl23 sl24 sl25 sl26 sl27 sl28 sl29 sl30 sl31 sl32 sl33 sl34 sl35 sl36 sl37 sl38 sl39 sl40 sl41 sl42 sl43 sl44 sl45 st_HOUSE st_NUMBERS st_ROWS : Array (Option Value)} {oc1 kV1 dc1 pm1 cd1 ct1 oc2 kV2 dc2 pm2 cd2 ct2 oc3 kV3 dc3 pm3 cd3 ct3 oc4 kV4 dc4 pm4 cd4 ct4 oc5 kV5 dc5 pm5 cd5 ct5 oc6 kV6 dc6 pm6 cd6 ct6 oc7 kV7 dc7 pm7 cd7 ct7 oc8 kV8 dc8 pm8 cd8 ct8 oc9 kV9 dc9 pm9 cd9 ct9 oc10 kV10 dc10 pm10 cd10 ct10 oc11 kV11 dc11 pm11 cd11 ct11 oc12 kV12 dc12 pm12 cd12 ct12 oc13 kV13 dc13 pm13 cd13 ct13 oc14 kV14 dc14 pm14 cd14 ct14 oc15 kV15 dc15 pm15 cd15 ct15 oc16 kV16 dc16 pm16 cd16 ct16 oc17 kV17 dc17 pm17 cd17 ct17 oc18 kV18 dc18 pm18 cd18 ct18 oc19 kV19 dc19 pm19 cd19 ct19 oc20 kV20 dc20 pm20 cd20 ct20 oc21 kV21 dc21 pm21 cd21 ct21 oc22 kV22 dc22 pm22 cd22 ct22 oc23 kV23 dc23 pm23 cd23 ct23 oc24 kV24 dc24 pm24 cd24 ct24 oc25 kV25 dc25 pm25 cd25 ct25 oc26 kV26 dc26 pm26 cd26 ct26 oc27 kV27 dc27 pm27 cd27 ct27 oc28 kV28 dc28 pm28 cd28 ct28 oc29 kV29 dc29 pm29 cd29 ct29 oc30 kV30 dc30 pm30 cd30 ct30 oc31 kV31 dc31 pm31 cd31 ct31 oc32 kV32 dc32 pm32 cd32 ct32 oc33 kV33 dc33 pm33 cd33 ct33 oc34 kV34 dc34 pm34 cd34 ct34 oc35 kV35 dc35 pm35 cd35 ct35 oc36 kV36 dc36 pm36 cd36 ct36 oc37 kV37 dc37 pm37 cd37 ct37 oc38 kV38 dc38 pm38 cd38 ct38 oc39 kV39 dc39 pm39 cd39 ct39 oc40 kV40 dc40 pm40 cd40 ct40 oc41 kV41 dc41 pm41 cd41 ct41 oc42 kV42 dc42 pm42 cd42 ct42 oc43 kV43 dc43 pm43 cd43 ct43 oc44 kV44 dc44 pm44 cd44 ct44 oc45 kV45 dc45 pm45 cd45 ct45 : Value}
    {t_WORD t_BLOCK t_WORD_BITS t_BLOCK_BYTES t_KEY_BYTES t_ROUNDS t_STEP t_FOR_SUM t_FOR_STREAM t_ASKED t_GIVEN t_MORE_ASKED t_MORE_GIVEN t_SHOWN t_REFUSED t_MOST_NAME t_LENGTH_BYTES t_TIME_BYTES t_LIFE_BYTES t_POINT t_HYPHEN t_HOUSE0 t_HOUSE1 t_HOUSE2 t_HOUSE3 t_MOST_MESSAGE t_MOST_NAMES t_MOST_HELD t_NEAR t_CLIENT_BYTES t_DONE t_NOT_AS_TOLD t_NO_ROOM t_NO_MESSAGE t_NO_CLIENT t_NO_SERVICE t_NO_LIFE t_BAD_TICKET t_NOT_NOW t_BAD_PROOF t_SHOWN_BEFORE t_TOO_MANY_HELD t_BEGIN t_ADD t_ANSWER t_NUMBERS0 t_NUMBERS1 t_NUMBERS2 t_NUMBERS3 t_ROWS0 t_ROWS1 t_ROWS2 t_ROWS3 : Tok}
    {nt_HOUSE nt_NUMBERS nt_ROWS : Nat}
    (aC_NoMessage : PySem.W.nsIn K mainGlobals "NoMessage" = some (some (.ref C_NoMessage)))
    (aC_Reader : PySem.W.nsIn K mainGlobals "Reader" = some (some (.ref C_Reader)))
    (aC_Refusal : PySem.W.nsIn K mainGlobals "Refusal" = some (some (.ref C_Refusal)))
    (aC_House : PySem.W.nsIn K mainGlobals "House" = some (some (.ref C_House)))
    (a1 : PySem.W.nsIn K mainGlobals "high_first" = some (some (.ref f1)))
    (l1 : K.lookup f1 = some ⟨oc1, od1, .func (PySem.W.fnOf "high_first" "high_first" (defArgs s_high_first) (defBody s_high_first) (defScope s_high_first) .none kV1 dc1 pm1 an1 cd1 ct1), sl1⟩) (c1 : PySem.W.codeIn K cd1 "high_first" = true) (k1 : PySem.W.keepIn K (.ref f1) = true)
    (a2 : PySem.W.nsIn K mainGlobals "number_of" = some (some (.ref f2)))
    (l2 : K.lookup f2 = some ⟨oc2, od2, .func (PySem.W.fnOf "number_of" "number_of" (defArgs s_number_of) (defBody s_number_of) (defScope s_number_of) .none kV2 dc2 pm2 an2 cd2 ct2), sl2⟩) (c2 : PySem.W.codeIn K cd2 "number_of" = true) (k2 : PySem.W.keepIn K (.ref f2) = true)
    (a3 : PySem.W.nsIn K mainGlobals "spread" = some (some (.ref f3)))
    (l3 : K.lookup f3 = some ⟨oc3, od3, .func (PySem.W.fnOf "spread" "spread" (defArgs s_spread) (defBody s_spread) (defScope s_spread) .none kV3 dc3 pm3 an3 cd3 ct3), sl3⟩) (c3 : PySem.W.codeIn K cd3 "spread" = true) (k3 : PySem.W.keepIn K (.ref f3) = true)
    (a4 : PySem.W.nsIn K mainGlobals "enciphered" = some (some (.ref f4)))
    (l4 : K.lookup f4 = some ⟨oc4, od4, .func (PySem.W.fnOf "enciphered" "enciphered" (defArgs s_enciphered) (defBody s_enciphered) (defScope s_enciphered) .none kV4 dc4 pm4 an4 cd4 ct4), sl4⟩) (c4 : PySem.W.codeIn K cd4 "enciphered" = true) (k4 : PySem.W.keepIn K (.ref f4) = true)
    (a5 : PySem.W.nsIn K mainGlobals "words_of" = some (some (.ref f5)))
    (l5 : K.lookup f5 = some ⟨oc5, od5, .func (PySem.W.fnOf "words_of" "words_of" (defArgs s_words_of) (defBody s_words_of) (defScope s_words_of) .none kV5 dc5 pm5 an5 cd5 ct5), sl5⟩) (c5 : PySem.W.codeIn K cd5 "words_of" = true) (k5 : PySem.W.keepIn K (.ref f5) = true)
    (a6 : PySem.W.nsIn K mainGlobals "sum_of" = some (some (.ref f6)))
    (l6 : K.lookup f6 = some ⟨oc6, od6, .func (PySem.W.fnOf "sum_of" "sum_of" (defArgs s_sum_of) (defBody s_sum_of) (defScope s_sum_of) .none kV6 dc6 pm6 an6 cd6 ct6), sl6⟩) (c6 : PySem.W.codeIn K cd6 "sum_of" = true) (k6 : PySem.W.keepIn K (.ref f6) = true)
    (a7 : PySem.W.nsIn K mainGlobals "streamed" = some (some (.ref f7)))
    (l7 : K.lookup f7 = some ⟨oc7, od7, .func (PySem.W.fnOf "streamed" "streamed" (defArgs s_streamed) (defBody s_streamed) (defScope s_streamed) .none kV7 dc7 pm7 an7 cd7 ct7), sl7⟩) (c7 : PySem.W.codeIn K cd7 "streamed" = true) (k7 : PySem.W.keepIn K (.ref f7) = true)
    (a8 : PySem.W.nsIn K mainGlobals "sealed" = some (some (.ref f8)))
    (l8 : K.lookup f8 = some ⟨oc8, od8, .func (PySem.W.fnOf "sealed" "sealed" (defArgs s_sealed) (defBody s_sealed) (defScope s_sealed) .none kV8 dc8 pm8 an8 cd8 ct8), sl8⟩) (c8 : PySem.W.codeIn K cd8 "sealed" = true) (k8 : PySem.W.keepIn K (.ref f8) = true)
    (a9 : PySem.W.nsIn K mainGlobals "opened" = some (some (.ref f9)))
    (l9 : K.lookup f9 = some ⟨oc9, od9, .func (PySem.W.fnOf "opened" "opened" (defArgs s_opened) (defBody s_opened) (defScope s_opened) .none kV9 dc9 pm9 an9 cd9 ct9), sl9⟩) (c9 : PySem.W.codeIn K cd9 "opened" = true) (k9 : PySem.W.keepIn K (.ref f9) = true)
    (a10 : PySem.W.nsIn K mainGlobals "is_name_byte" = some (some (.ref f10)))
    (l10 : K.lookup f10 = some ⟨oc10, od10, .func (PySem.W.fnOf "is_name_byte" "is_name_byte" (defArgs s_is_name_byte) (defBody s_is_name_byte) (defScope s_is_name_byte) .none kV10 dc10 pm10 an10 cd10 ct10), sl10⟩) (c10 : PySem.W.codeIn K cd10 "is_name_byte" = true) (k10 : PySem.W.keepIn K (.ref f10) = true)
    (a11 : PySem.W.nsIn K mainGlobals "is_name" = some (some (.ref f11)))
    (l11 : K.lookup f11 = some ⟨oc11, od11, .func (PySem.W.fnOf "is_name" "is_name" (defArgs s_is_name) (defBody s_is_name) (defScope s_is_name) .none kV11 dc11 pm11 an11 cd11 ct11), sl11⟩) (c11 : PySem.W.codeIn K cd11 "is_name" = true) (k11 : PySem.W.keepIn K (.ref f11) = true)
    (a12 : PySem.W.nsIn K mainGlobals "name_told" = some (some (.ref f12)))
    (l12 : K.lookup f12 = some ⟨oc12, od12, .func (PySem.W.fnOf "name_told" "name_told" (defArgs s_name_told) (defBody s_name_told) (defScope s_name_told) .none kV12 dc12 pm12 an12 cd12 ct12), sl12⟩) (c12 : PySem.W.codeIn K cd12 "name_told" = true) (k12 : PySem.W.keepIn K (.ref f12) = true)
    (a13 : PySem.W.nsIn K mainGlobals "row_told" = some (some (.ref f13)))
    (l13 : K.lookup f13 = some ⟨oc13, od13, .func (PySem.W.fnOf "row_told" "row_told" (defArgs s_row_told) (defBody s_row_told) (defScope s_row_told) .none kV13 dc13 pm13 an13 cd13 ct13), sl13⟩) (c13 : PySem.W.codeIn K cd13 "row_told" = true) (k13 : PySem.W.keepIn K (.ref f13) = true)
    (a14 : PySem.W.nsIn K mainGlobals "time_told" = some (some (.ref f14)))
    (l14 : K.lookup f14 = some ⟨oc14, od14, .func (PySem.W.fnOf "time_told" "time_told" (defArgs s_time_told) (defBody s_time_told) (defScope s_time_told) .none kV14 dc14 pm14 an14 cd14 ct14), sl14⟩) (c14 : PySem.W.codeIn K cd14 "time_told" = true) (k14 : PySem.W.keepIn K (.ref f14) = true)
    (a15 : PySem.W.nsIn K mainGlobals "ticket_of" = some (some (.ref f15)))
    (l15 : K.lookup f15 = some ⟨oc15, od15, .func (PySem.W.fnOf "ticket_of" "ticket_of" (defArgs s_ticket_of) (defBody s_ticket_of) (defScope s_ticket_of) .none kV15 dc15 pm15 an15 cd15 ct15), sl15⟩) (c15 : PySem.W.codeIn K cd15 "ticket_of" = true) (k15 : PySem.W.keepIn K (.ref f15) = true)
    (a16 : PySem.W.nsIn K mainGlobals "given_told" = some (some (.ref f16)))
    (l16 : K.lookup f16 = some ⟨oc16, od16, .func (PySem.W.fnOf "given_told" "given_told" (defArgs s_given_told) (defBody s_given_told) (defScope s_given_told) .none kV16 dc16 pm16 an16 cd16 ct16), sl16⟩) (c16 : PySem.W.codeIn K cd16 "given_told" = true) (k16 : PySem.W.keepIn K (.ref f16) = true)
    (a17 : PySem.W.findIn K (.ref C_Reader) "__init__" = some (some (.ref f17))) (i17 : PySem.W.isFn K (.ref f17) = true)
    (l17 : K.lookup f17 = some ⟨oc17, od17, .func (PySem.W.fnOf "__init__" "Reader.__init__" (defArgs s_Reader___init__) (defBody s_Reader___init__) (defScope s_Reader___init__) .none kV17 dc17 pm17 an17 cd17 ct17), sl17⟩) (c17 : PySem.W.codeIn K cd17 "Reader.__init__" = true) (k17 : PySem.W.keepIn K (.ref f17) = true)
    (a18 : PySem.W.findIn K (.ref C_Reader) "some" = some (some (.ref f18))) (i18 : PySem.W.isFn K (.ref f18) = true)
    (l18 : K.lookup f18 = some ⟨oc18, od18, .func (PySem.W.fnOf "some" "Reader.some" (defArgs s_Reader_some) (defBody s_Reader_some) (defScope s_Reader_some) .none kV18 dc18 pm18 an18 cd18 ct18), sl18⟩) (c18 : PySem.W.codeIn K cd18 "Reader.some" = true) (k18 : PySem.W.keepIn K (.ref f18) = true)
    (a19 : PySem.W.findIn K (.ref C_Reader) "number" = some (some (.ref f19))) (i19 : PySem.W.isFn K (.ref f19) = true)
    (l19 : K.lookup f19 = some ⟨oc19, od19, .func (PySem.W.fnOf "number" "Reader.number" (defArgs s_Reader_number) (defBody s_Reader_number) (defScope s_Reader_number) .none kV19 dc19 pm19 an19 cd19 ct19), sl19⟩) (c19 : PySem.W.codeIn K cd19 "Reader.number" = true) (k19 : PySem.W.keepIn K (.ref f19) = true)
    (a20 : PySem.W.findIn K (.ref C_Reader) "take_name" = some (some (.ref f20))) (i20 : PySem.W.isFn K (.ref f20) = true)
    (l20 : K.lookup f20 = some ⟨oc20, od20, .func (PySem.W.fnOf "take_name" "Reader.take_name" (defArgs s_Reader_take_name) (defBody s_Reader_take_name) (defScope s_Reader_take_name) .none kV20 dc20 pm20 an20 cd20 ct20), sl20⟩) (c20 : PySem.W.codeIn K cd20 "Reader.take_name" = true) (k20 : PySem.W.keepIn K (.ref f20) = true)
    (a21 : PySem.W.findIn K (.ref C_Reader) "row" = some (some (.ref f21))) (i21 : PySem.W.isFn K (.ref f21) = true)
    (l21 : K.lookup f21 = some ⟨oc21, od21, .func (PySem.W.fnOf "row" "Reader.row" (defArgs s_Reader_row) (defBody s_Reader_row) (defScope s_Reader_row) .none kV21 dc21 pm21 an21 cd21 ct21), sl21⟩) (c21 : PySem.W.codeIn K cd21 "Reader.row" = true) (k21 : PySem.W.keepIn K (.ref f21) = true)
    (a22 : PySem.W.findIn K (.ref C_Reader) "time" = some (some (.ref f22))) (i22 : PySem.W.isFn K (.ref f22) = true)
    (l22 : K.lookup f22 = some ⟨oc22, od22, .func (PySem.W.fnOf "time" "Reader.time" (defArgs s_Reader_time) (defBody s_Reader_time) (defScope s_Reader_time) .none kV22 dc22 pm22 an22 cd22 ct22), sl22⟩) (c22 : PySem.W.codeIn K cd22 "Reader.time" = true) (k22 : PySem.W.keepIn K (.ref f22) = true)
    (a23 : PySem.W.findIn K (.ref C_Reader) "want_end" = some (some (.ref f23))) (i23 : PySem.W.isFn K (.ref f23) = true)
    (l23 : K.lookup f23 = some ⟨oc23, od23, .func (PySem.W.fnOf "want_end" "Reader.want_end" (defArgs s_Reader_want_end) (defBody s_Reader_want_end) (defScope s_Reader_want_end) .none kV23 dc23 pm23 an23 cd23 ct23), sl23⟩) (c23 : PySem.W.codeIn K cd23 "Reader.want_end" = true) (k23 : PySem.W.keepIn K (.ref f23) = true)
    (a24 : PySem.W.nsIn K mainGlobals "asked_in" = some (some (.ref f24)))
    (l24 : K.lookup f24 = some ⟨oc24, od24, .func (PySem.W.fnOf "asked_in" "asked_in" (defArgs s_asked_in) (defBody s_asked_in) (defScope s_asked_in) .none kV24 dc24 pm24 an24 cd24 ct24), sl24⟩) (c24 : PySem.W.codeIn K cd24 "asked_in" = true) (k24 : PySem.W.keepIn K (.ref f24) = true)
    (a25 : PySem.W.nsIn K mainGlobals "more_asked_in" = some (some (.ref f25)))
    (l25 : K.lookup f25 = some ⟨oc25, od25, .func (PySem.W.fnOf "more_asked_in" "more_asked_in" (defArgs s_more_asked_in) (defBody s_more_asked_in) (defScope s_more_asked_in) .none kV25 dc25 pm25 an25 cd25 ct25), sl25⟩) (c25 : PySem.W.codeIn K cd25 "more_asked_in" = true) (k25 : PySem.W.keepIn K (.ref f25) = true)
    (a26 : PySem.W.nsIn K mainGlobals "two_rows_in" = some (some (.ref f26)))
    (l26 : K.lookup f26 = some ⟨oc26, od26, .func (PySem.W.fnOf "two_rows_in" "two_rows_in" (defArgs s_two_rows_in) (defBody s_two_rows_in) (defScope s_two_rows_in) .none kV26 dc26 pm26 an26 cd26 ct26), sl26⟩) (c26 : PySem.W.codeIn K cd26 "two_rows_in" = true) (k26 : PySem.W.keepIn K (.ref f26) = true)
    (a27 : PySem.W.nsIn K mainGlobals "ticket_within" = some (some (.ref f27)))
    (l27 : K.lookup f27 = some ⟨oc27, od27, .func (PySem.W.fnOf "ticket_within" "ticket_within" (defArgs s_ticket_within) (defBody s_ticket_within) (defScope s_ticket_within) .none kV27 dc27 pm27 an27 cd27 ct27), sl27⟩) (c27 : PySem.W.codeIn K cd27 "ticket_within" = true) (k27 : PySem.W.keepIn K (.ref f27) = true)
    (a28 : PySem.W.nsIn K mainGlobals "proof_within" = some (some (.ref f28)))
    (l28 : K.lookup f28 = some ⟨oc28, od28, .func (PySem.W.fnOf "proof_within" "proof_within" (defArgs s_proof_within) (defBody s_proof_within) (defScope s_proof_within) .none kV28 dc28 pm28 an28 cd28 ct28), sl28⟩) (c28 : PySem.W.codeIn K cd28 "proof_within" = true) (k28 : PySem.W.keepIn K (.ref f28) = true)
    (a29 : PySem.W.nsIn K mainGlobals "opened_as" = some (some (.ref f29)))
    (l29 : K.lookup f29 = some ⟨oc29, od29, .func (PySem.W.fnOf "opened_as" "opened_as" (defArgs s_opened_as) (defBody s_opened_as) (defScope s_opened_as) .none kV29 dc29 pm29 an29 cd29 ct29), sl29⟩) (c29 : PySem.W.codeIn K cd29 "opened_as" = true) (k29 : PySem.W.keepIn K (.ref f29) = true)
    (a30 : PySem.W.findIn K (.ref C_Refusal) "__init__" = some (some (.ref f30))) (i30 : PySem.W.isFn K (.ref f30) = true)
    (l30 : K.lookup f30 = some ⟨oc30, od30, .func (PySem.W.fnOf "__init__" "Refusal.__init__" (defArgs s_Refusal___init__) (defBody s_Refusal___init__) (defScope s_Refusal___init__) .none kV30 dc30 pm30 an30 cd30 ct30), sl30⟩) (c30 : PySem.W.codeIn K cd30 "Refusal.__init__" = true) (k30 : PySem.W.keepIn K (.ref f30) = true)
    (ty30 : PySem.W.typeIn K (.ref f30) = some (.type "function"))
    (a31 : PySem.W.nsIn K mainGlobals "want" = some (some (.ref f31)))
    (l31 : K.lookup f31 = some ⟨oc31, od31, .func (PySem.W.fnOf "want" "want" (defArgs s_want) (defBody s_want) (defScope s_want) .none kV31 dc31 pm31 an31 cd31 ct31), sl31⟩) (c31 : PySem.W.codeIn K cd31 "want" = true) (k31 : PySem.W.keepIn K (.ref f31) = true)
    (a32 : PySem.W.findIn K (.ref C_House) "__init__" = some (some (.ref f32))) (i32 : PySem.W.isFn K (.ref f32) = true)
    (l32 : K.lookup f32 = some ⟨oc32, od32, .func (PySem.W.fnOf "__init__" "House.__init__" (defArgs s_House___init__) (defBody s_House___init__) (defScope s_House___init__) .none kV32 dc32 pm32 an32 cd32 ct32), sl32⟩) (c32 : PySem.W.codeIn K cd32 "House.__init__" = true) (k32 : PySem.W.keepIn K (.ref f32) = true)
    (a33 : PySem.W.findIn K (.ref C_House) "add" = some (some (.ref f33))) (i33 : PySem.W.isFn K (.ref f33) = true)
    (l33 : K.lookup f33 = some ⟨oc33, od33, .func (PySem.W.fnOf "add" "House.add" (defArgs s_House_add) (defBody s_House_add) (defScope s_House_add) .none kV33 dc33 pm33 an33 cd33 ct33), sl33⟩) (c33 : PySem.W.codeIn K cd33 "House.add" = true) (k33 : PySem.W.keepIn K (.ref f33) = true)
    (a34 : PySem.W.findIn K (.ref C_House) "hold" = some (some (.ref f34))) (i34 : PySem.W.isFn K (.ref f34) = true)
    (l34 : K.lookup f34 = some ⟨oc34, od34, .func (PySem.W.fnOf "hold" "House.hold" (defArgs s_House_hold) (defBody s_House_hold) (defScope s_House_hold) .none kV34 dc34 pm34 an34 cd34 ct34), sl34⟩) (c34 : PySem.W.codeIn K cd34 "House.hold" = true) (k34 : PySem.W.keepIn K (.ref f34) = true)
    (a35 : PySem.W.findIn K (.ref C_House) "let_in" = some (some (.ref f35))) (i35 : PySem.W.isFn K (.ref f35) = true)
    (l35 : K.lookup f35 = some ⟨oc35, od35, .func (PySem.W.fnOf "let_in" "House.let_in" (defArgs s_House_let_in) (defBody s_House_let_in) (defScope s_House_let_in) .none kV35 dc35 pm35 an35 cd35 ct35), sl35⟩) (c35 : PySem.W.codeIn K cd35 "House.let_in" = true) (k35 : PySem.W.keepIn K (.ref f35) = true)
    (a36 : PySem.W.findIn K (.ref C_House) "grant" = some (some (.ref f36))) (i36 : PySem.W.isFn K (.ref f36) = true)
    (l36 : K.lookup f36 = some ⟨oc36, od36, .func (PySem.W.fnOf "grant" "House.grant" (defArgs s_House_grant) (defBody s_House_grant) (defScope s_House_grant) .none kV36 dc36 pm36 an36 cd36 ct36), sl36⟩) (c36 : PySem.W.codeIn K cd36 "House.grant" = true) (k36 : PySem.W.keepIn K (.ref f36) = true)
    (a37 : PySem.W.findIn K (.ref C_House) "asked" = some (some (.ref f37))) (i37 : PySem.W.isFn K (.ref f37) = true)
    (l37 : K.lookup f37 = some ⟨oc37, od37, .func (PySem.W.fnOf "asked" "House.asked" (defArgs s_House_asked) (defBody s_House_asked) (defScope s_House_asked) .none kV37 dc37 pm37 an37 cd37 ct37), sl37⟩) (c37 : PySem.W.codeIn K cd37 "House.asked" = true) (k37 : PySem.W.keepIn K (.ref f37) = true)
    (a38 : PySem.W.findIn K (.ref C_House) "more_asked" = some (some (.ref f38))) (i38 : PySem.W.isFn K (.ref f38) = true)
    (l38 : K.lookup f38 = some ⟨oc38, od38, .func (PySem.W.fnOf "more_asked" "House.more_asked" (defArgs s_House_more_asked) (defBody s_House_more_asked) (defScope s_House_more_asked) .none kV38 dc38 pm38 an38 cd38 ct38), sl38⟩) (c38 : PySem.W.codeIn K cd38 "House.more_asked" = true) (k38 : PySem.W.keepIn K (.ref f38) = true)
    (a39 : PySem.W.findIn K (.ref C_House) "told" = some (some (.ref f39))) (i39 : PySem.W.isFn K (.ref f39) = true)
    (l39 : K.lookup f39 = some ⟨oc39, od39, .func (PySem.W.fnOf "told" "House.told" (defArgs s_House_told) (defBody s_House_told) (defScope s_House_told) .none kV39 dc39 pm39 an39 cd39 ct39), sl39⟩) (c39 : PySem.W.codeIn K cd39 "House.told" = true) (k39 : PySem.W.keepIn K (.ref f39) = true)
    (a40 : PySem.W.findIn K (.ref C_House) "answer" = some (some (.ref f40))) (i40 : PySem.W.isFn K (.ref f40) = true)
    (l40 : K.lookup f40 = some ⟨oc40, od40, .func (PySem.W.fnOf "answer" "House.answer" (defArgs s_House_answer) (defBody s_House_answer) (defScope s_House_answer) .none kV40 dc40 pm40 an40 cd40 ct40), sl40⟩) (c40 : PySem.W.codeIn K cd40 "House.answer" = true) (k40 : PySem.W.keepIn K (.ref f40) = true)
    (a41 : PySem.W.findIn K (.ref C_House) "shown" = some (some (.ref f41))) (i41 : PySem.W.isFn K (.ref f41) = true)
    (l41 : K.lookup f41 = some ⟨oc41, od41, .func (PySem.W.fnOf "shown" "House.shown" (defArgs s_House_shown) (defBody s_House_shown) (defScope s_House_shown) .none kV41 dc41 pm41 an41 cd41 ct41), sl41⟩) (c41 : PySem.W.codeIn K cd41 "House.shown" = true) (k41 : PySem.W.keepIn K (.ref f41) = true)
    (a42 : PySem.W.findIn K (.ref C_House) "show" = some (some (.ref f42))) (i42 : PySem.W.isFn K (.ref f42) = true)
    (l42 : K.lookup f42 = some ⟨oc42, od42, .func (PySem.W.fnOf "show" "House.show" (defArgs s_House_show) (defBody s_House_show) (defScope s_House_show) .none kV42 dc42 pm42 an42 cd42 ct42), sl42⟩) (c42 : PySem.W.codeIn K cd42 "House.show" = true) (k42 : PySem.W.keepIn K (.ref f42) = true)
    (a43 : PySem.W.nsIn K mainGlobals "reply" = some (some (.ref f43)))
    (l43 : K.lookup f43 = some ⟨oc43, od43, .func (PySem.W.fnOf "reply" "reply" (defArgs s_reply) (defBody s_reply) (defScope s_reply) .none kV43 dc43 pm43 an43 cd43 ct43), sl43⟩) (c43 : PySem.W.codeIn K cd43 "reply" = true) (k43 : PySem.W.keepIn K (.ref f43) = true)
    (a44 : PySem.W.nsIn K mainGlobals "call_at" = some (some (.ref f44)))
    (l44 : K.lookup f44 = some ⟨oc44, od44, .func (PySem.W.fnOf "call_at" "call_at" (defArgs s_call_at) (defBody s_call_at) (defScope s_call_at) .none kV44 dc44 pm44 an44 cd44 ct44), sl44⟩) (c44 : PySem.W.codeIn K cd44 "call_at" = true) (k44 : PySem.W.keepIn K (.ref f44) = true)
    (a45 : PySem.W.nsIn K mainGlobals "answers" = some (some (.ref f45)))
    (l45 : K.lookup f45 = some ⟨oc45, od45, .func (PySem.W.fnOf "answers" "answers" (defArgs s_answers) (defBody s_answers) (defScope s_answers) .none kV45 dc45 pm45 an45 cd45 ct45), sl45⟩) (c45 : PySem.W.codeIn K cd45 "answers" = true) (k45 : PySem.W.keepIn K (.ref f45) = true)
    (x_NoMessage : PySem.W.excIn K C_NoMessage [.type "ValueError", .type "Exception", .type "BaseException", .type "object"] "ValueError.__new__" = true)
    (k_NoMessage : PySem.W.keepIn K (.ref C_NoMessage) = true)
    (b_NoMessage : PySem.W.subIn K (.ref C_NoMessage) (.type "BaseException") = some true)
    (t_NoMessage : PySem.W.typeIn K (.ref C_NoMessage) = some (.type "type"))
    (i_NoMessage : PySem.W.isClsIn K C_NoMessage = true)
    (s_NoMessage : PySem.W.subIn K (.ref C_NoMessage) (.ref C_NoMessage) = some true)
    (pg_Reader : PySem.W.plainGet K C_Reader Str.empty = true)
    (hd_Reader : PySem.W.hasDictIn K C_Reader = true)
    (po_Reader : PySem.W.plainOver K C_Reader = true)
    (sa_Reader : PySem.W.findIn K (.ref C_Reader) "__setattr__" = some (some (.builtin "object.__setattr__")))
    (mk_Reader : PySem.W.makesIn K C_Reader = true)
    (kc_Reader : PySem.W.keepIn K (.ref C_Reader) = true)
    (n_Reader_data : PySem.W.findIn K (.ref C_Reader) "data" = some none)
    (n_Reader_at : PySem.W.findIn K (.ref C_Reader) "at" = some none)
    (lk_Refusal : K.lookup C_Refusal = some (excClassObj nm_R q_R C_Refusal N_R bs_R [.type "ValueError", .type "Exception", .type "BaseException", .type "object"] true sn_R sub_R ab_R col_R dd_R m0_R m1_R m2_R m3_R m5_R "ValueError.__new__"))
    (sa_Refusal : PySem.W.findIn K (.ref C_Refusal) "__setattr__" = some (some (.builtin "object.__setattr__")))
    (ga_Refusal : PySem.W.findIn K (.ref C_Refusal) "__getattribute__" = some (some (.builtin "BaseException.__getattribute__")))
    (gg_Refusal : PySem.W.findIn K (.ref C_Refusal) "__getattr__" = some none)
    (nw_Refusal : PySem.W.findIn K (.ref C_Refusal) "why" = some none)
    (k_Refusal : PySem.W.keepIn K (.ref C_Refusal) = true)
    (b_Refusal : PySem.W.subIn K (.ref C_Refusal) (.type "BaseException") = some true)
    (t_Refusal : PySem.W.typeIn K (.ref C_Refusal) = some (.type "type"))
    (hd_Refusal : PySem.W.hasDictIn K C_Refusal = true)
    (i_Refusal : PySem.W.isClsIn K C_Refusal = true)
    (s_Refusal : PySem.W.subIn K (.ref C_Refusal) (.ref C_Refusal) = some true)
    (sn_Refusal : PySem.W.subIn K (.ref C_Refusal) (.ref C_NoMessage) = some false)
    (ve_Refusal : PySem.W.findCls K (.type "ValueError") (.type "type") "__init__" = some (.val (.builtin "ValueError.__init__")))
    (pg_House : PySem.W.plainGet K C_House Str.empty = true)
    (hd_House : PySem.W.hasDictIn K C_House = true)
    (po_House : PySem.W.plainOver K C_House = true)
    (sa_House : PySem.W.findIn K (.ref C_House) "__setattr__" = some (some (.builtin "object.__setattr__")))
    (mk_House : PySem.W.makesIn K C_House = true)
    (kc_House : PySem.W.keepIn K (.ref C_House) = true)
    (n_House_known : PySem.W.findIn K (.ref C_House) "known" = some none)
    (n_House_held : PySem.W.findIn K (.ref C_House) "held" = some none)
    (z_ValueError : PySem.W.nsIn K mainGlobals "ValueError" = some none)
    (z_abs : PySem.W.nsIn K mainGlobals "abs" = some none)
    (z_all : PySem.W.nsIn K mainGlobals "all" = some none)
    (z_dict : PySem.W.nsIn K mainGlobals "dict" = some none)
    (z_len : PySem.W.nsIn K mainGlobals "len" = some none)
    (z_list : PySem.W.nsIn K mainGlobals "list" = some none)
    (z_min : PySem.W.nsIn K mainGlobals "min" = some none)
    (z_range : PySem.W.nsIn K mainGlobals "range" = some none)
    (z_tuple : PySem.W.nsIn K mainGlobals "tuple" = some none)
    (z_zip : PySem.W.nsIn K mainGlobals "zip" = some none)
    (g_WORD : PySem.W.nsIn K mainGlobals "WORD" = some (some (.int 4294967296 t_WORD)))
    (g_BLOCK : PySem.W.nsIn K mainGlobals "BLOCK" = some (some (.int 18446744073709551616 t_BLOCK)))
    (g_WORD_BITS : PySem.W.nsIn K mainGlobals "WORD_BITS" = some (some (.int 32 t_WORD_BITS)))
    (g_BLOCK_BYTES : PySem.W.nsIn K mainGlobals "BLOCK_BYTES" = some (some (.int 8 t_BLOCK_BYTES)))
    (g_KEY_BYTES : PySem.W.nsIn K mainGlobals "KEY_BYTES" = some (some (.int 16 t_KEY_BYTES)))
    (g_ROUNDS : PySem.W.nsIn K mainGlobals "ROUNDS" = some (some (.int 32 t_ROUNDS)))
    (g_STEP : PySem.W.nsIn K mainGlobals "STEP" = some (some (.int 2654435769 t_STEP)))
    (g_FOR_SUM : PySem.W.nsIn K mainGlobals "FOR_SUM" = some (some (.int 54 t_FOR_SUM)))
    (g_FOR_STREAM : PySem.W.nsIn K mainGlobals "FOR_STREAM" = some (some (.int 92 t_FOR_STREAM)))
    (g_ASKED : PySem.W.nsIn K mainGlobals "ASKED" = some (some (.int 1 t_ASKED)))
    (g_GIVEN : PySem.W.nsIn K mainGlobals "GIVEN" = some (some (.int 2 t_GIVEN)))
    (g_MORE_ASKED : PySem.W.nsIn K mainGlobals "MORE_ASKED" = some (some (.int 3 t_MORE_ASKED)))
    (g_MORE_GIVEN : PySem.W.nsIn K mainGlobals "MORE_GIVEN" = some (some (.int 4 t_MORE_GIVEN)))
    (g_SHOWN : PySem.W.nsIn K mainGlobals "SHOWN" = some (some (.int 5 t_SHOWN)))
    (g_REFUSED : PySem.W.nsIn K mainGlobals "REFUSED" = some (some (.int 9 t_REFUSED)))
    (g_MOST_NAME : PySem.W.nsIn K mainGlobals "MOST_NAME" = some (some (.int 32 t_MOST_NAME)))
    (g_LENGTH_BYTES : PySem.W.nsIn K mainGlobals "LENGTH_BYTES" = some (some (.int 2 t_LENGTH_BYTES)))
    (g_TIME_BYTES : PySem.W.nsIn K mainGlobals "TIME_BYTES" = some (some (.int 8 t_TIME_BYTES)))
    (g_LIFE_BYTES : PySem.W.nsIn K mainGlobals "LIFE_BYTES" = some (some (.int 4 t_LIFE_BYTES)))
    (g_POINT : PySem.W.nsIn K mainGlobals "POINT" = some (some (.int 46 t_POINT)))
    (g_HYPHEN : PySem.W.nsIn K mainGlobals "HYPHEN" = some (some (.int 45 t_HYPHEN)))
    (g_HOUSE : PySem.W.nsIn K mainGlobals "HOUSE" = some (some (.ref a_HOUSE))) (h_HOUSE : K.lookup a_HOUSE = some ⟨.type "tuple", ot_HOUSE, .seq #[.int 107 t_HOUSE0, .int 101 t_HOUSE1, .int 121 t_HOUSE2, .int 115 t_HOUSE3] nt_HOUSE, st_HOUSE⟩)
    (g_MOST_MESSAGE : PySem.W.nsIn K mainGlobals "MOST_MESSAGE" = some (some (.int 512 t_MOST_MESSAGE)))
    (g_MOST_NAMES : PySem.W.nsIn K mainGlobals "MOST_NAMES" = some (some (.int 256 t_MOST_NAMES)))
    (g_MOST_HELD : PySem.W.nsIn K mainGlobals "MOST_HELD" = some (some (.int 1024 t_MOST_HELD)))
    (g_NEAR : PySem.W.nsIn K mainGlobals "NEAR" = some (some (.int 300 t_NEAR)))
    (g_CLIENT_BYTES : PySem.W.nsIn K mainGlobals "CLIENT_BYTES" = some (some (.int 33 t_CLIENT_BYTES)))
    (g_DONE : PySem.W.nsIn K mainGlobals "DONE" = some (some (.int 0 t_DONE)))
    (g_NOT_AS_TOLD : PySem.W.nsIn K mainGlobals "NOT_AS_TOLD" = some (some (.int (-2) t_NOT_AS_TOLD)))
    (g_NO_ROOM : PySem.W.nsIn K mainGlobals "NO_ROOM" = some (some (.int (-5) t_NO_ROOM)))
    (g_NO_MESSAGE : PySem.W.nsIn K mainGlobals "NO_MESSAGE" = some (some (.int 1 t_NO_MESSAGE)))
    (g_NO_CLIENT : PySem.W.nsIn K mainGlobals "NO_CLIENT" = some (some (.int 2 t_NO_CLIENT)))
    (g_NO_SERVICE : PySem.W.nsIn K mainGlobals "NO_SERVICE" = some (some (.int 3 t_NO_SERVICE)))
    (g_NO_LIFE : PySem.W.nsIn K mainGlobals "NO_LIFE" = some (some (.int 4 t_NO_LIFE)))
    (g_BAD_TICKET : PySem.W.nsIn K mainGlobals "BAD_TICKET" = some (some (.int 5 t_BAD_TICKET)))
    (g_NOT_NOW : PySem.W.nsIn K mainGlobals "NOT_NOW" = some (some (.int 6 t_NOT_NOW)))
    (g_BAD_PROOF : PySem.W.nsIn K mainGlobals "BAD_PROOF" = some (some (.int 7 t_BAD_PROOF)))
    (g_SHOWN_BEFORE : PySem.W.nsIn K mainGlobals "SHOWN_BEFORE" = some (some (.int 8 t_SHOWN_BEFORE)))
    (g_TOO_MANY_HELD : PySem.W.nsIn K mainGlobals "TOO_MANY_HELD" = some (some (.int 10 t_TOO_MANY_HELD)))
    (g_BEGIN : PySem.W.nsIn K mainGlobals "BEGIN" = some (some (.int 0 t_BEGIN)))
    (g_ADD : PySem.W.nsIn K mainGlobals "ADD" = some (some (.int 1 t_ADD)))
    (g_ANSWER : PySem.W.nsIn K mainGlobals "ANSWER" = some (some (.int 2 t_ANSWER)))
    (g_NUMBERS : PySem.W.nsIn K mainGlobals "NUMBERS" = some (some (.ref a_NUMBERS))) (h_NUMBERS : K.lookup a_NUMBERS = some ⟨.type "tuple", ot_NUMBERS, .seq #[.int 0 t_NUMBERS0, .int 1 t_NUMBERS1, .int 1 t_NUMBERS2, .int 1 t_NUMBERS3] nt_NUMBERS, st_NUMBERS⟩)
    (g_ROWS : PySem.W.nsIn K mainGlobals "ROWS" = some (some (.ref a_ROWS))) (h_ROWS : K.lookup a_ROWS = some ⟨.type "tuple", ot_ROWS, .seq #[.int 0 t_ROWS0, .int 2 t_ROWS1, .int 2 t_ROWS2, .int 2 t_ROWS3] nt_ROWS, st_ROWS⟩)
    : ∃ fd : FuncData, (∀ (s : Shared) (us : List Value), us.length = (["calls"] : List Str).length → BindsTo s fd ⟨us, []⟩ ((["calls"] : List Str).zip us)) ∧ ∀ base : Heap, K.In base → base.Ns mainGlobals mg → FnOk P w K mg base CX0 11 fa fd ["calls"] ((sp_answers K)) := by
  have e := hfa.symm.trans (PySem.W.mg_of X G a45)
  cases e
  have T : Txt K mg := ⟨PySem.W.mg_none_of X G z_ValueError, PySem.W.mg_none_of X G z_abs, PySem.W.mg_none_of X G z_all, PySem.W.mg_none_of X G z_dict, PySem.W.mg_none_of X G z_len, PySem.W.mg_none_of X G z_list, PySem.W.mg_none_of X G z_min, PySem.W.mg_none_of X G z_range, PySem.W.mg_none_of X G z_tuple, PySem.W.mg_none_of X G z_zip, ⟨_, PySem.W.mg_of X G g_WORD, ⟨_, rfl⟩⟩, ⟨_, PySem.W.mg_of X G g_BLOCK, ⟨_, rfl⟩⟩, ⟨_, PySem.W.mg_of X G g_WORD_BITS, ⟨_, rfl⟩⟩, ⟨_, PySem.W.mg_of X G g_BLOCK_BYTES, ⟨_, rfl⟩⟩, ⟨_, PySem.W.mg_of X G g_KEY_BYTES, ⟨_, rfl⟩⟩, ⟨_, PySem.W.mg_of X G g_ROUNDS, ⟨_, rfl⟩⟩, ⟨_, PySem.W.mg_of X G g_STEP, ⟨_, rfl⟩⟩, ⟨_, PySem.W.mg_of X G g_FOR_SUM, ⟨_, rfl⟩⟩, ⟨_, PySem.W.mg_of X G g_FOR_STREAM, ⟨_, rfl⟩⟩, ⟨_, PySem.W.mg_of X G g_ASKED, ⟨_, rfl⟩⟩, ⟨_, PySem.W.mg_of X G g_GIVEN, ⟨_, rfl⟩⟩, ⟨_, PySem.W.mg_of X G g_MORE_ASKED, ⟨_, rfl⟩⟩, ⟨_, PySem.W.mg_of X G g_MORE_GIVEN, ⟨_, rfl⟩⟩, ⟨_, PySem.W.mg_of X G g_SHOWN, ⟨_, rfl⟩⟩, ⟨_, PySem.W.mg_of X G g_REFUSED, ⟨_, rfl⟩⟩, ⟨_, PySem.W.mg_of X G g_MOST_NAME, ⟨_, rfl⟩⟩, ⟨_, PySem.W.mg_of X G g_LENGTH_BYTES, ⟨_, rfl⟩⟩, ⟨_, PySem.W.mg_of X G g_TIME_BYTES, ⟨_, rfl⟩⟩, ⟨_, PySem.W.mg_of X G g_LIFE_BYTES, ⟨_, rfl⟩⟩, ⟨_, PySem.W.mg_of X G g_POINT, ⟨_, rfl⟩⟩, ⟨_, PySem.W.mg_of X G g_HYPHEN, ⟨_, rfl⟩⟩, ⟨_, PySem.W.mg_of X G g_HOUSE, fun H => tup_at h_HOUSE⟩, ⟨_, PySem.W.mg_of X G g_MOST_MESSAGE, ⟨_, rfl⟩⟩, ⟨_, PySem.W.mg_of X G g_MOST_NAMES, ⟨_, rfl⟩⟩, ⟨_, PySem.W.mg_of X G g_MOST_HELD, ⟨_, rfl⟩⟩, ⟨_, PySem.W.mg_of X G g_NEAR, ⟨_, rfl⟩⟩, ⟨_, PySem.W.mg_of X G g_CLIENT_BYTES, ⟨_, rfl⟩⟩, ⟨_, PySem.W.mg_of X G g_DONE, ⟨_, rfl⟩⟩, ⟨_, PySem.W.mg_of X G g_NOT_AS_TOLD, ⟨_, rfl⟩⟩, ⟨_, PySem.W.mg_of X G g_NO_ROOM, ⟨_, rfl⟩⟩, ⟨_, PySem.W.mg_of X G g_NO_MESSAGE, ⟨_, rfl⟩⟩, ⟨_, PySem.W.mg_of X G g_NO_CLIENT, ⟨_, rfl⟩⟩, ⟨_, PySem.W.mg_of X G g_NO_SERVICE, ⟨_, rfl⟩⟩, ⟨_, PySem.W.mg_of X G g_NO_LIFE, ⟨_, rfl⟩⟩, ⟨_, PySem.W.mg_of X G g_BAD_TICKET, ⟨_, rfl⟩⟩, ⟨_, PySem.W.mg_of X G g_NOT_NOW, ⟨_, rfl⟩⟩, ⟨_, PySem.W.mg_of X G g_BAD_PROOF, ⟨_, rfl⟩⟩, ⟨_, PySem.W.mg_of X G g_SHOWN_BEFORE, ⟨_, rfl⟩⟩, ⟨_, PySem.W.mg_of X G g_TOO_MANY_HELD, ⟨_, rfl⟩⟩, ⟨_, PySem.W.mg_of X G g_BEGIN, ⟨_, rfl⟩⟩, ⟨_, PySem.W.mg_of X G g_ADD, ⟨_, rfl⟩⟩, ⟨_, PySem.W.mg_of X G g_ANSWER, ⟨_, rfl⟩⟩, ⟨_, PySem.W.mg_of X G g_NUMBERS, fun H => tup_at h_NUMBERS⟩, ⟨_, PySem.W.mg_of X G g_ROWS, fun H => tup_at h_ROWS⟩⟩
  have TC : TxtC K mg ⟨C_NoMessage, C_Reader, C_Refusal, C_House⟩ := ⟨PySem.W.mg_of X G aC_NoMessage, x_NoMessage, k_NoMessage, b_NoMessage, t_NoMessage, exm_self b_NoMessage i_NoMessage t_NoMessage s_NoMessage, ⟨pg_Reader, hd_Reader, po_Reader, sa_Reader⟩, PySem.W.mg_of X G aC_Reader, n_Reader_data, n_Reader_at, PySem.W.mg_of X G aC_Refusal, ⟨⟨_, _, _, _, _, _, _, _, _, _, _, _, _, _, _, lk_Refusal, by decide +kernel⟩, sa_Refusal, b_Refusal, t_Refusal, k_Refusal⟩, ⟨ga_Refusal, gg_Refusal, b_Refusal, hd_Refusal⟩, nw_Refusal, exm_self b_Refusal i_Refusal t_Refusal s_Refusal, exm_any b_NoMessage i_NoMessage t_NoMessage sn_Refusal, ve_Refusal, ⟨pg_House, hd_House, po_House, sa_House⟩, PySem.W.mg_of X G aC_House, n_House_known, n_House_held⟩
  have F1 := fun_mk (st := s_high_first) l1 c1 k1
  have F2 := fun_mk (st := s_number_of) l2 c2 k2
  have F3 := fun_mk (st := s_spread) l3 c3 k3
  have F4 := fun_mk (st := s_enciphered) l4 c4 k4
  have F5 := fun_mk (st := s_words_of) l5 c5 k5
  have F6 := fun_mk (st := s_sum_of) l6 c6 k6
  have F7 := fun_mk (st := s_streamed) l7 c7 k7
  have F8 := fun_mk (st := s_sealed) l8 c8 k8
  have F9 := fun_mk (st := s_opened) l9 c9 k9
  have F10 := fun_mk (st := s_is_name_byte) l10 c10 k10
  have F11 := fun_mk (st := s_is_name) l11 c11 k11
  have F12 := fun_mk (st := s_name_told) l12 c12 k12
  have F13 := fun_mk (st := s_row_told) l13 c13 k13
  have F14 := fun_mk (st := s_time_told) l14 c14 k14
  have F15 := fun_mk (st := s_ticket_of) l15 c15 k15
  have F16 := fun_mk (st := s_given_told) l16 c16 k16
  have F17 := fun_mk (st := s_Reader___init__) l17 c17 k17
  have F18 := fun_mk (st := s_Reader_some) l18 c18 k18
  have F19 := fun_mk (st := s_Reader_number) l19 c19 k19
  have F20 := fun_mk (st := s_Reader_take_name) l20 c20 k20
  have F21 := fun_mk (st := s_Reader_row) l21 c21 k21
  have F22 := fun_mk (st := s_Reader_time) l22 c22 k22
  have F23 := fun_mk (st := s_Reader_want_end) l23 c23 k23
  have F24 := fun_mk (st := s_asked_in) l24 c24 k24
  have F25 := fun_mk (st := s_more_asked_in) l25 c25 k25
  have F26 := fun_mk (st := s_two_rows_in) l26 c26 k26
  have F27 := fun_mk (st := s_ticket_within) l27 c27 k27
  have F28 := fun_mk (st := s_proof_within) l28 c28 k28
  have F29 := fun_mk (st := s_opened_as) l29 c29 k29
  have F30 := fun_mk (st := s_Refusal___init__) l30 c30 k30
  have F31 := fun_mk (st := s_want) l31 c31 k31
  have F32 := fun_mk (st := s_House___init__) l32 c32 k32
  have F33 := fun_mk (st := s_House_add) l33 c33 k33
  have F34 := fun_mk (st := s_House_hold) l34 c34 k34
  have F35 := fun_mk (st := s_House_let_in) l35 c35 k35
  have F36 := fun_mk (st := s_House_grant) l36 c36 k36
  have F37 := fun_mk (st := s_House_asked) l37 c37 k37
  have F38 := fun_mk (st := s_House_more_asked) l38 c38 k38
  have F39 := fun_mk (st := s_House_told) l39 c39 k39
  have F40 := fun_mk (st := s_House_answer) l40 c40 k40
  have F41 := fun_mk (st := s_House_shown) l41 c41 k41
  have F42 := fun_mk (st := s_House_show) l42 c42 k42
  have F43 := fun_mk (st := s_reply) l43 c43 k43
  have F44 := fun_mk (st := s_call_at) l44 c44 k44
  have F45 := fun_mk (st := s_answers) l45 c45 k45
  refine ⟨PySem.W.fnOf "answers" "answers" (defArgs s_answers) (defBody s_answers) (defScope s_answers) .none kV45 dc45 pm45 an45 cd45 ct45, fun s us hu => match us, hu with | [_], _ => .of_eq rfl, fun base _ _ => ?_⟩
  have b1 := F1.binds (ps := ["number", "many"]) fun _ _ _ _ _ _ us hl => match us, hl with | [_, _], _ => rfl
  have D1 : Df P w K mg base CX0 1 "high_first" ["number", "many"] (sp_high_first) := ⟨⟨_, _, ok_high_first F1 T, PySem.W.mg_of X G a1, k1, b1⟩⟩
  have b2 := F2.binds (ps := ["row"]) fun _ _ _ _ _ _ us hl => match us, hl with | [_], _ => rfl
  have D2 : Df P w K mg base CX0 1 "number_of" ["row"] ((sp_number_of K)) := ⟨⟨_, _, ok_number_of F2 T, PySem.W.mg_of X G a2, k2, b2⟩⟩
  have b3 := F3.binds (ps := ["half"]) fun _ _ _ _ _ _ us hl => match us, hl with | [_], _ => rfl
  have D3 : Df P w K mg base CX0 1 "spread" ["half"] (sp_spread) := ⟨⟨_, _, ok_spread F3 T, PySem.W.mg_of X G a3, k3, b3⟩⟩
  have b4 := F4.binds (ps := ["words", "block"]) fun _ _ _ _ _ _ us hl => match us, hl with | [_, _], _ => rfl
  have D4 : Df P w K mg base CX0 2 "enciphered" ["words", "block"] ((sp_enciphered K)) := ⟨⟨_, _, ok_enciphered F4 T D3, PySem.W.mg_of X G a4, k4, b4⟩⟩
  have b5 := F5.binds (ps := ["key", "byte"]) fun _ _ _ _ _ _ us hl => match us, hl with | [_, _], _ => rfl
  have D5 : Df P w K mg base CX0 2 "words_of" ["key", "byte"] ((sp_words_of K)) := ⟨⟨_, _, ok_words_of F5 T D2, PySem.W.mg_of X G a5, k5, b5⟩⟩
  have b6 := F6.binds (ps := ["key", "text"]) fun _ _ _ _ _ _ us hl => match us, hl with | [_, _], _ => rfl
  have D6 : Df P w K mg base CX0 3 "sum_of" ["key", "text"] ((sp_sum_of K)) := ⟨⟨_, _, ok_sum_of F6 T D5 D1 D4 D2, PySem.W.mg_of X G a6, k6, b6⟩⟩
  have b7 := F7.binds (ps := ["key", "begin", "text"]) fun _ _ _ _ _ _ us hl => match us, hl with | [_, _, _], _ => rfl
  have D7 : Df P w K mg base CX0 3 "streamed" ["key", "begin", "text"] ((sp_streamed K)) := ⟨⟨_, _, ok_streamed F7 T D5 D1 D4, PySem.W.mg_of X G a7, k7, b7⟩⟩
  have b8 := F8.binds (ps := ["key", "text"]) fun _ _ _ _ _ _ us hl => match us, hl with | [_, _], _ => rfl
  have D8 : Df P w K mg base CX0 4 "sealed" ["key", "text"] ((sp_sealed K)) := ⟨⟨_, _, ok_sealed F8 T D6 D1 D7, PySem.W.mg_of X G a8, k8, b8⟩⟩
  have b9 := F9.binds (ps := ["key", "row"]) fun _ _ _ _ _ _ us hl => match us, hl with | [_, _], _ => rfl
  have D9 : Df P w K mg base CX0 4 "opened" ["key", "row"] ((sp_opened K)) := ⟨⟨_, _, ok_opened F9 T D6 D2 D7, PySem.W.mg_of X G a9, k9, b9⟩⟩
  have b10 := F10.binds (ps := ["byte"]) fun _ _ _ _ _ _ us hl => match us, hl with | [_], _ => rfl
  have D10 : Df P w K mg base CX0 1 "is_name_byte" ["byte"] (sp_is_name_byte) := ⟨⟨_, _, ok_is_name_byte F10 T, PySem.W.mg_of X G a10, k10, b10⟩⟩
  have b11 := F11.binds (ps := ["row"]) fun _ _ _ _ _ _ us hl => match us, hl with | [_], _ => rfl
  have D11 : Df P w K mg base CX0 2 "is_name" ["row"] ((sp_is_name K)) := ⟨⟨_, _, ok_is_name F11 T D10, PySem.W.mg_of X G a11, k11, b11⟩⟩
  have b12 := F12.binds (ps := ["name"]) fun _ _ _ _ _ _ us hl => match us, hl with | [_], _ => rfl
  have D12 : Df P w K mg base CX0 1 "name_told" ["name"] ((sp_name_told K)) := ⟨⟨_, _, ok_name_told F12 T, PySem.W.mg_of X G a12, k12, b12⟩⟩
  have b13 := F13.binds (ps := ["row"]) fun _ _ _ _ _ _ us hl => match us, hl with | [_], _ => rfl
  have D13 : Df P w K mg base CX0 2 "row_told" ["row"] ((sp_row_told K)) := ⟨⟨_, _, ok_row_told F13 T D1, PySem.W.mg_of X G a13, k13, b13⟩⟩
  have b14 := F14.binds (ps := ["number"]) fun _ _ _ _ _ _ us hl => match us, hl with | [_], _ => rfl
  have D14 : Df P w K mg base CX0 2 "time_told" ["number"] (sp_time_told) := ⟨⟨_, _, ok_time_told F14 T D1, PySem.W.mg_of X G a14, k14, b14⟩⟩
  have b15 := F15.binds (ps := ["service_key", "client", "key", "start", "end"]) fun _ _ _ _ _ _ us hl => match us, hl with | [_, _, _, _, _], _ => rfl
  have D15 : Df P w K mg base CX0 5 "ticket_of" ["service_key", "client", "key", "start", "end"] ((sp_ticket_of K)) := ⟨⟨_, _, ok_ticket_of F15 T D8 D12 D14, PySem.W.mg_of X G a15, k15, b15⟩⟩
  have b16 := F16.binds (ps := ["sort", "ticket", "key", "grant"]) fun _ _ _ _ _ _ us hl => match us, hl with | [_, _, _, _], _ => rfl
  have D16 : Df P w K mg base CX0 5 "given_told" ["sort", "ticket", "key", "grant"] ((sp_given_told K)) := ⟨⟨_, _, ok_given_told F16 T D8 D12 D14 D13, PySem.W.mg_of X G a16, k16, b16⟩⟩
  have b17 := F17.binds (ps := ["self", "data"]) fun _ _ _ _ _ _ us hl => match us, hl with | [_, _], _ => rfl
  have D17 : Cn P w K mg base CX0 1 "Reader" C_Reader ["self", "data"] ((sp_Reader___init__ K C_Reader)) := ⟨⟨_, _, ok_Reader___init__ F17 T TC, ⟨mk_Reader, a17, i17, kc_Reader⟩, b17, PySem.W.mg_of X G aC_Reader⟩⟩
  have b18 := F18.binds (ps := ["self", "many"]) fun _ _ _ _ _ _ us hl => match us, hl with | [_, _], _ => rfl
  have D18 : Mt P w K mg base (L2.CX P w) 1 C_Reader "some" ["self", "many"] ((sp_Reader_some K C_Reader C_NoMessage)) := ⟨⟨_, _, ok_Reader_some F18 T TC, ⟨a18, i18, k18⟩, b18⟩⟩
  have b19 := F19.binds (ps := ["self", "many"]) fun _ _ _ _ _ _ us hl => match us, hl with | [_, _], _ => rfl
  have D19 : Mt P w K mg base (L2.CX P w) 2 C_Reader "number" ["self", "many"] ((sp_Reader_number K C_Reader C_NoMessage)) := ⟨⟨_, _, ok_Reader_number F19 T TC D18 D2, ⟨a19, i19, k19⟩, b19⟩⟩
  have b20 := F20.binds (ps := ["self"]) fun _ _ _ _ _ _ us hl => match us, hl with | [_], _ => rfl
  have D20 : Mt P w K mg base (L2.CX P w) 3 C_Reader "take_name" ["self"] ((sp_Reader_take_name K C_Reader C_NoMessage)) := ⟨⟨_, _, ok_Reader_take_name F20 T TC D18 D19 D11, ⟨a20, i20, k20⟩, b20⟩⟩
  have b21 := F21.binds (ps := ["self"]) fun _ _ _ _ _ _ us hl => match us, hl with | [_], _ => rfl
  have D21 : Mt P w K mg base (L2.CX P w) 3 C_Reader "row" ["self"] ((sp_Reader_row K C_Reader C_NoMessage)) := ⟨⟨_, _, ok_Reader_row F21 T TC D18 D19, ⟨a21, i21, k21⟩, b21⟩⟩
  have b22 := F22.binds (ps := ["self"]) fun _ _ _ _ _ _ us hl => match us, hl with | [_], _ => rfl
  have D22 : Mt P w K mg base (L2.CX P w) 3 C_Reader "time" ["self"] ((sp_Reader_time K C_Reader C_NoMessage)) := ⟨⟨_, _, ok_Reader_time F22 T TC D19, ⟨a22, i22, k22⟩, b22⟩⟩
  have b23 := F23.binds (ps := ["self"]) fun _ _ _ _ _ _ us hl => match us, hl with | [_], _ => rfl
  have D23 : Mt P w K mg base (L2.CX P w) 1 C_Reader "want_end" ["self"] ((sp_Reader_want_end K C_Reader C_NoMessage)) := ⟨⟨_, _, ok_Reader_want_end F23 T TC, ⟨a23, i23, k23⟩, b23⟩⟩
  have b24 := F24.binds (ps := ["data"]) fun _ _ _ _ _ _ us hl => match us, hl with | [_], _ => rfl
  have D24 : Df P w K mg base (L2.CX P w) 4 "asked_in" ["data"] ((sp_asked_in K C_NoMessage)) := ⟨⟨_, _, ok_asked_in F24 T TC D17 D20 D22 D19 D23, PySem.W.mg_of X G a24, k24, b24⟩⟩
  have b25 := F25.binds (ps := ["data"]) fun _ _ _ _ _ _ us hl => match us, hl with | [_], _ => rfl
  have D25 : Df P w K mg base (L2.CX P w) 4 "more_asked_in" ["data"] ((sp_more_asked_in K C_NoMessage)) := ⟨⟨_, _, ok_more_asked_in F25 T TC D17 D21 D20 D22 D19 D23, PySem.W.mg_of X G a25, k25, b25⟩⟩
  have b26 := F26.binds (ps := ["data"]) fun _ _ _ _ _ _ us hl => match us, hl with | [_], _ => rfl
  have D26 : Df P w K mg base (L2.CX P w) 4 "two_rows_in" ["data"] ((sp_two_rows_in K C_NoMessage)) := ⟨⟨_, _, ok_two_rows_in F26 T TC D17 D21 D23, PySem.W.mg_of X G a26, k26, b26⟩⟩
  have b27 := F27.binds (ps := ["text"]) fun _ _ _ _ _ _ us hl => match us, hl with | [_], _ => rfl
  have DA27 : DfA P w K mg base (L2.CX P w) 4 "ticket_within" ["text"] ((sp_ticket_within K C_NoMessage)) f27 := ⟨⟨_, ok_ticket_within F27 T TC D17 D20 D18 D22 D23, PySem.W.mg_of X G a27, k27, b27⟩⟩
  have DW27 : DfA P w K mg base (L2.CX P w) 4 "ticket_within" ["text"] ((sp_ticket_within K C_NoMessage)) f27 := ⟨⟨_, FnOk.mono (ok_ticket_within F27 T TC D17 D20 D18 D22 D23) (by decide), PySem.W.mg_of X G a27, k27, b27⟩⟩
  have b28 := F28.binds (ps := ["text"]) fun _ _ _ _ _ _ us hl => match us, hl with | [_], _ => rfl
  have DA28 : DfA P w K mg base (L2.CX P w) 4 "proof_within" ["text"] ((sp_proof_within K C_NoMessage)) f28 := ⟨⟨_, ok_proof_within F28 T TC D17 D20 D22 D23, PySem.W.mg_of X G a28, k28, b28⟩⟩
  have DW28 : DfA P w K mg base (L2.CX P w) 4 "proof_within" ["text"] ((sp_proof_within K C_NoMessage)) f28 := ⟨⟨_, FnOk.mono (ok_proof_within F28 T TC D17 D20 D22 D23) (by decide), PySem.W.mg_of X G a28, k28, b28⟩⟩
  have b29 := F29.binds (ps := ["key", "row", "within"]) fun _ _ _ _ _ _ us hl => match us, hl with | [_, _, _], _ => rfl
  have Do27 : Df P w K mg base CX0 5 "opened_as" ["key", "row", "within"] (sp_opened_as K C_NoMessage f27 (sp_ticket_within K C_NoMessage)) := ⟨⟨_, _, ok_opened_as F29 T TC D9 DW27, PySem.W.mg_of X G a29, k29, b29⟩⟩
  have Do28 : Df P w K mg base CX0 5 "opened_as" ["key", "row", "within"] (sp_opened_as K C_NoMessage f28 (sp_proof_within K C_NoMessage)) := ⟨⟨_, _, ok_opened_as F29 T TC D9 DW28, PySem.W.mg_of X G a29, k29, b29⟩⟩
  have b30 := F30.binds (ps := ["self", "why"]) fun _ _ _ _ _ _ us hl => match us, hl with | [_, _], _ => rfl
  have D30 : Cr P w K mg base CX0 1 "Refusal" C_Refusal ["self", "why"] ((sp_Refusal___init__ C_Refusal)) := ⟨⟨_, _, ok_Refusal___init__ F30 T TC, a30, ty30, b30⟩⟩
  have b31 := F31.binds (ps := ["truth", "why"]) fun _ _ _ _ _ _ us hl => match us, hl with | [_, _], _ => rfl
  have D31 : Df P w K mg base (L2.CX P w) 3 "want" ["truth", "why"] ((sp_want C_Refusal)) := ⟨⟨_, _, ok_want F31 T TC D30, PySem.W.mg_of X G a31, k31, b31⟩⟩
  have b32 := F32.binds (ps := ["self"]) fun _ _ _ _ _ _ us hl => match us, hl with | [_], _ => rfl
  have D32 : Cn P w K mg base CX0 1 "House" C_House ["self"] ((sp_House___init__ P w K C_House)) := ⟨⟨_, _, ok_House___init__ F32 T TC, ⟨mk_House, a32, i32, kc_House⟩, b32, PySem.W.mg_of X G aC_House⟩⟩
  have b33 := F33.binds (ps := ["self", "life", "name", "key"]) fun _ _ _ _ _ _ us hl => match us, hl with | [_, _, _, _], _ => rfl
  have D33 : ∀ N : Addr, Mt P w K mg base CX0 3 C_House "add" ["self", "life", "name", "key"] ((sp_House_add P w K C_House N)) := fun N => ⟨⟨_, _, ok_House_add F33 T TC D11, ⟨a33, i33, k33⟩, b33⟩⟩
  have b34 := F34.binds (ps := ["self", "client", "time", "service", "now"]) fun _ _ _ _ _ _ us hl => match us, hl with | [_, _, _, _, _], _ => rfl
  have D34 : ∀ N : Addr, Mt P w K mg base (L2.CX P w) 4 C_House "hold" ["self", "client", "time", "service", "now"] ((sp_House_hold P w K C_House N C_Refusal)) := fun N => ⟨⟨_, _, ok_House_hold F34 T TC D31, ⟨a34, i34, k34⟩, b34⟩⟩
  have b35 := F35.binds (ps := ["self", "service", "ticket", "proof", "now"]) fun _ _ _ _ _ _ us hl => match us, hl with | [_, _, _, _, _], _ => rfl
  have D35 : ∀ N : Addr, Mt P w K mg base (L2.CX P w) 6 C_House "let_in" ["self", "service", "ticket", "proof", "now"] ((sp_House_let_in P w K C_House N C_Refusal)) := fun N => ⟨⟨_, _, ok_House_let_in F35 T TC D31 Do27 DA27 Do28 DA28 (D34 N), ⟨a35, i35, k35⟩, b35⟩⟩
  have b36 := F36.binds (ps := ["self", "client", "service", "now", "end", "fresh"]) fun _ _ _ _ _ _ us hl => match us, hl with | [_, _, _, _, _, _], _ => rfl
  have D36 : ∀ N : Addr, Mt P w K mg base CX0 6 C_House "grant" ["self", "client", "service", "now", "end", "fresh"] ((sp_House_grant P w K C_House N)) := fun N => ⟨⟨_, _, ok_House_grant F36 T TC D15, ⟨a36, i36, k36⟩, b36⟩⟩
  have b37 := F37.binds (ps := ["self", "now", "data", "fresh"]) fun _ _ _ _ _ _ us hl => match us, hl with | [_, _, _, _], _ => rfl
  have D37 : ∀ N : Addr, Mt P w K mg base (L2.CX P w) 7 C_House "asked" ["self", "now", "data", "fresh"] ((sp_House_asked P w K C_House N C_Refusal C_NoMessage)) := fun N => ⟨⟨_, _, ok_House_asked F37 T TC D24 D31 (D36 N) D16, ⟨a37, i37, k37⟩, b37⟩⟩
  have b38 := F38.binds (ps := ["self", "now", "data", "fresh"]) fun _ _ _ _ _ _ us hl => match us, hl with | [_, _, _, _], _ => rfl
  have D38 : ∀ N : Addr, Mt P w K mg base (L2.CX P w) 7 C_House "more_asked" ["self", "now", "data", "fresh"] ((sp_House_more_asked P w K C_House N C_Refusal C_NoMessage)) := fun N => ⟨⟨_, _, ok_House_more_asked F38 T TC D25 D31 (D36 N) D16 (D35 N), ⟨a38, i38, k38⟩, b38⟩⟩
  have b39 := F39.binds (ps := ["self", "now", "message", "fresh"]) fun _ _ _ _ _ _ us hl => match us, hl with | [_, _, _, _], _ => rfl
  have D39 : ∀ N : Addr, Mt P w K mg base CX0 8 C_House "told" ["self", "now", "message", "fresh"] ((sp_House_told P w K C_House N)) := fun N => ⟨⟨_, _, ok_House_told F39 T TC D31 (D37 N) (D38 N), ⟨a39, i39, k39⟩, b39⟩⟩
  have b40 := F40.binds (ps := ["self", "now", "message", "fresh"]) fun _ _ _ _ _ _ us hl => match us, hl with | [_, _, _, _], _ => rfl
  have D40 : ∀ N : Addr, Mt P w K mg base CX0 9 C_House "answer" ["self", "now", "message", "fresh"] ((sp_House_answer P w K C_House N)) := fun N => ⟨⟨_, _, ok_House_answer F40 T TC (D39 N), ⟨a40, i40, k40⟩, b40⟩⟩
  have b41 := F41.binds (ps := ["self", "now", "service", "message"]) fun _ _ _ _ _ _ us hl => match us, hl with | [_, _, _, _], _ => rfl
  have D41 : ∀ N : Addr, Mt P w K mg base (L2.CX P w) 7 C_House "shown" ["self", "now", "service", "message"] ((sp_House_shown P w K C_House N C_Refusal C_NoMessage)) := fun N => ⟨⟨_, _, ok_House_shown F41 T TC D26 D31 D12 (D35 N), ⟨a41, i41, k41⟩, b41⟩⟩
  have b42 := F42.binds (ps := ["self", "now", "name", "message"]) fun _ _ _ _ _ _ us hl => match us, hl with | [_, _, _, _], _ => rfl
  have D42 : ∀ N : Addr, Mt P w K mg base CX0 8 C_House "show" ["self", "now", "name", "message"] ((sp_House_show P w K C_House N)) := fun N => ⟨⟨_, _, ok_House_show F42 T TC D11 (D41 N), ⟨a42, i42, k42⟩, b42⟩⟩
  have b43 := F43.binds (ps := ["house", "kind", "numbers", "rows"]) fun _ _ _ _ _ _ us hl => match us, hl with | [_, _, _, _], _ => rfl
  have D43 : Df P w K mg base CX0 10 "reply" ["house", "kind", "numbers", "rows"] ((sp_reply P w K C_House)) := ⟨⟨_, _, ok_reply F43 T TC D33 D40 D42, PySem.W.mg_of X G a43, k43, b43⟩⟩
  have b44 := F44.binds (ps := ["calls", "at"]) fun _ _ _ _ _ _ us hl => match us, hl with | [_, _], _ => rfl
  have D44 : Df P w K mg base CX0 1 "call_at" ["calls", "at"] ((sp_call_at K)) := ⟨⟨_, _, ok_call_at F44 T, PySem.W.mg_of X G a44, k44, b44⟩⟩
  exact ok_answers F45 T TC D32 D44 D43
end Th
open PySem PySem.W PyProof.Rows
set_option maxRecDepth 100000 in
set_option maxHeartbeats 16000000 in
theorem PySem.Challenge.cw_trusthouse_s01_answers_holds : PySem.Challenge.rw_trusthouse_s01_answers.Holds := by
  w_on; k_headS; (case hw => exact ⟨[.list [.int 0]], by decide +kernel, by decide +kernel⟩)
  k_fillS
  refine L2.walk_specK (r := PySem.Challenge.rw_trusthouse_s01_answers) (k := 11) (CX := L2.CX0) (ps := ["calls"]) (sp := Th.sp_answers) (by decide +kernel) rfl rfl ⟨rfl, by decide, by decide⟩ (fun w h Y => PySem.W.kIn_of Y) ?F ?S (fun _ _ _ _ z => z)
  case F =>
    intro w mg fa h Y KX G hmg
    refine' Th.all_mk KX G hmg ?aC_NoMessage ?aC_Reader ?aC_Refusal ?aC_House ?a1 ?l1 ?c1 ?k1 ?a2 ?l2 ?c2 ?k2 ?a3 ?l3 ?c3 ?k3 ?a4 ?l4 ?c4 ?k4 ?a5 ?l5 ?c5 ?k5 ?a6 ?l6 ?c6 ?k6 ?a7 ?l7 ?c7 ?k7 ?a8 ?l8 ?c8 ?k8 ?a9 ?l9 ?c9 ?k9 ?a10 ?l10 ?c10 ?k10 ?a11 ?l11 ?c11 ?k11 ?a12 ?l12 ?c12 ?k12 ?a13 ?l13 ?c13 ?k13 ?a14 ?l14 ?c14 ?k14 ?a15 ?l15 ?c15 ?k15 ?a16 ?l16 ?c16 ?k16 ?a17 ?i17 ?l17 ?c17 ?k17 ?a18 ?i18 ?l18 ?c18 ?k18 ?a19 ?i19 ?l19 ?c19 ?k19 ?a20 ?i20 ?l20 ?c20 ?k20 ?a21 ?i21 ?l21 ?c21 ?k21 ?a22 ?i22 ?l22 ?c22 ?k22 ?a23 ?i23 ?l23 ?c23 ?k23 ?a24 ?l24 ?c24 ?k24 ?a25 ?l25 ?c25 ?k25 ?a26 ?l26 ?c26 ?k26 ?a27 ?l27 ?c27 ?k27 ?a28 ?l28 ?c28 ?k28 ?a29 ?l29 ?c29 ?k29 ?a30 ?i30 ?l30 ?c30 ?k30 ?ty30 ?a31 ?l31 ?c31 ?k31 ?a32 ?i32 ?l32 ?c32 ?k32 ?a33 ?i33 ?l33 ?c33 ?k33 ?a34 ?i34 ?l34 ?c34 ?k34 ?a35 ?i35 ?l35 ?c35 ?k35 ?a36 ?i36 ?l36 ?c36 ?k36 ?a37 ?i37 ?l37 ?c37 ?k37 ?a38 ?i38 ?l38 ?c38 ?k38 ?a39 ?i39 ?l39 ?c39 ?k39 ?a40 ?i40 ?l40 ?c40 ?k40 ?a41 ?i41 ?l41 ?c41 ?k41 ?a42 ?i42 ?l42 ?c42 ?k42 ?a43 ?l43 ?c43 ?k43 ?a44 ?l44 ?c44 ?k44 ?a45 ?l45 ?c45 ?k45 ?x_NoMessage ?k_NoMessage ?b_NoMessage ?t_NoMessage ?i_NoMessage ?s_NoMessage ?pg_Reader ?hd_Reader ?po_Reader ?sa_Reader ?mk_Reader ?kc_Reader ?n_Reader_data ?n_Reader_at ?lk_Refusal ?sa_Refusal ?ga_Refusal ?gg_Refusal ?nw_Refusal ?k_Refusal ?b_Refusal ?t_Refusal ?hd_Refusal ?i_Refusal ?s_Refusal ?sn_Refusal ?ve_Refusal ?pg_House ?hd_House ?po_House ?sa_House ?mk_House ?kc_House ?n_House_known ?n_House_held ?z_ValueError ?z_abs ?z_all ?z_dict ?z_len ?z_list ?z_min ?z_range ?z_tuple ?z_zip ?g_WORD ?g_BLOCK ?g_WORD_BITS ?g_BLOCK_BYTES ?g_KEY_BYTES ?g_ROUNDS ?g_STEP ?g_FOR_SUM ?g_FOR_STREAM ?g_ASKED ?g_GIVEN ?g_MORE_ASKED ?g_MORE_GIVEN ?g_SHOWN ?g_REFUSED ?g_MOST_NAME ?g_LENGTH_BYTES ?g_TIME_BYTES ?g_LIFE_BYTES ?g_POINT ?g_HYPHEN ?g_HOUSE ?h_HOUSE ?g_MOST_MESSAGE ?g_MOST_NAMES ?g_MOST_HELD ?g_NEAR ?g_CLIENT_BYTES ?g_DONE ?g_NOT_AS_TOLD ?g_NO_ROOM ?g_NO_MESSAGE ?g_NO_CLIENT ?g_NO_SERVICE ?g_NO_LIFE ?g_BAD_TICKET ?g_NOT_NOW ?g_BAD_PROOF ?g_SHOWN_BEFORE ?g_TOO_MANY_HELD ?g_BEGIN ?g_ADD ?g_ANSWER ?g_NUMBERS ?h_NUMBERS ?g_ROWS ?h_ROWS
    (case aC_NoMessage => k_is)
    (case aC_Reader => k_is)
    (case aC_Refusal => k_is)
    (case aC_House => k_is)
    (case a1 => k_is)
    (case l1 => k_is)
    (case c1 => k_is)
    (case k1 => k_is)
    (case a2 => k_is)
    (case l2 => k_is)
    (case c2 => k_is)
    (case k2 => k_is)
    (case a3 => k_is)
    (case l3 => k_is)
    (case c3 => k_is)
    (case k3 => k_is)
    (case a4 => k_is)
    (case l4 => k_is)
    (case c4 => k_is)
    (case k4 => k_is)
    (case a5 => k_is)
    (case l5 => k_is)
    (case c5 => k_is)
    (case k5 => k_is)
    (case a6 => k_is)
    (case l6 => k_is)
    (case c6 => k_is)
    (case k6 => k_is)
    (case a7 => k_is)
    (case l7 => k_is)
    (case c7 => k_is)
    (case k7 => k_is)
    (case a8 => k_is)
    (case l8 => k_is)
    (case c8 => k_is)
    (case k8 => k_is)
    (case a9 => k_is)
    (case l9 => k_is)
    (case c9 => k_is)
    (case k9 => k_is)
    (case a10 => k_is)
    (case l10 => k_is)
    (case c10 => k_is)
    (case k10 => k_is)
    (case a11 => k_is)
    (case l11 => k_is)
    (case c11 => k_is)
    (case k11 => k_is)
    (case a12 => k_is)
    (case l12 => k_is)
    (case c12 => k_is)
    (case k12 => k_is)
    (case a13 => k_is)
    (case l13 => k_is)
    (case c13 => k_is)
    (case k13 => k_is)
    (case a14 => k_is)
    (case l14 => k_is)
    (case c14 => k_is)
    (case k14 => k_is)
    (case a15 => k_is)
    (case l15 => k_is)
    (case c15 => k_is)
    (case k15 => k_is)
    (case a16 => k_is)
    (case l16 => k_is)
    (case c16 => k_is)
    (case k16 => k_is)
    (case a17 => k_is)
    (case i17 => k_is)
    (case l17 => k_is)
    (case c17 => k_is)
    (case k17 => k_is)
    (case a18 => k_is)
    (case i18 => k_is)
    (case l18 => k_is)
    (case c18 => k_is)
    (case k18 => k_is)
    (case a19 => k_is)
    (case i19 => k_is)
    (case l19 => k_is)
    (case c19 => k_is)
    (case k19 => k_is)
    (case a20 => k_is)
    (case i20 => k_is)
    (case l20 => k_is)
    (case c20 => k_is)
    (case k20 => k_is)
    (case a21 => k_is)
    (case i21 => k_is)
    (case l21 => k_is)
    (case c21 => k_is)
    (case k21 => k_is)
    (case a22 => k_is)
    (case i22 => k_is)
    (case l22 => k_is)
    (case c22 => k_is)
    (case k22 => k_is)
    (case a23 => k_is)
    (case i23 => k_is)
    (case l23 => k_is)
    (case c23 => k_is)
    (case k23 => k_is)
    (case a24 => k_is)
    (case l24 => k_is)
    (case c24 => k_is)
    (case k24 => k_is)
    (case a25 => k_is)
    (case l25 => k_is)
    (case c25 => k_is)
    (case k25 => k_is)
    (case a26 => k_is)
    (case l26 => k_is)
    (case c26 => k_is)
    (case k26 => k_is)
    (case a27 => k_is)
    (case l27 => k_is)
    (case c27 => k_is)
    (case k27 => k_is)
    (case a28 => k_is)
    (case l28 => k_is)
    (case c28 => k_is)
    (case k28 => k_is)
    (case a29 => k_is)
    (case l29 => k_is)
    (case c29 => k_is)
    (case k29 => k_is)
    (case a30 => k_is)
    (case i30 => k_is)
    (case l30 => k_is)
    (case c30 => k_is)
    (case k30 => k_is)
    (case ty30 => k_is)
    (case a31 => k_is)
    (case l31 => k_is)
    (case c31 => k_is)
    (case k31 => k_is)
    (case a32 => k_is)
    (case i32 => k_is)
    (case l32 => k_is)
    (case c32 => k_is)
    (case k32 => k_is)
    (case a33 => k_is)
    (case i33 => k_is)
    (case l33 => k_is)
    (case c33 => k_is)
    (case k33 => k_is)
    (case a34 => k_is)
    (case i34 => k_is)
    (case l34 => k_is)
    (case c34 => k_is)
    (case k34 => k_is)
    (case a35 => k_is)
    (case i35 => k_is)
    (case l35 => k_is)
    (case c35 => k_is)
    (case k35 => k_is)
    (case a36 => k_is)
    (case i36 => k_is)
    (case l36 => k_is)
    (case c36 => k_is)
    (case k36 => k_is)
    (case a37 => k_is)
    (case i37 => k_is)
    (case l37 => k_is)
    (case c37 => k_is)
    (case k37 => k_is)
    (case a38 => k_is)
    (case i38 => k_is)
    (case l38 => k_is)
    (case c38 => k_is)
    (case k38 => k_is)
    (case a39 => k_is)
    (case i39 => k_is)
    (case l39 => k_is)
    (case c39 => k_is)
    (case k39 => k_is)
    (case a40 => k_is)
    (case i40 => k_is)
    (case l40 => k_is)
    (case c40 => k_is)
    (case k40 => k_is)
    (case a41 => k_is)
    (case i41 => k_is)
    (case l41 => k_is)
    (case c41 => k_is)
    (case k41 => k_is)
    (case a42 => k_is)
    (case i42 => k_is)
    (case l42 => k_is)
    (case c42 => k_is)
    (case k42 => k_is)
    (case a43 => k_is)
    (case l43 => k_is)
    (case c43 => k_is)
    (case k43 => k_is)
    (case a44 => k_is)
    (case l44 => k_is)
    (case c44 => k_is)
    (case k44 => k_is)
    (case a45 => k_is)
    (case l45 => k_is)
    (case c45 => k_is)
    (case k45 => k_is)
    (case x_NoMessage => k_exc)
    (case k_NoMessage => k_is)
    (case b_NoMessage => k_is)
    (case t_NoMessage => k_is)
    (case i_NoMessage => k_is)
    (case s_NoMessage => first | rfl | k_is)
    (case pg_Reader => k_is)
    (case hd_Reader => k_is)
    (case po_Reader => k_is)
    (case sa_Reader => k_is)
    (case mk_Reader => k_is)
    (case kc_Reader => k_is)
    (case n_Reader_data => k_is)
    (case n_Reader_at => k_is)
    (case lk_Refusal => k_is)
    (case sa_Refusal => k_is)
    (case ga_Refusal => k_is)
    (case gg_Refusal => k_is)
    (case nw_Refusal => k_is)
    (case k_Refusal => k_is)
    (case b_Refusal => k_is)
    (case t_Refusal => k_is)
    (case hd_Refusal => k_is)
    (case i_Refusal => k_is)
    (case s_Refusal => first | rfl | k_is)
    (case sn_Refusal => k_is)
    (case ve_Refusal => k_is)
    (case pg_House => k_is)
    (case hd_House => k_is)
    (case po_House => k_is)
    (case sa_House => k_is)
    (case mk_House => k_is)
    (case kc_House => k_is)
    (case n_House_known => k_is)
    (case n_House_held => k_is)
    (case z_ValueError => k_is)
    (case z_abs => k_is)
    (case z_all => k_is)
    (case z_dict => k_is)
    (case z_len => k_is)
    (case z_list => k_is)
    (case z_min => k_is)
    (case z_range => k_is)
    (case z_tuple => k_is)
    (case z_zip => k_is)
    (case g_WORD => k_is)
    (case g_BLOCK => k_is)
    (case g_WORD_BITS => k_is)
    (case g_BLOCK_BYTES => k_is)
    (case g_KEY_BYTES => k_is)
    (case g_ROUNDS => k_is)
    (case g_STEP => k_is)
    (case g_FOR_SUM => k_is)
    (case g_FOR_STREAM => k_is)
    (case g_ASKED => k_is)
    (case g_GIVEN => k_is)
    (case g_MORE_ASKED => k_is)
    (case g_MORE_GIVEN => k_is)
    (case g_SHOWN => k_is)
    (case g_REFUSED => k_is)
    (case g_MOST_NAME => k_is)
    (case g_LENGTH_BYTES => k_is)
    (case g_TIME_BYTES => k_is)
    (case g_LIFE_BYTES => k_is)
    (case g_POINT => k_is)
    (case g_HYPHEN => k_is)
    (case g_HOUSE => k_is)
    (case h_HOUSE => k_is)
    (case g_MOST_MESSAGE => k_is)
    (case g_MOST_NAMES => k_is)
    (case g_MOST_HELD => k_is)
    (case g_NEAR => k_is)
    (case g_CLIENT_BYTES => k_is)
    (case g_DONE => k_is)
    (case g_NOT_AS_TOLD => k_is)
    (case g_NO_ROOM => k_is)
    (case g_NO_MESSAGE => k_is)
    (case g_NO_CLIENT => k_is)
    (case g_NO_SERVICE => k_is)
    (case g_NO_LIFE => k_is)
    (case g_BAD_TICKET => k_is)
    (case g_NOT_NOW => k_is)
    (case g_BAD_PROOF => k_is)
    (case g_SHOWN_BEFORE => k_is)
    (case g_TOO_MANY_HELD => k_is)
    (case g_BEGIN => k_is)
    (case g_ADD => k_is)
    (case g_ANSWER => k_is)
    (case g_NUMBERS => k_is)
    (case h_NUMBERS => k_is)
    (case g_ROWS => k_is)
    (case h_ROWS => k_is)
  case S =>
    intro K H xs a hO hwi hask hx
    obtain ⟨l, u⟩ := a
    cases hx with
    | cons h1 hx =>
      cases hx
      cases h1 with
      | lst hs1 ha1 =>
        have e1 := L2.ints_dw l _ ha1
        subst e1
        have q : ((Codec.inLen 0 16000 l && l.all (Codec.inInt 0 9223372036854775807)) && true) = true := hwi
        obtain ⟨q1, _⟩ := Th.and2 q
        obtain ⟨m1, _⟩ := Th.w_list q1
        have qa : PyQl67.answers_asked l = true := hask
        obtain ⟨cs, e2, e3, e4, e5⟩ := Th.asked_calls qa
        refine ⟨_, cs, rfl, ?_, ?_, e3, e4, fun H' p hp => .lst (Th.lst_of hp) ?_⟩
        · rw [← e2]
          exact hs1
        · rw [← e2]
          exact m1.2
        · rw [← e5]
          exact L2.dw_ints _
#print axioms PySem.Challenge.cw_trusthouse_s01_answers_holds
