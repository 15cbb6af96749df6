import PyProof.Rows.All
import Wide.All
import OpenK.AllK
import Wide.FinOn
import Open.SpecLaws
import KE.OsGo
import KE.OsArith
import HandS.ForSpec
import HandS.Comp
import HandS.Iter
import HandS.Walk
import HandS.Text
import PySem.Challenge.RW_trusthouse_s04_tk_want
set_option Elab.async false
set_option linter.all false
set_option maxRecDepth 100000
set_option maxHeartbeats 4000000
namespace Th
open Ql67
/-! ### bytes of a number -/
theorem be_length : ∀ k n, (be k n).length = k
  | 0, _ => rfl
  | k + 1, n => by
    show (be k (n / 256) ++ [n % 256]).length = k + 1
    rw [List.length_append, be_length k, List.length_singleton]
theorem be_lt : ∀ k n b, b ∈ be k n → b < 256
  | 0, _, b, h => by cases h
  | k + 1, n, b, h => by
    have h' : b ∈ be k (n / 256) ++ [n % 256] := h
    rcases List.mem_append.mp h' with q | q
    · exact be_lt k _ b q
    · rw [List.mem_singleton.mp q]
      exact Nat.mod_lt _ (by decide)
theorem be_get : ∀ k n i, i < k → (be k n)[i]? = some (n / 2 ^ (8 * (k - 1 - i)) % 256)
  | 0, _, i, h => absurd h (Nat.not_lt_zero i)
  | k + 1, n, i, h => by
    show (be k (n / 256) ++ [n % 256])[i]? = _
    by_cases c : i < k
    · rw [List.getElem?_append_left (by rw [be_length]; exact c), be_get k _ i c, Nat.div_div_eq_div_mul]
      have e : 256 * 2 ^ (8 * (k - 1 - i)) = 2 ^ (8 * (k + 1 - 1 - i)) := by
        have e1 : k + 1 - 1 - i = (k - 1 - i) + 1 := by omega
        rw [e1, Nat.mul_add, Nat.pow_add, Nat.mul_comm]
      rw [e]
    · have e : i = k := by omega
      subst e
      rw [List.getElem?_append_right (by rw [be_length]; exact Nat.le_refl _), be_length, Nat.sub_self]
      have e2 : i + 1 - 1 - i = 0 := by omega
      rw [e2]
      simp
theorem num_snoc (l : B) (x : Nat) : num (l ++ [x]) = 256 * num l + x := by
  unfold num
  rw [List.foldl_append]
  rfl
theorem num_be : ∀ k n, n < 2 ^ (8 * k) → num (be k n) = n
  | 0, n, h => by
    have : n = 0 := by
      have : n < 1 := by simpa using h
      omega
    subst this
    rfl
  | k + 1, n, h => by
    show num (be k (n / 256) ++ [n % 256]) = n
    have h2 : n / 256 < 2 ^ (8 * k) := by
      rw [Nat.div_lt_iff_lt_mul (by decide)]
      have e : 2 ^ (8 * k) * 256 = 2 ^ (8 * (k + 1)) := by
        rw [Nat.mul_add, Nat.pow_add]
      rw [e]
      exact h
    rw [num_snoc, num_be k _ h2]
    omega
theorem num_lt : ∀ (l : B), (∀ b, b ∈ l → b < 256) → num l < 2 ^ (8 * l.length) := by
  intro l
  have gen : ∀ (n : Nat) (l : B), l.length = n → (∀ b, b ∈ l → b < 256) → num l < 2 ^ (8 * l.length) := by
    intro n
    induction n with
    | zero =>
      intro l hl _
      have : l = [] := List.eq_nil_of_length_eq_zero hl
      subst this
      decide
    | succ n ih =>
      intro l hl hb
      obtain ⟨r, x, rfl⟩ : ∃ r x, l = r ++ [x] := by
        have hne : l ≠ [] := by intro e; rw [e] at hl; cases hl
        exact ⟨l.dropLast, l.getLast hne, (List.dropLast_concat_getLast hne).symm⟩
      have hr : r.length = n := by rw [List.length_append, List.length_singleton] at hl; omega
      have h1 := ih r hr (fun b q => hb b (List.mem_append_left _ q))
      have h2 := hb x (List.mem_append_right _ (List.mem_singleton.mpr rfl))
      rw [num_snoc, List.length_append, List.length_singleton, Nat.mul_add, Nat.pow_add]
      have e : (2 : Nat) ^ (8 * 1) = 256 := by decide
      rw [e]
      omega
  exact gen l.length l rfl
/-! ### E -/
theorem W_eq : W = 4294967296 := by decide
theorem rounds_more (n : Nat) (k : List Nat) (s a b : Nat) : rounds (n + 1) k s a b =
    rounds n k ((s + 0x9E3779B9) % W) ((a + mix b s (k.getD (s % 4) 0)) % W)
      ((b + mix ((a + mix b s (k.getD (s % 4) 0)) % W) ((s + 0x9E3779B9) % W) (k.getD (((s + 0x9E3779B9) % W) / 2048 % 4) 0)) % W) := rfl
theorem rounds_lt : ∀ (n : Nat) (k : List Nat) (s a b : Nat), a < W → b < W → (rounds n k s a b).1 < W ∧ (rounds n k s a b).2 < W
  | 0, _, _, _, _, ha, hb => ⟨ha, hb⟩
  | n + 1, k, s, a, b, _, _ => by
    rw [rounds_more]
    exact rounds_lt n _ _ _ _ (Nat.mod_lt _ (by decide)) (Nat.mod_lt _ (by decide))
def words (k : B) : List Nat := (List.range 4).map fun i => num ((k.drop (4 * i)).take 4)
theorem words_len (k : B) : (words k).length = 4 := by
  unfold words
  rw [List.length_map, List.length_range]
theorem block_eq (k : B) {x : Nat} (hx : x < 2 ^ 64) : block k x = (rounds 32 (words k) 0 (x / W) (x % W)).1 * W + (rounds 32 (words k) 0 (x / W) (x % W)).2 := by
  have e : x / W % W = x / W := Nat.mod_eq_of_lt (by
    rw [Nat.div_lt_iff_lt_mul (by decide)]
    exact hx)
  unfold block
  rw [e]
  rfl
theorem block_lt (k : B) (x : Nat) : block k x < 2 ^ 64 := by
  have h := rounds_lt 32 (words k) 0 (x / W % W) (x % W) (Nat.mod_lt _ (by decide)) (Nat.mod_lt _ (by decide))
  have e : block k x = (rounds 32 (words k) 0 (x / W % W) (x % W)).1 * W + (rounds 32 (words k) 0 (x / W % W) (x % W)).2 := rfl
  rw [e]
  rw [W_eq] at *
  have : (2 : Nat) ^ 64 = 4294967296 * 4294967296 := by decide
  rw [this]
  omega
/-! ### the sum -/
def chunk (l : B) (i : Nat) : Nat := num ((l.drop (8 * i)).take 8)
def padOf (n : Nat) : Nat := (8 - n % 8) % 8
def rowOf (m : B) : B := be 8 m.length ++ m ++ List.replicate (padOf m.length) 0
theorem rowOf_length (m : B) : (rowOf m).length = 8 * ((m.length + padOf m.length) / 8 + 1) := by
  unfold rowOf padOf
  rw [List.length_append, List.length_append, be_length, List.length_replicate]
  omega
theorem eights_nil (f : Nat) : eights f [] = [] := by
  cases f with
  | zero => rfl
  | succ f => simp [eights]
theorem eights_chunks : ∀ (c f : Nat) (l : B) (pad : Nat), l.length + pad = 8 * c → pad < 8 → c ≤ f → eights f l = (List.range c).map (chunk (l ++ List.replicate pad 0))
  | 0, f, l, pad, h, _, _ => by
    have : l = [] := List.eq_nil_of_length_eq_zero (by omega)
    subst this
    rw [eights_nil]
    rfl
  | c + 1, 0, l, pad, _, _, hf => by omega
  | c + 1, f + 1, l, pad, h, hp, hf => by
    have hne : l ≠ [] := by
      intro e
      subst e
      simp at h
      omega
    have e0 : eights (f + 1) l = num (l.take 8 ++ List.replicate (8 - (l.take 8).length) 0) :: eights f (l.drop 8) := by
      simp [eights, hne]
    rw [e0, List.range_succ_eq_map, List.map_cons, List.map_map]
    by_cases c8 : 8 ≤ l.length
    · have e1 : chunk (l ++ List.replicate pad 0) 0 = num (l.take 8 ++ List.replicate (8 - (l.take 8).length) 0) := by
        unfold chunk
        rw [Nat.mul_zero, List.drop_zero, List.take_append_of_le_length c8, List.length_take, Nat.min_eq_left c8, Nat.sub_self]
        simp
      have e2 : eights f (l.drop 8) = (List.range c).map (chunk (l.drop 8 ++ List.replicate pad 0)) :=
        eights_chunks c f (l.drop 8) pad (by rw [List.length_drop]; omega) hp (by omega)
      rw [e1, e2]
      congr 1
      apply List.map_congr_left
      intro i _
      show chunk (l.drop 8 ++ List.replicate pad 0) i = chunk (l ++ List.replicate pad 0) (i + 1)
      unfold chunk
      rw [Nat.mul_add, Nat.mul_one, Nat.add_comm (8 * i) 8, ← List.drop_drop, List.drop_append_of_le_length c8]
    · have hc : c = 0 := by omega
      subst hc
      have hl8 : l.take 8 = l := List.take_of_length_le (by omega)
      have hd8 : l.drop 8 = [] := List.drop_eq_nil_of_le (by omega)
      rw [hl8, hd8, eights_nil]
      have e1 : chunk (l ++ List.replicate pad 0) 0 = num (l ++ List.replicate (8 - l.length) 0) := by
        unfold chunk
        have : 8 - l.length = pad := by omega
        rw [Nat.mul_zero, List.drop_zero, this, List.take_of_length_le]
        rw [List.length_append, List.length_replicate]
        omega
      rw [e1]
      rfl
/-- what the loop over eights has behind c turns -/
def sumTo (k m : B) (c : Nat) : Nat := (List.range c).foldl (fun h j => block (key1 k) (h ^^^ chunk (rowOf m) j)) 0
theorem sumTo_succ (k m : B) (c : Nat) : sumTo k m (c + 1) = block (key1 k) (sumTo k m c ^^^ chunk (rowOf m) c) := by
  unfold sumTo
  rw [List.range_succ, List.foldl_append]
  rfl
theorem sumTo_lt (k m : B) (c : Nat) : sumTo k m c < 2 ^ 64 := by
  cases c with
  | zero =>
    show (0 : Nat) < 2 ^ 64
    decide
  | succ c =>
    rw [sumTo_succ]
    exact block_lt _ _
theorem foldl_map' {α β γ : Type} (f : γ → β → γ) (g : α → β) : ∀ (l : List α) (z : γ), (l.map g).foldl f z = l.foldl (fun h x => f h (g x)) z
  | [], _ => rfl
  | x :: r, z => foldl_map' f g r (f z (g x))
theorem sum_eq (k m : B) (hm : m.length < 2 ^ 64) : sumTo k m ((rowOf m).length / 8) = sum k m := by
  have hpad : padOf m.length < 8 := Nat.mod_lt _ (by decide)
  have hd : m.length + padOf m.length = 8 * ((m.length + padOf m.length) / 8) := by
    unfold padOf
    omega
  have e1 : (rowOf m).length / 8 = (m.length + padOf m.length) / 8 + 1 := by
    rw [rowOf_length, Nat.mul_div_cancel_left _ (by decide)]
  have e2 : eights (m.length + 1) m = (List.range ((m.length + padOf m.length) / 8)).map (chunk (m ++ List.replicate (padOf m.length) 0)) :=
    eights_chunks _ _ _ _ hd hpad (by omega)
  have e3 : m.length :: eights (m.length + 1) m = (List.range ((m.length + padOf m.length) / 8 + 1)).map (chunk (rowOf m)) := by
    rw [e2, List.range_succ_eq_map, List.map_cons, List.map_map]
    have c0 : chunk (rowOf m) 0 = m.length := by
      unfold chunk rowOf
      rw [Nat.mul_zero, List.drop_zero, List.append_assoc, List.take_append_of_le_length (by rw [be_length]; exact Nat.le_refl _), List.take_of_length_le (by rw [be_length]; exact Nat.le_refl _)]
      exact num_be 8 _ hm
    rw [c0]
    refine congrArg (List.cons _) (List.map_congr_left fun i _ => ?_)
    show chunk (m ++ List.replicate (padOf m.length) 0) i = chunk (rowOf m) (i + 1)
    unfold chunk rowOf
    rw [Nat.mul_add, Nat.mul_one, Nat.add_comm (8 * i) 8, ← List.drop_drop, List.append_assoc (be 8 m.length), List.drop_append_of_le_length (l₁ := be 8 m.length) (by rw [be_length]; exact Nat.le_refl _)]
    rw [List.drop_of_length_le (l := be 8 m.length) (by rw [be_length]; exact Nat.le_refl _), List.nil_append]
  unfold sum
  rw [e3, foldl_map', e1]
  rfl
/-! ### the stream -/
theorem flat8_drop (f : Nat → B) (hf : ∀ i, (f i).length = 8) : ∀ (c i : Nat), i < c → ((((List.range c).flatMap f).drop (8 * i)).take 8) = f i := by
  intro c
  have gen : ∀ (i : Nat) (l : List Nat) (x : Nat), l[i]? = some x → (((l.flatMap f).drop (8 * i)).take 8) = f x := by
    intro i
    induction i with
    | zero =>
      intro l x h
      cases l with
      | nil => simp at h
      | cons a r =>
        have : a = x := by simpa using h
        subst this
        rw [Nat.mul_zero, List.drop_zero, List.flatMap_cons, List.take_append_of_le_length (by rw [hf]; exact Nat.le_refl _), List.take_of_length_le (by rw [hf]; exact Nat.le_refl _)]
    | succ i ih =>
      intro l x h
      cases l with
      | nil => simp at h
      | cons a r =>
        have h' : r[i]? = some x := by simpa using h
        rw [List.flatMap_cons, Nat.mul_add, Nat.mul_one, Nat.add_comm (8 * i) 8, ← List.drop_drop, List.drop_append_of_le_length (by rw [hf]; exact Nat.le_refl _), List.drop_of_length_le (l := f a) (by rw [hf]; exact Nat.le_refl _), List.nil_append]
        exact ih r x h'
  intro i hi
  exact gen i (List.range c) i (by simp [hi])
theorem flat8_length (f : Nat → B) (hf : ∀ i, (f i).length = 8) (c : Nat) : ((List.range c).flatMap f).length = 8 * c := by
  have gen : ∀ l : List Nat, (l.flatMap f).length = 8 * l.length := by
    intro l
    induction l with
    | nil => rfl
    | cons a r ih =>
      rw [List.flatMap_cons, List.length_append, hf, ih, List.length_cons]
      omega
  rw [gen, List.length_range]
def eightAt (k : B) (tag i : Nat) : B := be 8 (block (key2 k) ((tag + i) % 2 ^ 64))
theorem stream_length (k : B) (tag n : Nat) : (stream k tag n).length = n := by
  unfold stream
  rw [List.length_take, flat8_length _ (fun i => be_length 8 _)]
  omega
theorem veiled_length (k : B) (tag : Nat) (m : B) : (veiled k tag m).length = m.length := by
  unfold veiled
  rw [List.length_zipWith, stream_length, Nat.min_self]
theorem zipWith_take_right {α β γ : Type} (f : α → β → γ) : ∀ (a : List α) (b : List β) (j : Nat), a.length ≤ j → List.zipWith f a (b.take j) = List.zipWith f a b
  | [], b, j, _ => by simp
  | x :: a, [], j, _ => by simp
  | x :: a, y :: b, 0, h => by simp at h
  | x :: a, y :: b, j + 1, h => by
    rw [List.take_succ_cons, List.zipWith_cons_cons, List.zipWith_cons_cons, zipWith_take_right f a b j (by simpa using h)]
theorem veiled_chunk (k : B) (tag : Nat) (m : B) (i : Nat) (hi : 8 * i ≤ m.length) : ((veiled k tag m).drop (8 * i)).take 8 = List.zipWith (fun (a b : Nat) => a ^^^ b) ((m.drop (8 * i)).take 8) (eightAt k tag i) := by
  unfold veiled stream
  rw [List.drop_zipWith, List.take_zipWith, List.drop_take, List.take_take, Nat.min_comm 8, ← List.take_take]
  rw [flat8_drop _ (fun i => be_length 8 _) _ i (by omega)]
  have := zipWith_take_right (fun (a b : Nat) => a ^^^ b) ((m.drop (8 * i)).take 8) (eightAt k tag i) (m.length - 8 * i) (by rw [List.length_take, List.length_drop]; omega)
  exact this
theorem veiled_more (k : B) (tag : Nat) (m : B) (i : Nat) (hi : 8 * i ≤ m.length) : (veiled k tag m).take (8 * (i + 1)) = (veiled k tag m).take (8 * i) ++ List.zipWith (fun (a b : Nat) => a ^^^ b) ((m.drop (8 * i)).take 8) (eightAt k tag i) := by
  rw [Nat.mul_add, Nat.mul_one, List.take_add, veiled_chunk k tag m i hi]
theorem sum_lt (k m : B) (hm : m.length < 2 ^ 64) : sum k m < 2 ^ 64 := by
  rw [← sum_eq k m hm]
  exact sumTo_lt _ _ _
theorem xor_lt {a b n : Nat} (ha : a < 2 ^ n) (hb : b < 2 ^ n) : a ^^^ b < 2 ^ n := Nat.xor_lt_two_pow ha hb
theorem veiled_lt (k : B) (tag : Nat) (m : B) (hm : ∀ b, b ∈ m → b < 256) : ∀ b, b ∈ veiled k tag m → b < 256 := by
  intro b hb
  unfold veiled at hb
  obtain ⟨i, hi, rfl⟩ := List.mem_iff_getElem.mp hb
  have hi2 := hi
  rw [List.length_zipWith] at hi2
  have hm1 : i < m.length := by omega
  have hm2 : i < (stream k tag m.length).length := by omega
  rw [List.getElem_zipWith]
  have h1 := hm _ (List.getElem_mem (l := m) hm1)
  have hs : ∀ x, x ∈ stream k tag m.length → x < 256 := by
    intro x hx
    unfold stream at hx
    obtain ⟨j, _, hj⟩ := List.mem_flatMap.mp (List.mem_of_mem_take hx)
    exact be_lt _ _ _ hj
  have h2 := hs _ (List.getElem_mem (l := stream k tag m.length) hm2)
  exact xor_lt (n := 8) h1 h2
end Th
namespace Th
open PySem PySem.Spec PyProof.Rows L2
/-! ### lists of bytes as values -/
def vb (l : List Nat) : List V := l.map fun (n : Nat) => V.int (n : Int)
theorem vb_length (l : List Nat) : (vb l).length = l.length := List.length_map _
theorem vb_append (a b : List Nat) : vb (a ++ b) = vb a ++ vb b := List.map_append
theorem vb_take (l : List Nat) (n : Nat) : vb (l.take n) = (vb l).take n := List.map_take
theorem vb_drop (l : List Nat) (n : Nat) : vb (l.drop n) = (vb l).drop n := List.map_drop
theorem vb_get {l : List Nat} {i : Nat} {n : Nat} (h : l[i]? = some n) : (vb l)[i]? = some (.int (n : Int)) := by
  unfold vb
  rw [List.getElem?_map, h]
  rfl
theorem vb_at {l : List Nat} {i : Nat} {x : V} (h : (vb l)[i]? = some x) : ∃ n : Nat, l[i]? = some n ∧ x = .int (n : Int) := by
  unfold vb at h
  rw [List.getElem?_map] at h
  cases e : l[i]? with
  | none =>
    rw [e] at h
    cases h
  | some n =>
    rw [e] at h
    exact ⟨n, rfl, (Option.some.inj h).symm⟩
theorem vb_more {l : List Nat} {i : Nat} {n : Nat} (h : l[i]? = some n) : vb (l.take (i + 1)) = vb (l.take i) ++ [.int (n : Int)] := by
  have e : l.take (i + 1) = l.take i ++ [n] := by
    rw [List.take_add_one, h]
    rfl
  rw [e, vb_append]
  rfl
theorem vb_ints (l : List Nat) : vb l = (l.map fun (x : Nat) => (x : Int)).map V.int := by
  unfold vb
  rw [List.map_map]
  rfl
theorem vb_of (l : List Int) (h : ∀ x ∈ l, 0 ≤ x) : l.map V.int = vb (l.map Int.toNat) := by
  unfold vb
  rw [List.map_map]
  refine List.map_congr_left fun x hx => ?_
  show V.int x = V.int ((x.toNat : Nat) : Int)
  rw [Int.toNat_of_nonneg (h x hx)]
theorem vb_inj : ∀ {a b : List Nat}, vb a = vb b → a = b
  | [], [], _ => rfl
  | [], _ :: _, h => by cases h
  | _ :: _, [], h => by cases h
  | x :: a, y :: b, h => by
    have h' : V.int (x : Int) :: vb a = V.int (y : Int) :: vb b := h
    injection h' with h1 h2
    injection h1 with h3
    have e : x = y := by omega
    rw [e, vb_inj h2]
/-- x[a:b] by numbers -/
theorem cut_nat (xs : List V) (a b : Nat) : cutV xs (some (a : Int)) (some (b : Int)) = (xs.drop a).take (b - a) := by
  unfold cutV
  rw [HT.sIx_nat, HT.sIx_nat]
  by_cases h : a ≤ xs.length
  · rw [Nat.min_eq_left h]
    by_cases h2 : b ≤ xs.length
    · rw [Nat.min_eq_left h2]
    · have e1 : (xs.drop a).take (xs.length - a) = xs.drop a := List.take_of_length_le (by rw [List.length_drop]; exact Nat.le_refl _)
      have e2 : (xs.drop a).take (b - a) = xs.drop a := List.take_of_length_le (by rw [List.length_drop]; omega)
      rw [Nat.min_eq_right (by omega : xs.length ≤ b), e1, e2]
  · have e1 : xs.drop a = [] := List.drop_of_length_le (by omega)
    have e2 : xs.drop xs.length = [] := List.drop_of_length_le (Nat.le_refl _)
    rw [Nat.min_eq_right (by omega : xs.length ≤ a), e1, e2, List.take_nil, List.take_nil]
theorem cut_to (xs : List V) (b : Nat) : cutV xs none (some (b : Int)) = xs.take b := by
  unfold cutV
  rw [HT.sIx_nat, HT.sIx_none, List.drop_zero, Nat.sub_zero]
  by_cases h2 : b ≤ xs.length
  · rw [Nat.min_eq_left h2]
  · have e1 : xs.take xs.length = xs := List.take_length
    have e2 : xs.take b = xs := List.take_of_length_le (by omega)
    rw [Nat.min_eq_right (by omega : xs.length ≤ b), e1, e2]
theorem cut_from (xs : List V) (a : Nat) : cutV xs (some (a : Int)) none = xs.drop a := by
  unfold cutV
  rw [HT.sIx_nat, HT.sIx_none]
  by_cases h : a ≤ xs.length
  · have e1 : (xs.drop a).take (xs.length - a) = xs.drop a := List.take_of_length_le (by rw [List.length_drop]; exact Nat.le_refl _)
    rw [Nat.min_eq_left h, e1]
  · have e1 : xs.drop a = [] := List.drop_of_length_le (by omega)
    have e2 : xs.drop xs.length = [] := List.drop_of_length_le (Nat.le_refl _)
    rw [Nat.min_eq_right (by omega : xs.length ≤ a), e1, e2, List.take_nil]
/-- x[a:a + n] of bytes -/
theorem cut_vb (l : List Nat) {u v : Int} {a n : Nat} (hu : u = (a : Int)) (hv : v = ((a + n : Nat) : Int)) : cutV (vb l) (some u) (some v) = vb ((l.drop a).take n) := by
  have e : a + n - a = n := by omega
  rw [hu, hv, cut_nat, e, vb_take, vb_drop]
theorem fits (x : Int) (h1 : -1000000 ≤ x) (h2 : x ≤ 1000000) : Builtin.Range.rangeFitsLong x = true := by
  have e1 : (-(2 ^ 63) : Int) = -9223372036854775808 := by decide
  have e2 : (2 ^ 63 : Int) = 9223372036854775808 := by decide
  have e : Builtin.Range.rangeFitsLong x = (decide (-(2 ^ 63) ≤ x) && decide (x < 2 ^ 63)) := rfl
  rw [e, e1, e2, decide_eq_true (show (-9223372036854775808 : Int) ≤ x by omega), decide_eq_true (show x < (9223372036854775808 : Int) by omega)]
  rfl
/-- range(0, 8 * c, 8) -/
theorem rg8 (n c : Nat) (h : n = 8 * c ∨ (n < 8 * c ∧ 8 * c < n + 8)) (hn : n ≤ 100000) : RgC 0 (n : Int) 8 c := by
  have hs : Builtin.Range.rangeSize 0 (n : Int) 8 = (c : Int) := by
    unfold Builtin.Range.rangeSize
    rw [if_pos (by decide)]
    by_cases h0 : (0 : Int) < (n : Int)
    · rw [if_pos h0]
      omega
    · rw [if_neg h0]
      omega
  refine ⟨by decide, by decide, ?_, hs⟩
  unfold Builtin.Range.small
  rw [hs, fits (n : Int) (by omega) (by omega), fits (c : Int) (by omega) (by omega), if_pos (by decide), fits ((n : Int) + (8 - 1)) (by omega) (by omega), Bool.or_true]
  decide
/-! ### numbers -/
theorem i_xor (a b : Nat) : Builtin.bitXor (a : Int) (b : Int) = ((a ^^^ b : Nat) : Int) := by
  rw [Bits.bitXor_pp (Int.natCast_nonneg a) (Int.natCast_nonneg b), Int.toNat_natCast, Int.toNat_natCast]
theorem i_and (a b : Nat) : Builtin.bitAnd (a : Int) (b : Int) = ((a &&& b : Nat) : Int) := PySem.W.os_band a b
theorem i_mod (a b : Nat) (h : 0 < b) : Int.fmod (a : Int) (b : Int) = ((a % b : Nat) : Int) := PySem.W.os_fmod_nat a b h
theorem i_div (a b : Nat) (h : 0 < b) : Int.fdiv (a : Int) (b : Int) = ((a / b : Nat) : Int) := PySem.W.os_fdiv_nat a b h
theorem i_shr (a k : Nat) : (a : Int) / 2 ^ ((k : Int)).toNat = ((a / 2 ^ k : Nat) : Int) := by
  rw [Int.toNat_natCast, Int.natCast_ediv, Int.natCast_pow]
  rfl
theorem i_shl (a k : Nat) : (a : Int) * 2 ^ ((k : Int)).toNat = ((a * 2 ^ k : Nat) : Int) := by
  rw [Int.toNat_natCast, Int.natCast_mul, Int.natCast_pow]
  rfl
theorem and_255 (a : Nat) : a &&& 255 = a % 256 := Nat.and_two_pow_sub_one_eq_mod a 8
/-! ### heaps -/
theorem same_upd {H : Hp} {p : Addr} {o : HO} (h : H p = none) : Same H (upd H p o) := fun b x e => by
  rw [upd_ne (ne_of_none e h)]
  exact e
/-- one step more: a new object -/
theorem same_new {H H' : Hp} {p : Addr} {o : HO} (s : Same H H') (h : H' p = none) : Same H (upd H' p o) := s.trans (same_upd h)
/-- one step more: an object that is new over H is written -/
theorem same_set {H H' : Hp} {p : Addr} {o : HO} (s : Same H H') (h : H p = none) : Same H (upd H' p o) := fun b x e => by
  rw [upd_ne (ne_of_none e h)]
  exact s b x e
theorem gen_new {H H' : Hp} {p : Addr} {o : HO} (e : upd H p o = H') (h : H p = none) : Same H H' ∧ H' p = some o := by
  subst e
  exact ⟨same_upd h, upd_same⟩
theorem Same.tup {K : PySem.W.Frag} {H H' : Hp} {a : Addr} {xs : List V} (e : Same H H') (h : SqT K H a xs) : SqT K H' a xs := by
  rcases h with (h | ⟨o, h⟩) | h
  · exact .inl (.inl (e _ _ h))
  · exact .inl (.inr ⟨o, e _ _ h⟩)
  · exact .inr h
def SqA (K : PySem.W.Frag) (H : Hp) (a : Addr) (xs : List V) : Prop := SqL K H a xs ∨ SqT K H a xs
theorem Same.any {K : PySem.W.Frag} {H H' : Hp} {a : Addr} {xs : List V} (e : Same H H') (h : SqA K H a xs) : SqA K H' a xs := by
  rcases h with h | h
  · exact .inl (e.seq h)
  · exact .inr (Same.tup e h)
theorem lst_of {K : PySem.W.Frag} {H : Hp} {a : Addr} {xs : List V} (h : H a = some (.lst xs)) : SqL K H a xs := .inl (.inl h)
theorem tup_of {K : PySem.W.Frag} {H : Hp} {a : Addr} {xs : List V} (h : H a = some (.tup xs)) : SqT K H a xs := .inl (.inl h)
/-- a new list comes out -/
def outL (H : Hp) (Q : VK) (l : List Nat) : Prop := ∀ H' p, Same H H' → H p = none → H' p = some (.lst (vb l)) → Q (.ref p) H'
/-- a value comes out, what was tracked stands -/
def outV (H : Hp) (Q : VK) (v : V) : Prop := ∀ H', Same H H' → Q v H'
theorem le_line {n : Nat} (h : n ≤ 100000) : n ≤ sizeLine := Nat.le_trans h (by decide)
theorem lt_line {n : Nat} (h : n ≤ 100000) : n < sizeLine := Nat.lt_of_le_of_lt h (by decide)
/-! ### truth values by parts -/
theorem ev_and {ta tb : TE} {σ : L2.St} {H : Hp} {a b : Bool} (h1 : ∀ Q : VK, Q (.bl a) H → ta σ H Q) (h2 : ∀ Q : VK, Q (.bl b) H → tb σ H Q) : ∀ Q : VK, Q (.bl (a && b)) H → tAndV ta tb σ H Q := by
  intro Q q
  refine h1 _ ⟨a, rfl, ?_⟩
  cases a with
  | true => exact iteT (h2 Q q)
  | false => exact iteF q
theorem ev_or {ta tb : TE} {σ : L2.St} {H : Hp} {a b : Bool} (h1 : ∀ Q : VK, Q (.bl a) H → ta σ H Q) (h2 : ∀ Q : VK, Q (.bl b) H → tb σ H Q) : ∀ Q : VK, Q (.bl (a || b)) H → tOrV ta tb σ H Q := by
  intro Q q
  refine h1 _ ⟨a, rfl, ?_⟩
  cases a with
  | true => exact iteT q
  | false => exact iteF (h2 Q q)
theorem ifB {c : Bool} {A B : Prop} (h1 : c = true → A) (h2 : c = false → B) : if c = true then A else B := by
  cases c with
  | true => exact iteT (h1 rfl)
  | false => exact iteF (h2 rfl)
/-! ### the module's constants, its defs -/
def Glo (mg : Str → Option Value) (x : Str) (v : V) : Prop := ∃ u, mg x = some u ∧ RelV v u
theorem pe_gv {X : Cx} {x : Str} {v : V} {pos : Pos} (h : Glo X.mg x v) (hg : Gl X x := by rfl) (hd : (x == ("__debug__" : Str)) = false := by decide) : PE X (.Name x pos) (tC v) := by
  obtain ⟨u, hm, r⟩ := h
  exact pe_glob hg hm r hd
/-- a def of the module by its name: its promise, where it stands, how its arguments bind -/
structure Df (P : Program) (w : World) (K : PySem.W.Frag) (mg : Str → Option Value) (base : Heap) (CX : CXT) (k : Nat) (x : Str) (ps : List Str) (sp : Sp) : Prop where
  ex : ∃ f fd, FnOk P w K mg base CX k f fd ps sp ∧ mg x = some (.ref f) ∧ PySem.W.keepIn K (.ref f) = true ∧ Binds K fd ps []
theorem pe_callD {X : Cx} {CX : CXT} {k : Nat} {x : Str} {ps : List Str} {sp : Sp} {E : XK} {e : Expr} {es : List Expr} {t : TA} {p pos : Pos} (D : Df X.prog X.w X.K X.mg X.base CX k x ps sp) (hr : Room k X.A) (hx : Passes CX X E) (ha : PA X (e :: es) t) (hg : Gl X x := by rfl)
    (hs : starEach (e :: es) X.env = (false, eval e X.env) :: starEach es X.env := by rfl) (hpl : (backTo pos (starEach es X.env)).any (·.1) = false := by rfl) (hdb : (x == ("__debug__" : Str)) = false := by decide) :
    PE X (.Call (.Name x p) (e :: es) [] pos) (tCall sp [] E t) := by
  obtain ⟨f, fd, F, hm, hk, hb⟩ := D.ex
  exact pe_call F hr hg hm hk hb .nil hx ha hdb hs hpl
end Th
namespace Th
open PySem PySem.Spec PyProof.Rows L2
/-! ### the text by places -/
def topS (i : Nat) : Stmt := PySem.Challenge.pw_trusthouse_s04_tk_want.main.body.getD i (.Pass ⟨0, 0, 0, 0⟩)
abbrev s_high_first : Stmt := topS 10
abbrev s_number_of : Stmt := topS 11
abbrev s_spread : Stmt := topS 12
abbrev s_enciphered : Stmt := topS 13
abbrev s_words_of : Stmt := topS 14
abbrev s_sum_of : Stmt := topS 15
abbrev s_streamed : Stmt := topS 16
abbrev s_sealed : Stmt := topS 17
abbrev s_is_name_byte : Stmt := topS 26
abbrev s_is_name : Stmt := topS 27
abbrev s_name_told : Stmt := topS 28
abbrev s_row_told : Stmt := topS 29
abbrev s_time_told : Stmt := topS 30
abbrev s_proof_of : Stmt := topS 31
abbrev s_with_length : Stmt := topS 35
abbrev s_tk_want : Stmt := topS 36
/-- what the top has written: constants, and names that are still the built-in -/
structure Txt (K : PySem.W.Frag) (mg : Str → Option Value) : Prop where
  b_all : mg "all" = none
  b_len : mg "len" = none
  b_list : mg "list" = none
  b_range : mg "range" = none
  b_zip : mg "zip" = none
  c_WORD : Glo mg "WORD" (.int 4294967296)
  c_BLOCK : Glo mg "BLOCK" (.int 18446744073709551616)
  c_WORD_BITS : Glo mg "WORD_BITS" (.int 32)
  c_BLOCK_BYTES : Glo mg "BLOCK_BYTES" (.int 8)
  c_KEY_BYTES : Glo mg "KEY_BYTES" (.int 16)
  c_ROUNDS : Glo mg "ROUNDS" (.int 32)
  c_STEP : Glo mg "STEP" (.int 2654435769)
  c_FOR_SUM : Glo mg "FOR_SUM" (.int 54)
  c_FOR_STREAM : Glo mg "FOR_STREAM" (.int 92)
  c_MORE_ASKED : Glo mg "MORE_ASKED" (.int 3)
  c_MOST_NAME : Glo mg "MOST_NAME" (.int 32)
  c_LENGTH_BYTES : Glo mg "LENGTH_BYTES" (.int 2)
  c_TIME_BYTES : Glo mg "TIME_BYTES" (.int 8)
  c_LIFE_BYTES : Glo mg "LIFE_BYTES" (.int 4)
  c_POINT : Glo mg "POINT" (.int 46)
  c_HYPHEN : Glo mg "HYPHEN" (.int 45)
  c_MOST_TICKET : Glo mg "MOST_TICKET" (.int 200)
  c_NOT_AS_TOLD : Glo mg "NOT_AS_TOLD" (.int (-2))
end Th
namespace Th
open PySem PySem.Spec PyProof.Rows L2
section
variable {P : Program} {w : World} {K : PySem.W.Frag} {mg : Str → Option Value} {base : Heap}
/-! ### high_first -/
theorem sc_high_first : FnScope ["number", "many", "k"] ["number", "many"] (defScope s_high_first) := ⟨rfl, rfl, rfl, by decide +kernel, rfl, by decide +kernel, by decide +kernel⟩
def sp_high_first : Sp := fun vs H Q _ => ∃ n k : Nat, vs = [.int (n : Int), .int (k : Int)] ∧ k ≤ 1000 ∧ outL H Q (Ql67.be k n)
theorem high_item (n k i : Nat) (hi : i < k) : Builtin.bitAnd ((n : Int) / 2 ^ ((8 : Int) * (((k : Int) - 1) + (i : Int) * -1)).toNat) 255 = ((n / 2 ^ (8 * (k - 1 - i)) % 256 : Nat) : Int) := by
  have e : (8 : Int) * (((k : Int) - 1) + (i : Int) * -1) = ((8 * (k - 1 - i) : Nat) : Int) := by omega
  rw [e, i_shr]
  show Builtin.bitAnd _ ((255 : Nat) : Int) = _
  rw [i_and, and_255]
theorem ok_high_first {f : Addr} {fd : FuncData} (F : Fun K "high_first" "high_first" s_high_first f fd) (T : Txt K mg) : FnOk P w K mg base CX0 1 f fd ["number", "many"] sp_high_first := by
  refine F.ok sc_high_first (fun vs H Q E h => ?_) (fun cdv A outer s H vs Q E hr h => ?_)
  · obtain ⟨n, k, rfl, _⟩ := h
    rfl
  · obtain ⟨n, k, rfl, hk, q⟩ := h
    refine ⟨_, pss_one (ps_ret (pe_lc (own := [("k", 2)]) (g := gName 2) (tt := tYes) rfl sc_high_first.nd
      (pi_range3 (by rfl) T.b_range (pa_cons (pe_op op_sub (pv 1) pe_int) (pa_cons (pe_un un_neg pe_int) (pa_cons (pe_un un_neg pe_int) pa_nil))))
      (blkOk_by (own := [("k", 2)]) (N := ["number", "many", "k"]) (sc := defScope s_high_first) (by decide +kernel)) (fun _ _ _ _ _ => pg_name (i := 2) sc_high_first.nd rfl (Or.inl rfl)) (fun _ _ _ _ _ => pts_nil)
      (fun _ _ _ _ _ => pe_op op_and (pe_op op_shr (pv 0) (pe_op op_mul pe_int (pv 2))) pe_int))), ?_⟩
    have hR : RgC ((k : Int) - 1) (-1) (-1) k := by
      have e : (((k : Int) - 1) - (-1)).toNat = k := by omega
      have r := RgC.neg (i := (k : Int) - 1) (j := -1) (by omega) (by omega) (by decide) (by decide)
      rw [e] at r
      exact r
    refine ⟨_, rfl, _, _, rfl, rfl, _, rfl, _, rfl, _, _, _, k, rfl, hR, fun D hD => ?_⟩
    refine lc_it walk_rangeC (fun i H' => Same H H' ∧ H' D = some (.lst (vb ((Ql67.be k n).take i)))) ⟨same_upd hD, upd_same⟩ (fun _ _ _ _ => trivial) ?_ ?_
    · rintro i x H1 H2 hi ⟨s1, e1⟩ ⟨rfl, rfl⟩
      refine ⟨rfl, _, rfl, _, rfl, _, _, rfl, rfl, .inl ⟨by decide, by decide⟩, _, _, rfl, rfl, ?_, _, _, rfl, rfl, _, e1, ?_, same_set s1 hD, ?_⟩
      · show (0 : Int) ≤ 8 * (((k : Int) - 1) + (i : Int) * -1)
        omega
      · rw [vb_length]
        exact lt_line (Nat.le_trans (List.length_take_le _ _) (by omega))
      · rw [upd_same, vb_more (be_get k n i hi), ← high_item n k i hi]
    · rintro H1 ⟨s1, e1⟩
      refine q H1 D s1 hD ?_
      rw [e1, List.take_of_length_le (by rw [be_length]; exact Nat.le_refl _)]
/-! ### number_of -/
theorem sc_number_of : FnScope ["row", "found", "byte"] ["row"] (defScope s_number_of) := ⟨rfl, rfl, rfl, by decide +kernel, rfl, by decide +kernel, by decide +kernel⟩
def sp_number_of (K : PySem.W.Frag) : Sp := fun vs H Q _ => ∃ (a : Addr) (l : List Nat), vs = [.ref a] ∧ SqL K H a (vb l) ∧ Q (.int (Ql67.num l : Nat)) H
theorem take_snoc {l : List Nat} {i n : Nat} (h : l[i]? = some n) : l.take (i + 1) = l.take i ++ [n] := by
  rw [List.take_add_one, h]
  rfl
theorem ok_number_of {f : Addr} {fd : FuncData} (F : Fun K "number_of" "number_of" s_number_of f fd) (T : Txt K mg) : FnOk P w K mg base CX0 1 f fd ["row"] (sp_number_of K) := by
  refine F.ok sc_number_of (fun vs H Q E h => ?_) (fun cdv A outer s H vs Q E hr h => ?_)
  · obtain ⟨a, l, rfl, _⟩ := h
    rfl
  · obtain ⟨a, l, rfl, hS, q⟩ := h
    refine ⟨_, pss_cons (ps_set (i := 1) sc_number_of.nd rfl (Or.inl rfl) pe_int)
      (pss_cons (ps_for PassesOwn.never rfl (pi_list (pv 0)) (pg_name (i := 2) sc_number_of.nd rfl (Or.inl rfl))
        (pss_one (ps_set (i := 1) sc_number_of.nd rfl (Or.inl rfl) (pe_op op_add (pe_op op_mul pe_int (pv 1)) (pv 2)))))
      (pss_one (ps_ret (pv 1)))), ?_⟩
    refine ⟨_, rfl, a, rfl, ⟨_, hS⟩, for_list (K := K) (a := a) (xs := vb l) (fun i σ H' => H' = H ∧ ∃ v : Option V, σ = [some (.ref a), some (.int (Ql67.num (l.take i) : Nat)), v]) ⟨rfl, none, rfl⟩ (fun i σ H' _ h => by rw [h.1]; exact hS) ?_ ?_⟩
    · rintro i x σ H' hx ⟨rfl, v, rfl⟩
      obtain ⟨n, hn, rfl⟩ := vb_at hx
      refine ⟨_, rfl, _, _, rfl, rfl, .inl ⟨by decide, by decide⟩, _, rfl, _, _, rfl, rfl, rfl, some (.int (n : Int)), ?_⟩
      rw [take_snoc hn, num_snoc]
      show [some (V.ref a), some (V.int (256 * ((Ql67.num (l.take i) : Nat) : Int) + (n : Int))), some (V.int (n : Int))] = _
      rw [Int.natCast_add, Int.natCast_mul]
      rfl
    · rintro σ H' ⟨rfl, v, rfl⟩
      rw [vb_length, List.take_length]
      exact ⟨_, rfl, q⟩
/-! ### spread -/
theorem sc_spread : FnScope ["half"] ["half"] (defScope s_spread) := ⟨rfl, rfl, rfl, by decide +kernel, rfl, by decide +kernel, by decide +kernel⟩
def spr (x : Nat) : Nat := ((((x * 16 % Ql67.W) ^^^ (x / 32)) + x) % Ql67.W)
def sp_spread : Sp := fun vs H Q _ => ∃ x : Nat, vs = [.int (x : Int)] ∧ x < 2 ^ 32 ∧ Q (.int (spr x : Nat)) H
theorem spread_val (x : Nat) : Int.fmod (Builtin.bitXor (Builtin.bitAnd ((x : Int) * 2 ^ (4 : Int).toNat) (4294967296 - 1)) ((x : Int) / 2 ^ (5 : Int).toNat) + (x : Int)) 4294967296 = ((spr x : Nat) : Int) := by
  have e1 : (x : Int) * 2 ^ (4 : Int).toNat = ((x * 2 ^ 4 : Nat) : Int) := i_shl x 4
  have e2 : (x : Int) / 2 ^ (5 : Int).toNat = ((x / 2 ^ 5 : Nat) : Int) := i_shr x 5
  have e3 : (4294967296 - 1 : Int) = ((4294967295 : Nat) : Int) := by decide
  have e4 : (4294967296 : Int) = ((4294967296 : Nat) : Int) := by decide
  have e5 : x * 2 ^ 4 &&& 4294967295 = x * 2 ^ 4 % 2 ^ 32 := Nat.and_two_pow_sub_one_eq_mod _ 32
  rw [e1, e2, e3, i_and, i_xor, ← Int.natCast_add, e4, i_mod _ _ (by decide), e5]
  rfl
theorem z5 : (0 : Int) ≤ 5 := by decide
theorem zW : (4294967296 : Int) ≠ 0 := by decide
theorem ok_spread {f : Addr} {fd : FuncData} (F : Fun K "spread" "spread" s_spread f fd) (T : Txt K mg) : FnOk P w K mg base CX0 1 f fd ["half"] sp_spread := by
  refine F.ok sc_spread (fun vs H Q E h => ?_) (fun cdv A outer s H vs Q E hr h => ?_)
  · obtain ⟨x, rfl, _⟩ := h
    rfl
  · obtain ⟨x, rfl, hx, q⟩ := h
    refine ⟨_, pss_one (ps_ret (pe_op op_modN (pe_op op_add (pe_op op_xor (pe_op op_and (pe_op op_shl (pv 0) pe_int) (pe_op op_sub (pe_gv T.c_WORD) pe_int)) (pe_op op_shr (pv 0) pe_int)) (pv 0)) (pe_gv T.c_WORD))), ?_⟩
    refine ⟨_, rfl, _, _, rfl, rfl, ⟨by decide, by decide, ?_⟩, _, _, rfl, rfl, _, _, rfl, rfl, _, rfl, _, _, rfl, rfl, z5, _, _, rfl, rfl, _, rfl, _, _, rfl, rfl, _, _, rfl, rfl, zW, ?_⟩
    · show x < 2 ^ 64
      omega
    · exact (congrArg (fun z => Q (V.int z) H) (spread_val x)).mpr q
/-! ### enciphered -/
theorem sc_enciphered : FnScope ["words", "block", "a", "b", "s", "k"] ["words", "block"] (defScope s_enciphered) := ⟨rfl, rfl, rfl, by decide +kernel, rfl, by decide +kernel, by decide +kernel⟩
def blk (ks : List Nat) (x : Nat) : Nat := (Ql67.rounds 32 ks 0 (x / Ql67.W) (x % Ql67.W)).1 * Ql67.W + (Ql67.rounds 32 ks 0 (x / Ql67.W) (x % Ql67.W)).2
def sp_enciphered (K : PySem.W.Frag) : Sp := fun vs H Q _ => ∃ (a : Addr) (ks : List Nat) (x : Nat), vs = [.ref a, .int (x : Int)] ∧ SqL K H a (vb ks) ∧ ks.length = 4 ∧ x < 2 ^ 64 ∧ Q (.int (blk ks x : Nat)) H
theorem mix_eq (x s k : Nat) : Ql67.mix x s k = spr x ^^^ ((s + k) % Ql67.W) := rfl
/-- a grows -/
theorem half_val (a b s k : Nat) : Int.fmod ((a : Int) + Builtin.bitXor (spr b : Nat) (Int.fmod ((s : Int) + (k : Int)) 4294967296)) 4294967296 = (((a + Ql67.mix b s k) % Ql67.W : Nat) : Int) := by
  have e4 : (4294967296 : Int) = ((4294967296 : Nat) : Int) := by decide
  rw [e4, ← Int.natCast_add, i_mod _ _ (by decide), i_xor, ← Int.natCast_add, i_mod _ _ (by decide)]
  rfl
theorem step_val (s : Nat) : Int.fmod ((s : Int) + 2654435769) 4294967296 = (((s + 0x9E3779B9) % Ql67.W : Nat) : Int) := by
  have e4 : (4294967296 : Int) = ((4294967296 : Nat) : Int) := by decide
  have e5 : (2654435769 : Int) = ((2654435769 : Nat) : Int) := by decide
  rw [e4, e5, ← Int.natCast_add, i_mod _ _ (by decide)]
  rfl
theorem word_at {ks : List Nat} (h : ks.length = 4) (j : Nat) : atI (vb ks) (Int.fmod (j : Int) 4) = some (.int (ks.getD (j % 4) 0 : Nat)) := by
  have e4 : (4 : Int) = ((4 : Nat) : Int) := rfl
  rw [e4, i_mod _ _ (by decide)]
  refine atI_nat (vb_get ?_)
  have hj : j % 4 < ks.length := by rw [h]; exact Nat.mod_lt _ (by decide)
  rw [List.getD_eq_getElem?_getD, List.getElem?_eq_getElem hj]
  rfl
theorem z32 : (0 : Int) ≤ 32 := by decide
theorem z11 : (0 : Int) ≤ 11 := by decide
theorem z4 : (4 : Int) ≠ 0 := by decide
theorem ok_enciphered {f : Addr} {fd : FuncData} (F : Fun K "enciphered" "enciphered" s_enciphered f fd) (T : Txt K mg) (G1 : Df P w K mg base CX0 1 "spread" ["half"] sp_spread) : FnOk P w K mg base CX0 2 f fd ["words", "block"] (sp_enciphered K) := by
  refine F.ok sc_enciphered (fun vs H Q E h => ?_) (fun cdv A outer s H vs Q E hr h => ?_)
  · obtain ⟨a, ks, x, rfl, _⟩ := h
    rfl
  · obtain ⟨wa, ks, x, rfl, hS, h4, hx, q⟩ := h
    have hr1 : Room 1 _ := hr.mono (by decide)
    refine ⟨_, pss_cons (ps_set (i := 2) sc_enciphered.nd rfl (Or.inl rfl) (pe_op op_shr (pv 1) (pe_gv T.c_WORD_BITS)))
      (pss_cons (ps_set (i := 3) sc_enciphered.nd rfl (Or.inl rfl) (pe_op op_modN (pv 1) (pe_gv T.c_WORD)))
      (pss_cons (ps_set (i := 4) sc_enciphered.nd rfl (Or.inl rfl) pe_int)
      (pss_cons (ps_for PassesOwn.never rfl (pi_range1 rfl T.b_range (pa_cons (pe_gv T.c_ROUNDS) pa_nil)) (pg_name (i := 5) sc_enciphered.nd rfl (Or.inl rfl))
        (pss_cons (ps_set (i := 2) sc_enciphered.nd rfl (Or.inl rfl) (pe_op op_modN (pe_op op_add (pv 2) (pe_op op_xor (pe_callD G1 hr1 pass0 (pa_cons (pv 3) pa_nil))
            (pe_op op_modN (pe_op op_add (pv 4) (pe_ix ix_list (pv 0) (pe_op op_modN (pv 4) pe_int) (fun _ _ => rfl))) (pe_gv T.c_WORD)))) (pe_gv T.c_WORD)))
        (pss_cons (ps_set (i := 4) sc_enciphered.nd rfl (Or.inl rfl) (pe_op op_modN (pe_op op_add (pv 4) (pe_gv T.c_STEP)) (pe_gv T.c_WORD)))
        (pss_one (ps_set (i := 3) sc_enciphered.nd rfl (Or.inl rfl) (pe_op op_modN (pe_op op_add (pv 3) (pe_op op_xor (pe_callD G1 hr1 pass0 (pa_cons (pv 2) pa_nil))
            (pe_op op_modN (pe_op op_add (pv 4) (pe_ix ix_list (pv 0) (pe_op op_modN (pe_op op_shr (pv 4) pe_int) pe_int) (fun _ _ => rfl))) (pe_gv T.c_WORD)))) (pe_gv T.c_WORD)))))))
      (pss_one (ps_ret (pe_op op_add (pe_op op_shl (pv 2) (pe_gv T.c_WORD_BITS)) (pv 3))))))), ?_⟩
    have hW : Ql67.W = 4294967296 := by decide
    have ea : (x : Int) / 2 ^ (32 : Int).toNat = ((x / Ql67.W : Nat) : Int) := i_shr x 32
    have eb : Int.fmod (x : Int) 4294967296 = ((x % Ql67.W : Nat) : Int) := i_mod x 4294967296 (by decide)
    refine ⟨_, rfl, _, _, rfl, rfl, z32, _, rfl, _, _, rfl, rfl, zW, 32, rfl, by decide, by decide, ?_⟩
    refine for_range (lo := 0) (n := 32) (fun i σ H' => H' = H ∧ ∃ (a b s : Nat) (v : Option V), σ = [some (.ref wa), some (.int (x : Int)), some (.int (a : Int)), some (.int (b : Int)), some (.int (s : Int)), v] ∧ a < Ql67.W ∧ b < Ql67.W ∧ s < Ql67.W ∧
      Ql67.rounds (32 - i) ks s a b = Ql67.rounds 32 ks 0 (x / Ql67.W) (x % Ql67.W)) ⟨rfl, x / Ql67.W, x % Ql67.W, 0, none, ?_, ?_, Nat.mod_lt _ (by decide), by decide, rfl⟩ ?_ ?_
    · rw [← ea, ← eb]
      rfl
    · rw [Nat.div_lt_iff_lt_mul (by decide), hW]
      omega
    · rintro i σ H' hi ⟨rfl, a, b, s, v, rfl, la, lb, ls, hq⟩
      have e : 32 - i = (32 - (i + 1)) + 1 := by omega
      rw [e, rounds_more] at hq
      refine ⟨_, rfl, ⟨_, rfl, b, rfl, by rw [hW] at lb; exact lb, _, rfl, _, rfl, _, rfl, _, _, rfl, rfl, z4, wa, _, _, _, rfl, rfl, hS, word_at h4 s, _, _, rfl, rfl, _, _, rfl, rfl, zW, _, _, rfl, rfl, _, _, rfl, rfl, _, _, rfl, rfl, zW, ?_⟩⟩
      dsimp only
      rw [half_val a b s]
      refine ⟨_, rfl, _, _, rfl, rfl, _, _, rfl, rfl, zW, ?_⟩
      dsimp only
      rw [step_val]
      have ec : (((s + 0x9E3779B9) % Ql67.W : Nat) : Int) / 2 ^ (11 : Int).toNat = (((s + 0x9E3779B9) % Ql67.W / 2048 : Nat) : Int) := i_shr _ 11
      refine ⟨_, rfl, ⟨_, rfl, _, rfl, (show _ < Ql67.W from Nat.mod_lt _ (by decide)), _, rfl, _, rfl, _, rfl, _, _, rfl, rfl, z11, _, _, rfl, rfl, z4, wa, _, _, _, rfl, rfl, hS, (by rw [ec]; exact word_at h4 _), _, _, rfl, rfl, _, _, rfl, rfl, zW, _, _, rfl, rfl, _, _, rfl, rfl, _, _, rfl, rfl, zW, ?_⟩⟩
      dsimp only
      rw [half_val b]
      exact ⟨rfl, _, _, _, _, rfl, Nat.mod_lt _ (by decide), Nat.mod_lt _ (by decide), Nat.mod_lt _ (by decide), hq⟩
    · rintro σ H' ⟨rfl, a, b, s, v, rfl, la, lb, ls, hq⟩
      have hq' : (a, b) = Ql67.rounds 32 ks 0 (x / Ql67.W) (x % Ql67.W) := hq
      refine ⟨_, rfl, _, _, rfl, rfl, ⟨by decide, by decide, ?_⟩, _, rfl, _, _, rfl, rfl, ?_⟩
      · show a < 2 ^ 64
        rw [hW] at la
        omega
      · have e : (a : Int) * 2 ^ (32 : Int).toNat + (b : Int) = ((blk ks x : Nat) : Int) := by
          unfold blk
          rw [← hq']
          have e1 : (a : Int) * 2 ^ (32 : Int).toNat = ((a * 2 ^ 32 : Nat) : Int) := i_shl a 32
          rw [e1, ← Int.natCast_add]
          rfl
        exact (congrArg (fun z => Q (V.int z) H') e).mpr q
/-! ### words_of -/
theorem sc_words_of : FnScope ["key", "byte", "changed", "one", "at"] ["key", "byte"] (defScope s_words_of) := ⟨rfl, rfl, rfl, by decide +kernel, rfl, by decide +kernel, by decide +kernel⟩
def sp_words_of (K : PySem.W.Frag) : Sp := fun vs H Q _ => ∃ (a : Addr) (k : List Nat) (x : Nat), vs = [.ref a, .int (x : Int)] ∧ SqL K H a (vb k) ∧ k.length = 16 ∧ outL H Q (words (k.map fun b => b ^^^ x))
theorem rg_words : RgC 0 16 4 4 := ⟨by decide, by decide, by decide, by decide⟩
theorem words_get (k : List Nat) (i : Nat) (h : i < 4) : (words k)[i]? = some (Ql67.num ((k.drop (4 * i)).take 4)) := by
  unfold words
  rw [List.getElem?_map, List.getElem?_range h]
  rfl
theorem ok_words_of {f : Addr} {fd : FuncData} (F : Fun K "words_of" "words_of" s_words_of f fd) (T : Txt K mg) (G1 : Df P w K mg base CX0 1 "number_of" ["row"] (sp_number_of K)) : FnOk P w K mg base CX0 2 f fd ["key", "byte"] (sp_words_of K) := by
  refine F.ok sc_words_of (fun vs H Q E h => ?_) (fun cdv A outer s H vs Q E hr h => ?_)
  · obtain ⟨a, k, x, rfl, _⟩ := h
    rfl
  · obtain ⟨a, k, x, rfl, hS, hk, q⟩ := h
    have hr1 : Room 1 _ := hr.mono (by decide)
    refine ⟨_, pss_cons (ps_set (i := 2) sc_words_of.nd rfl (Or.inr rfl) (pe_lc (own := [("one", 3)]) (g := gName 3) (tt := tYes) rfl sc_words_of.nd (pi_list (pv 0))
        (blkOk_by (own := [("one", 3)]) (N := ["key", "byte", "changed", "one", "at"]) (sc := defScope s_words_of) (by decide +kernel)) (fun _ _ _ _ _ => pg_name (i := 3) sc_words_of.nd rfl (Or.inl rfl)) (fun _ _ _ _ _ => pts_nil)
        (fun _ _ _ _ _ => pe_op op_xor (pv 3) (pv 1))))
      (pss_one (ps_ret (pe_lc (own := [("at", 4)]) (g := gName 4) (tt := tYes) rfl sc_words_of.nd
        (pi_range3 (by rfl) T.b_range (pa_cons pe_int (pa_cons (pe_gv T.c_KEY_BYTES) (pa_cons pe_int pa_nil))))
        (blkOk_by (own := [("at", 4)]) (N := ["key", "byte", "changed", "one", "at"]) (sc := defScope s_words_of) (by decide +kernel)) (fun _ _ _ _ _ => pg_name (i := 4) sc_words_of.nd rfl (Or.inl rfl)) (fun _ _ _ _ _ => pts_nil)
        (fun _ _ _ _ _ => pe_callD G1 hr1 pass0 (pa_cons (pe_slice (show SlR _ (rSlL K) from sl_list) (pv 2) (po_some (pv 4)) (po_some (pe_op op_add (pv 4) pe_int))) pa_nil))))), ?_⟩
    have hl : (vb k).length = k.length := vb_length k
    refine ⟨_, rfl, a, rfl, ⟨_, hS⟩, fun D hD => ?_⟩
    refine lc_list (K := K) (a := a) (xs := vb k) (fun i H' => Same H H' ∧ H' D = some (.lst (vb ((k.map fun b => b ^^^ x).take i)))) ⟨same_upd hD, upd_same⟩ (fun i H' _ h => h.1.seq hS) ?_ ?_
    · rintro i y H1 hy ⟨s1, e1⟩
      obtain ⟨n, hn, rfl⟩ := vb_at hy
      have hn' : (k.map fun b => b ^^^ x)[i]? = some (n ^^^ x) := by rw [List.getElem?_map, hn]; rfl
      refine ⟨rfl, _, rfl, _, rfl, _, _, rfl, rfl, _, e1, ?_, same_set s1 hD, ?_⟩
      · rw [vb_length]
        exact lt_line (Nat.le_trans (List.length_take_le _ _) (by have := (List.getElem?_eq_some_iff.mp hn).1; omega))
      · rw [upd_same, vb_more hn', ← i_xor]
    · rintro H1 ⟨s1, e1⟩
      rw [hl, List.take_of_length_le (by rw [List.length_map]; exact Nat.le_refl _)] at e1
      refine ⟨_, _, _, 4, rfl, rg_words, fun D2 hD2 => ?_⟩
      refine lc_it walk_rangeC (fun i H' => Same H1 H' ∧ H' D2 = some (.lst (vb ((words (k.map fun b => b ^^^ x)).take i)))) ⟨same_upd hD2, upd_same⟩ (fun _ _ _ _ => trivial) ?_ ?_
      · rintro i y H2 H3 hi ⟨s2, e2⟩ ⟨rfl, rfl⟩
        have ei : (0 : Int) + (i : Int) * 4 = ((4 * i : Nat) : Int) := by omega
        have ej : (0 : Int) + (i : Int) * 4 + 4 = ((4 * i + 4 : Nat) : Int) := by omega
        refine ⟨rfl, _, rfl, _, rfl, _, rfl, _, rfl, _, _, rfl, rfl, _, rfl, D, _, rfl, lst_of (s2 _ _ e1), fun p hp => ?_⟩
        have ec : cutV (vb (k.map fun b => b ^^^ x)) (some ((0 : Int) + (i : Int) * 4)) (some ((0 : Int) + (i : Int) * 4 + 4)) = vb (((k.map fun b => b ^^^ x).drop (4 * i)).take 4) := cut_vb _ ei ej
        refine ⟨p, _, rfl, lst_of (upd_same.trans (congrArg (fun z => some (HO.lst z)) ec)), _, same_upd hp _ _ e2, ?_, same_set (same_new s2 hp) hD2, ?_⟩
        · rw [vb_length]
          exact lt_line (Nat.le_trans (List.length_take_le _ _) (by omega))
        · rw [upd_same, vb_more (words_get _ i hi)]
      · rintro H2 ⟨s2, e2⟩
        refine q H2 D2 (s1.trans s2) (s1.free hD2) ?_
        rw [e2, List.take_of_length_le (by rw [words_len]; exact Nat.le_refl _)]
/-! ### sum_of -/
theorem sc_sum_of : FnScope ["key", "text", "words", "row", "found", "at"] ["key", "text"] (defScope s_sum_of) := ⟨rfl, rfl, rfl, by decide +kernel, rfl, by decide +kernel, by decide +kernel⟩
def sp_sum_of (K : PySem.W.Frag) : Sp := fun vs H Q _ => ∃ (a b : Addr) (k m : List Nat), vs = [.ref a, .ref b] ∧ SqL K H a (vb k) ∧ k.length = 16 ∧ SqL K H b (vb m) ∧ Ql67.Bytes m ∧ m.length ≤ 10000 ∧ outV H Q (.int (Ql67.sum k m : Nat))
theorem z8 : (8 : Int) ≠ 0 := by decide
theorem pad_val (n L : Nat) (h : L = 8 + n) : Int.fmod (-(L : Int)) 8 = ((padOf n : Nat) : Int) := by
  rw [PySem.W.os_fmod_pos (by decide)]
  unfold padOf
  omega
theorem row_val (m : List Nat) (j : Int) (h : j = ((padOf m.length : Nat) : Int)) : (vb (Ql67.be 8 m.length) ++ vb m) ++ (List.replicate j.toNat [V.int 0]).flatten = vb (rowOf m) := by
  rw [h, Int.toNat_natCast, List.flatten_replicate_singleton]
  unfold rowOf
  rw [vb_append, vb_append]
  have e : List.replicate (padOf m.length) (V.int 0) = vb (List.replicate (padOf m.length) 0) := by
    unfold vb
    rw [List.map_replicate]
    rfl
  rw [e]
theorem rowOf_bytes {m : List Nat} (h : Ql67.Bytes m) : Ql67.Bytes (rowOf m) := by
  intro b hb
  unfold rowOf at hb
  rcases List.mem_append.mp hb with hb | hb
  · rcases List.mem_append.mp hb with hb | hb
    · exact be_lt _ _ _ hb
    · exact h b hb
  · rw [List.eq_of_mem_replicate hb]
    decide
theorem chunk_lt {l : List Nat} (h : Ql67.Bytes l) (i : Nat) : chunk l i < 2 ^ 64 := by
  have h1 := num_lt ((l.drop (8 * i)).take 8) (fun b hb => h b (List.mem_of_mem_drop (List.mem_of_mem_take hb)))
  refine Nat.lt_of_lt_of_le h1 (Nat.pow_le_pow_right (by decide) ?_)
  rw [List.length_take]
  omega
theorem ok_sum_of {f : Addr} {fd : FuncData} (F : Fun K "sum_of" "sum_of" s_sum_of f fd) (T : Txt K mg) (G1 : Df P w K mg base CX0 2 "words_of" ["key", "byte"] (sp_words_of K)) (G2 : Df P w K mg base CX0 1 "high_first" ["number", "many"] sp_high_first)
    (G3 : Df P w K mg base CX0 2 "enciphered" ["words", "block"] (sp_enciphered K)) (G4 : Df P w K mg base CX0 1 "number_of" ["row"] (sp_number_of K)) : FnOk P w K mg base CX0 3 f fd ["key", "text"] (sp_sum_of K) := by
  refine F.ok sc_sum_of (fun vs H Q E h => ?_) (fun cdv A outer s H vs Q E hr h => ?_)
  · obtain ⟨a, b, k, m, rfl, _⟩ := h
    rfl
  · obtain ⟨a, b, k, m, rfl, hK, hk, hM, hB, hlen, q⟩ := h
    refine ⟨_, pss_cons (ps_set (i := 2) sc_sum_of.nd rfl (Or.inl rfl) (pe_callD G1 (hr.mono (by decide)) pass0 (pa_cons (pv 0) (pa_cons (pe_gv T.c_FOR_SUM) pa_nil))))
      (pss_cons (ps_set (i := 3) sc_sum_of.nd rfl (Or.inl rfl) (pe_op op_cat (pe_callD G2 (hr.mono (by decide)) pass0 (pa_cons (pe_callB call_len_seq (by rfl) T.b_len PySem.boot_len (pa_cons (pv 1) pa_nil)) (pa_cons (pe_gv T.c_BLOCK_BYTES) pa_nil)))
          (pe_callTy call_list_of (by rfl) T.b_list (by decide +kernel) (pa_cons (pv 1) pa_nil))))
      (pss_cons (ps_set (i := 3) sc_sum_of.nd rfl (Or.inl rfl) (pe_op op_cat (pv 3) (pe_op op_rep (pe_lst (pa_cons pe_int pa_nil)) (pe_op op_modN (pe_un un_neg (pe_callB call_len_seq (by rfl) T.b_len PySem.boot_len (pa_cons (pv 3) pa_nil))) (pe_gv T.c_BLOCK_BYTES)))))
      (pss_cons (ps_set (i := 4) sc_sum_of.nd rfl (Or.inl rfl) pe_int)
      (pss_cons (ps_for PassesOwn.never rfl (pi_range3 (by rfl) T.b_range (pa_cons pe_int (pa_cons (pe_callB call_len_seq (by rfl) T.b_len PySem.boot_len (pa_cons (pv 3) pa_nil)) (pa_cons (pe_gv T.c_BLOCK_BYTES) pa_nil)))) (pg_name (i := 5) sc_sum_of.nd rfl (Or.inl rfl))
        (pss_one (ps_set (i := 4) sc_sum_of.nd rfl (Or.inl rfl) (pe_callD G3 (hr.mono (by decide)) pass0 (pa_cons (pv 2) (pa_cons (pe_op op_xor (pv 4) (pe_callD G4 (hr.mono (by decide)) pass0
          (pa_cons (pe_slice sl_list (pv 3) (po_some (pv 5)) (po_some (pe_op op_add (pv 5) (pe_gv T.c_BLOCK_BYTES)))) pa_nil))) pa_nil))))))
      (pss_one (ps_ret (pv 4))))))), ?_⟩
    have hl : (vb m).length = m.length := vb_length m
    -- words
    refine ⟨_, rfl, a, k, 54, rfl, hK, hk, fun H1 pw s1 n1 e1 => ?_⟩
    -- row
    refine ⟨_, rfl, b, _, rfl, .inl (s1.seq hM), (vb m).length, 8, rfl, by decide, fun H2 p2 s2 n2 e2 => ?_⟩
    rw [hl] at e2
    refine ⟨_, rfl, b, _, rfl, .inl (s2.seq (s1.seq hM)), fun p3 n3 => ?_⟩
    generalize hE : upd _ p3 _ = H3
    obtain ⟨s3, e3⟩ := gen_new hE n3
    clear hE
    refine ⟨p2, p3, _, _, rfl, rfl, s3 _ _ e2, e3, ?_, fun p4 n4 => ?_⟩
    · rw [vb_length, vb_length, be_length]
      exact le_line (by omega)
    generalize hE : upd _ p4 _ = H4
    obtain ⟨s4, e4⟩ := gen_new hE n4
    clear hE
    have h4 : (vb (Ql67.be 8 m.length) ++ vb m).length = 8 + m.length := by rw [List.length_append, vb_length, vb_length, be_length]
    refine ⟨_, rfl, (by show 1 ≤ sizeLine; decide), fun p5 n5 => ?_⟩
    generalize hE : upd _ p5 _ = H5
    obtain ⟨s5, e5⟩ := gen_new hE n5
    clear hE
    have hpad := pad_val m.length _ h4
    have hp8 : padOf m.length < 8 := Nat.mod_lt _ (by decide)
    refine ⟨_, rfl, p4, _, rfl, .inl (lst_of (s5 _ _ e4)), _, rfl, _, _, rfl, rfl, z8, p5, _, _, rfl, rfl, e5, ?_, ?_, ?_, fun p6 n6 => ?_⟩
    · rw [hpad]
      omega
    · rw [hpad]
      omega
    · rw [hpad, Int.toNat_natCast]
      exact le_line (by show 1 * _ ≤ 100000; omega)
    generalize hE : upd _ p6 _ = H6
    obtain ⟨s6, e6⟩ := gen_new hE n6
    clear hE
    refine ⟨p4, p6, _, _, rfl, rfl, s6 _ _ (s5 _ _ e4), e6, ?_, fun p7 n7 => ?_⟩
    · rw [List.flatten_replicate_singleton, List.length_replicate, hpad, h4, Int.toNat_natCast]
      exact le_line (by omega)
    generalize hE : upd _ p7 _ = H7
    obtain ⟨s7, e7⟩ := gen_new hE n7
    clear hE
    rw [row_val m _ hpad] at e7
    have sA : Same H1 H7 := s2.trans (s3.trans (s4.trans (s5.trans (s6.trans s7))))
    have hrow : (vb (rowOf m)).length = (rowOf m).length := vb_length _
    have hr8 := rowOf_length m
    have hB2 := rowOf_bytes hB
    have hrl : (rowOf m).length ≤ 100000 := by
      rw [hr8]
      omega
    -- the loop
    refine ⟨_, rfl, p7, _, rfl, .inl (lst_of e7), _, _, _, (rowOf m).length / 8, rfl, ?_, ?_⟩
    · rw [hrow]
      exact rg8 _ _ (.inl (by rw [hr8, Nat.mul_div_cancel_left _ (by decide)])) hrl
    refine for_it walk_rangeC (fun i σ H' => Same H7 H' ∧ ∃ v : Option V, σ = [some (.ref a), some (.ref b), some (.ref pw), some (.ref p7), some (.int (sumTo k m i : Nat)), v]) ⟨Same.refl _, none, rfl⟩ (fun _ _ _ _ _ => trivial) ?_ ?_
    · rintro i x σ H' H'' hi ⟨s8, v, rfl⟩ ⟨rfl, rfl⟩
      have ei : (0 : Int) + (i : Int) * 8 = ((8 * i : Nat) : Int) := by omega
      have ej : (0 : Int) + (i : Int) * 8 + 8 = ((8 * i + 8 : Nat) : Int) := by omega
      refine ⟨_, rfl, _, rfl, _, rfl, _, rfl, _, rfl, _, rfl, _, _, rfl, rfl, _, rfl, p7, _, rfl, lst_of (s8 _ _ e7), fun p9 n9 => ?_⟩
      generalize hE : upd _ p9 _ = H9
      obtain ⟨s9, e9⟩ := gen_new hE n9
      clear hE
      rw [cut_vb (rowOf m) ei ej] at e9
      refine ⟨p9, _, rfl, lst_of e9, _, _, rfl, rfl, pw, words (Ql67.key1 k), sumTo k m i ^^^ chunk (rowOf m) i, ?_, lst_of (s9 _ _ (s8 _ _ (sA _ _ e1))), words_len _, ?_, s8.trans s9, ?_⟩
      · exact congrArg (fun z => [V.ref pw, V.int z]) (i_xor _ _)
      · exact xor_lt (sumTo_lt k m i) (chunk_lt hB2 i)
      · refine ⟨some (.int ((0 : Int) + (i : Int) * 8)), ?_⟩
        rw [sumTo_succ, block_eq _ (xor_lt (sumTo_lt k m i) (chunk_lt hB2 i))]
        rfl
    · rintro σ H' ⟨s8, v, rfl⟩
      rw [sum_eq k m (by omega)]
      exact ⟨_, rfl, q _ (s1.trans (sA.trans s8))⟩
/-! ### streamed -/
theorem sc_streamed : FnScope ["key", "begin", "text", "words", "found", "at", "stream", "one", "other"] ["key", "begin", "text"] (defScope s_streamed) := ⟨rfl, rfl, rfl, by decide +kernel, rfl, by decide +kernel, by decide +kernel⟩
def sp_streamed (K : PySem.W.Frag) : Sp := fun vs H Q _ => ∃ (a b : Addr) (k m : List Nat) (g : Nat), vs = [.ref a, .int (g : Int), .ref b] ∧ SqL K H a (vb k) ∧ k.length = 16 ∧ SqL K H b (vb m) ∧ m.length ≤ 10000 ∧ outL H Q (Ql67.veiled k g m)
theorem zB : (18446744073709551616 : Int) ≠ 0 := by decide
theorem zD8 : (8 : Int) ≠ 0 ∧ (8 : Int).natAbs < 1073741824 := by decide
theorem block_no (g i : Nat) : Int.fmod ((g : Int) + Int.fdiv ((0 : Int) + (i : Int) * 8) 8) 18446744073709551616 = (((g + i) % 2 ^ 64 : Nat) : Int) := by
  have e1 : (0 : Int) + (i : Int) * 8 = ((8 * i : Nat) : Int) := by omega
  have e2 : (8 : Int) = ((8 : Nat) : Int) := rfl
  have e3 : (18446744073709551616 : Int) = ((18446744073709551616 : Nat) : Int) := rfl
  have e4 : 8 * i / 8 = i := Nat.mul_div_cancel_left _ (by decide)
  rw [e1, e2, i_div _ _ (by decide), e4, ← Int.natCast_add, e3, i_mod _ _ (by decide)]
theorem zip_get {X Y : List Nat} {i a b : Nat} (h1 : X[i]? = some a) (h2 : Y[i]? = some b) : (List.zipWith (fun (a b : Nat) => a ^^^ b) X Y)[i]? = some (a ^^^ b) := by
  rw [List.getElem?_zipWith, h1, h2]
theorem ok_streamed {f : Addr} {fd : FuncData} (F : Fun K "streamed" "streamed" s_streamed f fd) (T : Txt K mg) (G1 : Df P w K mg base CX0 2 "words_of" ["key", "byte"] (sp_words_of K)) (G2 : Df P w K mg base CX0 1 "high_first" ["number", "many"] sp_high_first)
    (G3 : Df P w K mg base CX0 2 "enciphered" ["words", "block"] (sp_enciphered K)) : FnOk P w K mg base CX0 3 f fd ["key", "begin", "text"] (sp_streamed K) := by
  refine F.ok sc_streamed (fun vs H Q E h => ?_) (fun cdv A outer s H vs Q E hr h => ?_)
  · obtain ⟨a, b, k, m, g, rfl, _⟩ := h
    rfl
  · obtain ⟨a, b, k, m, g, rfl, hK, hk, hM, hlen, q⟩ := h
    refine ⟨_, pss_cons (ps_set (i := 3) sc_streamed.nd rfl (Or.inl rfl) (pe_callD G1 (hr.mono (by decide)) pass0 (pa_cons (pv 0) (pa_cons (pe_gv T.c_FOR_STREAM) pa_nil))))
      (pss_cons (ps_set (i := 4) sc_streamed.nd rfl (Or.inl rfl) (pe_lst pa_nil))
      (pss_cons (ps_for PassesOwn.never rfl (pi_range3 (by rfl) T.b_range (pa_cons pe_int (pa_cons (pe_callB call_len_seq (by rfl) T.b_len PySem.boot_len (pa_cons (pv 2) pa_nil)) (pa_cons (pe_gv T.c_BLOCK_BYTES) pa_nil)))) (pg_name (i := 5) sc_streamed.nd rfl (Or.inl rfl))
        (pss_cons (ps_set (i := 6) sc_streamed.nd rfl (Or.inl rfl) (pe_callD G2 (hr.mono (by decide)) pass0 (pa_cons (pe_callD G3 (hr.mono (by decide)) pass0 (pa_cons (pv 3) (pa_cons
            (pe_op op_modN (pe_op op_add (pv 1) (pe_op op_fdivN (pv 5) (pe_gv T.c_BLOCK_BYTES))) (pe_gv T.c_BLOCK)) pa_nil))) (pa_cons (pe_gv T.c_BLOCK_BYTES) pa_nil))))
        (pss_one (ps_expr (pe_bm PySem.F.plainAttrs_list PySem.F.slot_list_extend PySem.F.type_list_extend mt_extend (pv 4) (pa_cons
          (pe_lc (own := [("one", 7), ("other", 8)]) (g := gTup K 2 (gCons (gName 7) (gCons (gName 8) gNil))) (tt := tYes) rfl sc_streamed.nd
            (pi_zip (by rfl) T.b_zip (pa_cons (pe_slice sl_list (pv 2) (po_some (pv 5)) (po_some (pe_op op_add (pv 5) (pe_gv T.c_BLOCK_BYTES)))) (pa_cons (pv 6) pa_nil)))
            (blkOk_by (own := [("one", 7), ("other", 8)]) (N := ["key", "begin", "text", "words", "found", "at", "stream", "one", "other"]) (sc := defScope s_streamed) (by decide +kernel))
            (fun _ _ _ _ _ => pg_tup rfl (pgs_cons (pg_name (i := 7) sc_streamed.nd rfl (Or.inl rfl)) (pgs_cons (pg_name (i := 8) sc_streamed.nd rfl (Or.inl rfl)) pgs_nil))) (fun _ _ _ _ _ => pts_nil)
            (fun _ _ _ _ _ => pe_op op_xor (pv 7) (pv 8))) pa_nil))))))
      (pss_one (ps_ret (pv 4))))), ?_⟩
    have hl : (vb m).length = m.length := vb_length m
    -- words, found
    refine ⟨_, rfl, a, k, 92, rfl, hK, hk, fun H1 pw s1 n1 e1 => ?_⟩
    refine ⟨(by show 0 ≤ sizeLine; decide), fun pf nf => ?_⟩
    generalize hE : upd _ pf _ = H2
    obtain ⟨s2, e2⟩ := gen_new hE nf
    clear hE
    -- the loop
    refine ⟨_, rfl, b, _, rfl, .inl (s2.seq (s1.seq hM)), _, _, _, (m.length + 7) / 8, rfl, ?_, ?_⟩
    · rw [hl]
      exact rg8 _ _ (by omega) (by omega)
    refine for_it walk_rangeC (fun i σ H' => Same H1 H' ∧ H' pf = some (.lst (vb ((Ql67.veiled k g m).take (8 * i)))) ∧ ∃ v v2 : Option V, σ = [some (.ref a), some (.int (g : Int)), some (.ref b), some (.ref pw), some (.ref pf), v, v2, none, none]) ⟨s2, e2, none, none, rfl⟩ (fun _ _ _ _ _ => trivial) ?_ ?_
    · rintro i x σ H' H'' hi ⟨s3, e3, v, v2, rfl⟩ ⟨rfl, rfl⟩
      have ei : (0 : Int) + (i : Int) * 8 = ((8 * i : Nat) : Int) := by omega
      have ej : (0 : Int) + (i : Int) * 8 + 8 = ((8 * i + 8 : Nat) : Int) := by omega
      have hx : (g + i) % 2 ^ 64 < 2 ^ 64 := Nat.mod_lt _ (by decide)
      -- stream
      refine ⟨_, rfl, _, rfl, _, rfl, _, _, rfl, rfl, zD8, _, _, rfl, rfl, _, _, rfl, rfl, zB, pw, words (Ql67.key2 k), (g + i) % 2 ^ 64, ?_, lst_of (s3 _ _ e1), words_len _, hx, blk (words (Ql67.key2 k)) ((g + i) % 2 ^ 64), 8, rfl, by decide, fun H4 p4 s4 n4 e4 => ?_⟩
      · exact congrArg (fun z => [V.ref pw, V.int z]) (block_no g i)
      have e4' : H4 p4 = some (.lst (vb (eightAt k g i))) := by
        have e := block_eq (Ql67.key2 k) hx
        unfold eightAt
        rw [e]
        exact e4
      -- the comprehension
      refine ⟨_, rfl, .inl ⟨rfl, _, lst_of (s4 _ _ e3)⟩, ?_⟩
      refine ⟨_, rfl, _, rfl, _, rfl, _, rfl, _, _, rfl, rfl, _, rfl, b, _, rfl, s4.seq (s3.seq (s1.seq hM)), fun p5 n5 => ?_⟩
      generalize hE : upd _ p5 _ = H5
      obtain ⟨s5, e5⟩ := gen_new hE n5
      clear hE
      rw [cut_vb m ei ej] at e5
      refine ⟨_, rfl, p5, p4, _, _, rfl, lst_of e5, lst_of (s5 _ _ e4'), fun D hD => ?_⟩
      refine lc_it (walk_zip rfl) (fun j H6 => Same H5 H6 ∧ H6 D = some (.lst (vb ((List.zipWith (fun (a b : Nat) => a ^^^ b) ((m.drop (8 * i)).take 8) (eightAt k g i)).take j)))) ⟨same_upd hD, upd_same⟩ (fun j H6 _ h => ⟨lst_of (h.1 _ _ e5), lst_of (h.1 _ _ (s5 _ _ e4'))⟩) ?_ ?_
      · rintro j y H6 H7 hj ⟨s6, e6⟩ ⟨t, x1, y1, rfl, nt, rfl, h1, h2⟩
        obtain ⟨n1, hn1, rfl⟩ := vb_at h1
        obtain ⟨n2, hn2, rfl⟩ := vb_at h2
        have hz := zip_get hn1 hn2
        refine ⟨t, _, rfl, tup_of upd_same, rfl, _, _, rfl, _, _, rfl, rfl, rfl, _, rfl, _, rfl, _, _, rfl, rfl, _, same_upd nt _ _ e6, ?_, same_set (same_new s6 nt) hD, ?_⟩
        · rw [vb_length]
          exact lt_line (Nat.le_trans (List.length_take_le _ _) (by have := (List.getElem?_eq_some_iff.mp hn1).1; rw [List.length_take] at this; omega))
        · rw [upd_same, vb_more hz, ← i_xor]
      · rintro H6 ⟨s6, e6⟩
        rw [List.take_of_length_le (by rw [List.length_zipWith, vb_length, vb_length]; exact Nat.le_refl _)] at e6
        have e7 := s6 _ _ (s5 _ _ (s4 _ _ e3))
        refine ⟨pf, D, _, _, rfl, rfl, e7, e6, ?_, same_set (s3.trans (s4.trans (s5.trans s6))) nf, ?_, _, _, rfl⟩
        · rw [vb_length, vb_length]
          exact le_line (by
            have h1 := List.length_take_le (8 * i) (Ql67.veiled k g m)
            have h2 : (List.zipWith (fun (a b : Nat) => a ^^^ b) ((m.drop (8 * i)).take 8) (eightAt k g i)).length ≤ 8 := by
              rw [List.length_zipWith, List.length_take]
              omega
            omega)
        · rw [upd_same, veiled_more k g m i (by omega), vb_append]
    · rintro σ H' ⟨s3, e3, v, v2, rfl⟩
      rw [List.take_of_length_le (by rw [veiled_length]; omega)] at e3
      exact ⟨_, rfl, q _ pf (s1.trans s3) (s1.free nf) e3⟩
/-! ### sealed -/
theorem sc_sealed : FnScope ["key", "text", "begin"] ["key", "text"] (defScope s_sealed) := ⟨rfl, rfl, rfl, by decide +kernel, rfl, by decide +kernel, by decide +kernel⟩
def sp_sealed (K : PySem.W.Frag) : Sp := fun vs H Q _ => ∃ (a b : Addr) (k m : List Nat), vs = [.ref a, .ref b] ∧ SqL K H a (vb k) ∧ k.length = 16 ∧ SqL K H b (vb m) ∧ Ql67.Bytes m ∧ m.length ≤ 5000 ∧ outL H Q (Ql67.seal_ k m)
theorem seal_length (k m : List Nat) : (Ql67.seal_ k m).length = 8 + m.length := by
  unfold Ql67.seal_
  rw [List.length_append, be_length, veiled_length]
theorem seal_bytes {k m : List Nat} (h : Ql67.Bytes m) : Ql67.Bytes (Ql67.seal_ k m) := by
  intro b hb
  unfold Ql67.seal_ at hb
  rcases List.mem_append.mp hb with hb | hb
  · exact be_lt _ _ _ hb
  · exact veiled_lt _ _ _ h b hb
theorem ok_sealed {f : Addr} {fd : FuncData} (F : Fun K "sealed" "sealed" s_sealed f fd) (T : Txt K mg) (G1 : Df P w K mg base CX0 3 "sum_of" ["key", "text"] (sp_sum_of K)) (G2 : Df P w K mg base CX0 1 "high_first" ["number", "many"] sp_high_first)
    (G3 : Df P w K mg base CX0 3 "streamed" ["key", "begin", "text"] (sp_streamed K)) : FnOk P w K mg base CX0 4 f fd ["key", "text"] (sp_sealed K) := by
  refine F.ok sc_sealed (fun vs H Q E h => ?_) (fun cdv A outer s H vs Q E hr h => ?_)
  · obtain ⟨a, b, k, m, rfl, _⟩ := h
    rfl
  · obtain ⟨a, b, k, m, rfl, hK, hk, hM, hB, hlen, q⟩ := h
    refine ⟨_, pss_cons (ps_set (i := 2) sc_sealed.nd rfl (Or.inl rfl) (pe_callD G1 (hr.mono (by decide)) pass0 (pa_cons (pv 0) (pa_cons (pv 1) pa_nil))))
      (pss_one (ps_ret (pe_op op_cat (pe_callD G2 (hr.mono (by decide)) pass0 (pa_cons (pv 2) (pa_cons (pe_gv T.c_BLOCK_BYTES) pa_nil)))
        (pe_callD G3 (hr.mono (by decide)) pass0 (pa_cons (pv 0) (pa_cons (pv 2) (pa_cons (pv 1) pa_nil))))))), ?_⟩
    refine ⟨_, rfl, _, rfl, a, b, k, m, rfl, hK, hk, hM, hB, by omega, fun H1 s1 => ?_⟩
    refine ⟨_, rfl, Ql67.sum k m, 8, rfl, by decide, fun H2 p2 s2 n2 e2 => ?_⟩
    refine ⟨_, rfl, _, rfl, _, rfl, a, b, k, m, Ql67.sum k m, rfl, s2.seq (s1.seq hK), hk, s2.seq (s1.seq hM), by omega, fun H3 p3 s3 n3 e3 => ?_⟩
    refine ⟨p2, p3, _, _, rfl, rfl, s3 _ _ e2, e3, ?_, fun p4 n4 => ?_⟩
    · rw [vb_length, vb_length, be_length, veiled_length]
      exact le_line (by omega)
    · have sA := s1.trans (s2.trans s3)
      refine q _ p4 (same_new sA n4) (sA.free n4) ?_
      rw [upd_same, ← vb_append]
      rfl
/-! ### is_name_byte -/
theorem sc_is_name_byte : FnScope ["byte"] ["byte"] (defScope s_is_name_byte) := ⟨rfl, rfl, rfl, by decide +kernel, rfl, by decide +kernel, by decide +kernel⟩
def sp_is_name_byte : Sp := fun vs H Q _ => ∃ n : Nat, vs = [.int (n : Int)] ∧ Q (.bl (Ql67.sign n)) H
theorem sign_eq (n : Nat) : Ql67.sign n = ((decide ((97 : Int) ≤ n) && decide ((n : Int) ≤ 122)) || ((decide ((48 : Int) ≤ n) && decide ((n : Int) ≤ 57)) || (decide (V.int (n : Int) = V.int 46) || decide (V.int (n : Int) = V.int 45)))) := by
  have h1 : decide (V.int (n : Int) = V.int 46) = (n == 46) := by
    rw [dec_int, Bool.eq_iff_iff, beq_iff_eq, beq_iff_eq]
    omega
  have h2 : decide (V.int (n : Int) = V.int 45) = (n == 45) := by
    rw [dec_int, Bool.eq_iff_iff, beq_iff_eq, beq_iff_eq]
    omega
  have h3 : decide ((97 : Int) ≤ n) = decide (97 ≤ n) := by
    rw [Bool.eq_iff_iff, decide_eq_true_iff, decide_eq_true_iff]
    omega
  have h4 : decide ((n : Int) ≤ 122) = decide (n ≤ 122) := by
    rw [Bool.eq_iff_iff, decide_eq_true_iff, decide_eq_true_iff]
    omega
  have h5 : decide ((48 : Int) ≤ n) = decide (48 ≤ n) := by
    rw [Bool.eq_iff_iff, decide_eq_true_iff, decide_eq_true_iff]
    omega
  have h6 : decide ((n : Int) ≤ 57) = decide (n ≤ 57) := by
    rw [Bool.eq_iff_iff, decide_eq_true_iff, decide_eq_true_iff]
    omega
  unfold Ql67.sign
  rw [h1, h2, h3, h4, h5, h6, Bool.decide_and, Bool.decide_and]
theorem ok_is_name_byte {f : Addr} {fd : FuncData} (F : Fun K "is_name_byte" "is_name_byte" s_is_name_byte f fd) (T : Txt K mg) : FnOk P w K mg base CX0 1 f fd ["byte"] sp_is_name_byte := by
  refine F.ok sc_is_name_byte (fun vs H Q E h => ?_) (fun cdv A outer s H vs Q E hr h => ?_)
  · obtain ⟨n, rfl, _⟩ := h
    rfl
  · obtain ⟨n, rfl, q⟩ := h
    refine ⟨_, pss_one (ps_ret (pe_or (pe_and (pe_cmpR op_le pe_int (pv 0) (nomark _)) (pe_one (pe_cmpR op_le (pv 0) pe_int (nomark _))))
      (pe_or (pe_and (pe_cmpR op_le pe_int (pv 0) (nomark _)) (pe_one (pe_cmpR op_le (pv 0) pe_int (nomark _))))
      (pe_or (pe_cmpR op_eq (pv 0) (pe_gv T.c_POINT) (nomark _)) (pe_one (pe_cmpR op_eq (pv 0) (pe_gv T.c_HYPHEN) (nomark _))))))), ?_⟩
    refine ev_or (ev_and (a := decide ((97 : Int) ≤ n)) (b := decide ((n : Int) ≤ 122)) ?_ ?_) (ev_or (ev_and (a := decide ((48 : Int) ≤ n)) (b := decide ((n : Int) ≤ 57)) ?_ ?_) (ev_or (a := decide (V.int (n : Int) = V.int 46)) (b := decide (V.int (n : Int) = V.int 45)) ?_ ?_)) _ ?_
    · exact fun Q' q' => ⟨_, rfl, _, _, rfl, rfl, q'⟩
    · exact fun Q' q' => ⟨_, rfl, _, _, rfl, rfl, q'⟩
    · exact fun Q' q' => ⟨_, rfl, _, _, rfl, rfl, q'⟩
    · exact fun Q' q' => ⟨_, rfl, _, _, rfl, rfl, q'⟩
    · exact fun Q' q' => ⟨_, rfl, rfl, q'⟩
    · exact fun Q' q' => ⟨_, rfl, rfl, q'⟩
    · rw [← sign_eq]
      exact q
/-! ### is_name -/
theorem sc_is_name : FnScope ["row", "byte"] ["row"] (defScope s_is_name) := ⟨rfl, rfl, rfl, by decide +kernel, rfl, by decide +kernel, by decide +kernel⟩
def sp_is_name (K : PySem.W.Frag) : Sp := fun vs H Q _ => ∃ (a : Addr) (l : List Nat), vs = [.ref a] ∧ SqL K H a (vb l) ∧ outV H Q (.bl (Ql67.isName l))
theorem ok_is_name {f : Addr} {fd : FuncData} (F : Fun K "is_name" "is_name" s_is_name f fd) (T : Txt K mg) (G1 : Df P w K mg base CX0 1 "is_name_byte" ["byte"] sp_is_name_byte) : FnOk P w K mg base CX0 2 f fd ["row"] (sp_is_name K) := by
  refine F.ok sc_is_name (fun vs H Q E h => ?_) (fun cdv A outer s H vs Q E hr h => ?_)
  · obtain ⟨a, l, rfl, _⟩ := h
    rfl
  · obtain ⟨a, l, rfl, hS, q⟩ := h
    refine ⟨_, pss_one (ps_ret (pe_and (pe_cmpR op_le pe_int (pe_callB call_len_seq (by rfl) T.b_len PySem.boot_len (pa_cons (pv 0) pa_nil)) (nomark _))
      (pe_and (pe_cmpR op_le (pe_callB call_len_seq (by rfl) T.b_len PySem.boot_len (pa_cons (pv 0) pa_nil)) (pe_gv T.c_MOST_NAME) (nomark _))
      (pe_one (pe_callB (cr_all rfl) (by rfl) T.b_all (by decide +kernel) (pa_cons (pe_lc (own := [("byte", 1)]) (g := gName 1) (tt := tYes) rfl sc_is_name.nd (pi_list (pv 0))
        (blkOk_by (own := [("byte", 1)]) (N := ["row", "byte"]) (sc := defScope s_is_name) (by decide +kernel)) (fun _ _ _ _ _ => pg_name (i := 1) sc_is_name.nd rfl (Or.inl rfl)) (fun _ _ _ _ _ => pts_nil)
        (fun _ _ _ _ _ => pe_callD G1 (hr.mono (by decide)) pass0 (pa_cons (pv 1) pa_nil))) pa_nil)))))), ?_⟩
    have hl : (vb l).length = l.length := vb_length l
    refine ⟨_, rfl, a, _, rfl, .inl hS, _, _, rfl, rfl, _, rfl, ifB (fun c1 => ?_) (fun c1 => ?_)⟩
    · have c1' := of_decide_eq_true c1
      rw [hl] at c1'
      refine ⟨_, rfl, a, _, rfl, .inl hS, _, _, rfl, rfl, _, rfl, ifB (fun c2 => ?_) (fun c2 => ?_)⟩
      · have c2' := of_decide_eq_true c2
        rw [hl] at c2'
        refine ⟨_, rfl, a, rfl, ⟨_, hS⟩, fun D hD => ?_⟩
        refine lc_list (K := K) (a := a) (xs := vb l) (fun i H' => Same H H' ∧ H' D = some (.lst (((l.take i).map Ql67.sign).map V.bl))) ⟨same_upd hD, upd_same⟩ (fun i H' _ h => h.1.seq hS) ?_ ?_
        · rintro i x H1 hx ⟨s1, e1⟩
          obtain ⟨n, hn, rfl⟩ := vb_at hx
          refine ⟨rfl, _, rfl, n, rfl, _, e1, ?_, same_set s1 hD, ?_⟩
          · rw [List.length_map, List.length_map]
            exact lt_line (Nat.le_trans (List.length_take_le _ _) (by have := (List.getElem?_eq_some_iff.mp hn).1; omega))
          · rw [upd_same, List.take_add_one, hn, List.map_append, List.map_append]
            rfl
        · rintro H1 ⟨s1, e1⟩
          rw [hl, List.take_length] at e1
          refine ⟨D, l.map Ql67.sign, rfl, lst_of e1, ?_⟩
          have e : Ql67.isName l = (l.map Ql67.sign).all id := by
            unfold Ql67.isName
            rw [decide_eq_true (show 1 ≤ l.length ∧ l.length ≤ 32 from ⟨by omega, by omega⟩), Bool.true_and, List.all_map]
            rfl
          have q' := q H1 s1
          rw [e] at q'
          exact q'
      · have c2' := of_decide_eq_false c2
        rw [hl] at c2'
        have e : Ql67.isName l = false := by
          unfold Ql67.isName
          rw [decide_eq_false (fun h => by omega), Bool.false_and]
        have q' := q H (Same.refl H)
        rw [e] at q'
        exact q'
    · have c1' := of_decide_eq_false c1
      rw [hl] at c1'
      have e : Ql67.isName l = false := by
        unfold Ql67.isName
        rw [decide_eq_false (fun h => by omega), Bool.false_and]
      have q' := q H (Same.refl H)
      rw [e] at q'
      exact q'
/-! ### name_told -/
theorem sc_name_told : FnScope ["name"] ["name"] (defScope s_name_told) := ⟨rfl, rfl, rfl, by decide +kernel, rfl, by decide +kernel, by decide +kernel⟩
def sp_name_told (K : PySem.W.Frag) : Sp := fun vs H Q _ => ∃ (a : Addr) (l : List Nat), vs = [.ref a] ∧ SqA K H a (vb l) ∧ l.length ≤ 1000 ∧ outL H Q (Ql67.named l)
theorem named_length (l : List Nat) : (Ql67.named l).length = l.length + 1 := rfl
theorem ok_name_told {f : Addr} {fd : FuncData} (F : Fun K "name_told" "name_told" s_name_told f fd) (T : Txt K mg) : FnOk P w K mg base CX0 1 f fd ["name"] (sp_name_told K) := by
  refine F.ok sc_name_told (fun vs H Q E h => ?_) (fun cdv A outer s H vs Q E hr h => ?_)
  · obtain ⟨a, l, rfl, _⟩ := h
    rfl
  · obtain ⟨a, l, rfl, hS, hlen, q⟩ := h
    refine ⟨_, pss_one (ps_ret (pe_op op_cat (pe_lst (pa_cons (pe_callB call_len_seq (by rfl) T.b_len PySem.boot_len (pa_cons (pv 0) pa_nil)) pa_nil))
      (pe_callTy call_list_of (by rfl) T.b_list (by decide +kernel) (pa_cons (pv 0) pa_nil)))), ?_⟩
    have hl : (vb l).length = l.length := vb_length l
    refine ⟨_, rfl, a, _, rfl, hS, (by show 1 ≤ sizeLine; decide), fun p hp => ?_⟩
    refine ⟨_, rfl, a, _, rfl, Same.any (same_upd hp) hS, fun b hb => ?_⟩
    refine ⟨p, b, _, _, rfl, rfl, same_upd hb _ _ upd_same, upd_same, ?_, fun c hc => ?_⟩
    · rw [hl]
      exact le_line (by show 1 + l.length ≤ 100000; omega)
    · refine q _ c (same_new (same_new (same_upd hp) hb) hc) ((same_new (same_upd hp) hb).free hc) ?_
      rw [upd_same, hl]
      rfl
/-! ### row_told -/
theorem sc_row_told : FnScope ["row"] ["row"] (defScope s_row_told) := ⟨rfl, rfl, rfl, by decide +kernel, rfl, by decide +kernel, by decide +kernel⟩
def sp_row_told (K : PySem.W.Frag) : Sp := fun vs H Q _ => ∃ (a : Addr) (l : List Nat), vs = [.ref a] ∧ SqL K H a (vb l) ∧ l.length ≤ 10000 ∧ outL H Q (Ql67.counted l)
theorem counted_length (l : List Nat) : (Ql67.counted l).length = 2 + l.length := by
  unfold Ql67.counted
  rw [List.length_append, be_length]
theorem ok_row_told {f : Addr} {fd : FuncData} (F : Fun K "row_told" "row_told" s_row_told f fd) (T : Txt K mg) (G1 : Df P w K mg base CX0 1 "high_first" ["number", "many"] sp_high_first) : FnOk P w K mg base CX0 2 f fd ["row"] (sp_row_told K) := by
  refine F.ok sc_row_told (fun vs H Q E h => ?_) (fun cdv A outer s H vs Q E hr h => ?_)
  · obtain ⟨a, l, rfl, _⟩ := h
    rfl
  · obtain ⟨a, l, rfl, hS, hlen, q⟩ := h
    refine ⟨_, pss_one (ps_ret (pe_op op_cat (pe_callD G1 (hr.mono (by decide)) pass0 (pa_cons (pe_callB call_len_seq (by rfl) T.b_len PySem.boot_len (pa_cons (pv 0) pa_nil)) (pa_cons (pe_gv T.c_LENGTH_BYTES) pa_nil)))
      (pe_callTy call_list_of (by rfl) T.b_list (by decide +kernel) (pa_cons (pv 0) pa_nil)))), ?_⟩
    have hl : (vb l).length = l.length := vb_length l
    refine ⟨_, rfl, a, _, rfl, .inl hS, (vb l).length, 2, rfl, by decide, fun H1 p1 s1 n1 e1 => ?_⟩
    rw [hl] at e1
    refine ⟨_, rfl, a, _, rfl, .inl (s1.seq hS), fun p2 n2 => ?_⟩
    refine ⟨p1, p2, _, _, rfl, rfl, same_upd n2 _ _ e1, upd_same, ?_, fun p3 n3 => ?_⟩
    · rw [vb_length, vb_length, be_length]
      exact le_line (by omega)
    · refine q _ p3 (same_new (same_new s1 n2) n3) ((same_new s1 n2).free n3) ?_
      rw [upd_same, ← vb_append]
      rfl
/-! ### time_told -/
theorem sc_time_told : FnScope ["number"] ["number"] (defScope s_time_told) := ⟨rfl, rfl, rfl, by decide +kernel, rfl, by decide +kernel, by decide +kernel⟩
def sp_time_told : Sp := fun vs H Q _ => ∃ n : Nat, vs = [.int (n : Int)] ∧ outL H Q (Ql67.be 8 n)
theorem ok_time_told {f : Addr} {fd : FuncData} (F : Fun K "time_told" "time_told" s_time_told f fd) (T : Txt K mg) (G1 : Df P w K mg base CX0 1 "high_first" ["number", "many"] sp_high_first) : FnOk P w K mg base CX0 2 f fd ["number"] sp_time_told := by
  refine F.ok sc_time_told (fun vs H Q E h => ?_) (fun cdv A outer s H vs Q E hr h => ?_)
  · obtain ⟨n, rfl, _⟩ := h
    rfl
  · obtain ⟨n, rfl, q⟩ := h
    refine ⟨_, pss_one (ps_ret (pe_callD G1 (hr.mono (by decide)) pass0 (pa_cons (pv 0) (pa_cons (pe_gv T.c_TIME_BYTES) pa_nil)))), ?_⟩
    exact ⟨_, rfl, n, 8, rfl, by decide, q⟩
/-! ### proof_of -/
theorem sc_proof_of : FnScope ["key", "client", "time"] ["key", "client", "time"] (defScope s_proof_of) := ⟨rfl, rfl, rfl, by decide +kernel, rfl, by decide +kernel, by decide +kernel⟩
def sp_proof_of (K : PySem.W.Frag) : Sp := fun vs H Q _ => ∃ (a b : Addr) (k c : List Nat) (t : Nat), vs = [.ref a, .ref b, .int (t : Int)] ∧ SqL K H a (vb k) ∧ k.length = 16 ∧ SqL K H b (vb c) ∧ Ql67.Bytes c ∧ c.length ≤ 200 ∧ outL H Q (Ql67.seal_ k (Ql67.proofText c t))
theorem named_bytes {c : List Nat} (h : Ql67.Bytes c) (hl : c.length < 256) : Ql67.Bytes (Ql67.named c) := by
  intro b hb
  rcases List.mem_cons.mp (show b ∈ c.length :: c from hb) with e | hb
  · rw [e]
    exact hl
  · exact h b hb
theorem app_bytes {a b : List Nat} (h1 : Ql67.Bytes a) (h2 : Ql67.Bytes b) : Ql67.Bytes (a ++ b) := by
  intro x hx
  rcases List.mem_append.mp hx with hx | hx
  · exact h1 x hx
  · exact h2 x hx
theorem be_bytes (k n : Nat) : Ql67.Bytes (Ql67.be k n) := be_lt k n
theorem ok_proof_of {f : Addr} {fd : FuncData} (F : Fun K "proof_of" "proof_of" s_proof_of f fd) (T : Txt K mg) (G1 : Df P w K mg base CX0 4 "sealed" ["key", "text"] (sp_sealed K)) (G2 : Df P w K mg base CX0 1 "name_told" ["name"] (sp_name_told K))
    (G3 : Df P w K mg base CX0 2 "time_told" ["number"] sp_time_told) : FnOk P w K mg base CX0 5 f fd ["key", "client", "time"] (sp_proof_of K) := by
  refine F.ok sc_proof_of (fun vs H Q E h => ?_) (fun cdv A outer s H vs Q E hr h => ?_)
  · obtain ⟨a, b, k, c, t, rfl, _⟩ := h
    rfl
  · obtain ⟨a, b, k, c, t, rfl, hK, hk, hC, hB, hlen, q⟩ := h
    refine ⟨_, pss_one (ps_ret (pe_callD G1 (hr.mono (by decide)) pass0 (pa_cons (pv 0) (pa_cons (pe_op op_cat (pe_callD G2 (hr.mono (by decide)) pass0 (pa_cons (pv 1) pa_nil)) (pe_callD G3 (hr.mono (by decide)) pass0 (pa_cons (pv 2) pa_nil))) pa_nil)))), ?_⟩
    refine ⟨_, rfl, _, rfl, b, c, rfl, .inl hC, by omega, fun H1 p1 s1 n1 e1 => ?_⟩
    refine ⟨_, rfl, t, rfl, fun H2 p2 s2 n2 e2 => ?_⟩
    refine ⟨p1, p2, _, _, rfl, rfl, s2 _ _ e1, e2, ?_, fun p3 n3 => ?_⟩
    · rw [vb_length, vb_length, named_length, be_length]
      exact le_line (by omega)
    generalize hE : upd _ p3 _ = H3
    obtain ⟨s3, e3⟩ := gen_new hE n3
    clear hE
    rw [← vb_append] at e3
    have sA := s1.trans (s2.trans s3)
    have hl : (Ql67.named c ++ Ql67.be 8 t).length ≤ 5000 := by
      rw [List.length_append, named_length, be_length]
      omega
    exact ⟨a, p3, k, Ql67.named c ++ Ql67.be 8 t, rfl, sA.seq hK, hk, lst_of e3, app_bytes (named_bytes hB (by omega)) (be_bytes 8 t), hl, fun H4 p4 s4 n4 e4 => q H4 p4 (sA.trans s4) (sA.free n4) e4⟩
/-! ### with_length -/
theorem sc_with_length : FnScope ["row"] ["row"] (defScope s_with_length) := ⟨rfl, rfl, rfl, by decide +kernel, rfl, by decide +kernel, by decide +kernel⟩
/-- an answer as Python's list -/
def ansV (a : Ql67.Ans) : List V := V.int a.value :: vb a.bytes
def outA (Q : VK) (a : Ql67.Ans) : Prop := ∀ (H' : Hp) (p : Addr), H' p = some (.lst (ansV a)) → Q (.ref p) H'
def sp_with_length (K : PySem.W.Frag) : Sp := fun vs H Q _ => ∃ (a : Addr) (l : List Nat), vs = [.ref a] ∧ SqL K H a (vb l) ∧ l.length ≤ 10000 ∧ outA Q (Ql67.told l)
theorem ok_with_length {f : Addr} {fd : FuncData} (F : Fun K "with_length" "with_length" s_with_length f fd) (T : Txt K mg) : FnOk P w K mg base CX0 1 f fd ["row"] (sp_with_length K) := by
  refine F.ok sc_with_length (fun vs H Q E h => ?_) (fun cdv A outer s H vs Q E hr h => ?_)
  · obtain ⟨a, l, rfl, _⟩ := h
    rfl
  · obtain ⟨a, l, rfl, hS, hlen, q⟩ := h
    refine ⟨_, pss_one (ps_ret (pe_op op_cat (pe_lst (pa_cons (pe_callB call_len_seq (by rfl) T.b_len PySem.boot_len (pa_cons (pv 0) pa_nil)) pa_nil))
      (pe_callTy call_list_of (by rfl) T.b_list (by decide +kernel) (pa_cons (pv 0) pa_nil)))), ?_⟩
    have hl : (vb l).length = l.length := vb_length l
    refine ⟨_, rfl, a, _, rfl, .inl hS, (by show 1 ≤ sizeLine; decide), fun p hp => ?_⟩
    refine ⟨_, rfl, a, _, rfl, .inl ((same_upd hp).seq hS), fun b hb => ?_⟩
    refine ⟨p, b, _, _, rfl, rfl, same_upd hb _ _ upd_same, upd_same, ?_, fun c hc => ?_⟩
    · rw [hl]
      exact le_line (by show 1 + l.length ≤ 100000; omega)
    · refine q _ c ?_
      rw [upd_same, hl]
      rfl
/-! ### tk_want -/
theorem sc_tk_want : FnScope ["now", "nonce", "life", "key", "ticket", "client", "service", "row"] ["now", "nonce", "life", "key", "ticket", "client", "service"] (defScope s_tk_want) := ⟨rfl, rfl, rfl, by decide +kernel, rfl, by decide +kernel, by decide +kernel⟩
def sp_tk_want (K : PySem.W.Frag) : Sp := fun vs H Q _ => ∃ (t n f : Nat) (a b d e : Addr) (k x c s : List Nat), vs = [.int (t : Int), .int (n : Int), .int (f : Int), .ref a, .ref b, .ref d, .ref e] ∧ SqL K H a (vb k) ∧ k.length = 16 ∧ SqL K H b (vb x) ∧ x.length ≤ 5000 ∧
  SqL K H d (vb c) ∧ Ql67.Bytes c ∧ c.length ≤ 64 ∧ SqL K H e (vb s) ∧ s.length ≤ 64 ∧ outA Q (Ql67.spec Ql67.empty (.want k x x.length c t s n f)).2
theorem want_no {k x c s : List Nat} {t n f : Nat} (h : Ql67.TICKET < x.length ∨ Ql67.isName c = false ∨ Ql67.isName s = false) : (Ql67.spec Ql67.empty (.want k x x.length c t s n f)).2 = Ql67.only (-2) := by
  show (if Ql67.TICKET < x.length ∨ Ql67.isName c = false ∨ Ql67.isName s = false then (Ql67.empty, Ql67.only (-2)) else _).2 = _
  rw [if_pos h]
def wantText (k x c s : List Nat) (t n f : Nat) : List Nat := [3] ++ Ql67.counted x ++ Ql67.counted (Ql67.seal_ k (Ql67.proofText c t)) ++ Ql67.named s ++ Ql67.be 8 n ++ Ql67.be 4 f
theorem want_yes {k x c s : List Nat} {t n f : Nat} (h : ¬ (Ql67.TICKET < x.length ∨ Ql67.isName c = false ∨ Ql67.isName s = false)) : (Ql67.spec Ql67.empty (.want k x x.length c t s n f)).2 = Ql67.told (wantText k x c s t n f) := by
  show (if Ql67.TICKET < x.length ∨ Ql67.isName c = false ∨ Ql67.isName s = false then (Ql67.empty, Ql67.only (-2)) else _).2 = _
  rw [if_neg h]
  show Ql67.told (3 :: (Ql67.counted x ++ (Ql67.counted (Ql67.seal_ k (Ql67.proofText c t)) ++ (Ql67.named s ++ (Ql67.be 8 n ++ Ql67.be 4 f))))) = _
  unfold wantText
  simp only [List.append_assoc, List.singleton_append, List.cons_append, List.nil_append]
theorem proofText_length (c : List Nat) (t : Nat) : (Ql67.proofText c t).length = c.length + 9 := by
  show (Ql67.named c ++ Ql67.be 8 t).length = _
  rw [List.length_append, named_length, be_length]
theorem ok_tk_want {f : Addr} {fd : FuncData} (F : Fun K "tk_want" "tk_want" s_tk_want f fd) (T : Txt K mg) (G1 : Df P w K mg base CX0 2 "is_name" ["row"] (sp_is_name K)) (G2 : Df P w K mg base CX0 2 "row_told" ["row"] (sp_row_told K))
    (G3 : Df P w K mg base CX0 5 "proof_of" ["key", "client", "time"] (sp_proof_of K)) (G4 : Df P w K mg base CX0 1 "name_told" ["name"] (sp_name_told K)) (G5 : Df P w K mg base CX0 1 "with_length" ["row"] (sp_with_length K))
    (G6 : Df P w K mg base CX0 2 "time_told" ["number"] sp_time_told) (G7 : Df P w K mg base CX0 1 "high_first" ["number", "many"] sp_high_first) :
    FnOk P w K mg base CX0 6 f fd ["now", "nonce", "life", "key", "ticket", "client", "service"] (sp_tk_want K) := by
  refine F.ok sc_tk_want (fun vs H Q E h => ?_) (fun cdv A outer s H vs Q E hr h => ?_)
  · obtain ⟨t, n, f, a, b, d, e, k, x, c, s, rfl, _⟩ := h
    rfl
  · obtain ⟨t, n, f, a, b, d, e, k, x, c, s, rfl, hK, hk, hX, lx, hC, hB, lc, hS, ls, q⟩ := h
    refine ⟨_, pss_cons (ps_if (PW.pt (pw_or (pt_not (pt_val (pe_callD G1 (hr.mono (by decide)) pass0 (pa_cons (pv 5) pa_nil)))) (pw_or (pt_not (pt_val (pe_callD G1 (hr.mono (by decide)) pass0 (pa_cons (pv 6) pa_nil))))
          (pw_or1 (pt_cmpR op_gt (pe_callB call_len_seq (by rfl) T.b_len PySem.boot_len (pa_cons (pv 4) pa_nil)) (pe_gv T.c_MOST_TICKET) (nomark _))))))
        (pss_one (ps_ret (pe_lst (pa_cons (pe_gv T.c_NOT_AS_TOLD) pa_nil)))) pss_nil)
      (pss_cons (ps_set (i := 7) sc_tk_want.nd rfl (Or.inl rfl) (pe_op op_cat (pe_op op_cat (pe_op op_cat (pe_lst (pa_cons (pe_gv T.c_MORE_ASKED) pa_nil)) (pe_callD G2 (hr.mono (by decide)) pass0 (pa_cons (pv 4) pa_nil)))
        (pe_callD G2 (hr.mono (by decide)) pass0 (pa_cons (pe_callD G3 (hr.mono (by decide)) pass0 (pa_cons (pv 3) (pa_cons (pv 5) (pa_cons (pv 0) pa_nil)))) pa_nil))) (pe_callD G4 (hr.mono (by decide)) pass0 (pa_cons (pv 6) pa_nil))))
      (pss_one (ps_ret (pe_callD G5 (hr.mono (by decide)) pass0 (pa_cons (pe_op op_cat (pe_op op_cat (pv 7) (pe_callD G6 (hr.mono (by decide)) pass0 (pa_cons (pv 1) pa_nil)))
        (pe_callD G7 (hr.mono (by decide)) pass0 (pa_cons (pv 2) (pa_cons (pe_gv T.c_LIFE_BYTES) pa_nil)))) pa_nil))))), ?_⟩
    have hl : (vb x).length = x.length := vb_length x
    have hseal : (Ql67.seal_ k (Ql67.proofText c t)).length = 8 + (c.length + 9) := by rw [seal_length, proofText_length]
    refine ⟨_, rfl, d, c, rfl, hC, fun H1 s1 => ⟨_, rfl, ifB (fun c1 => iteT ?_) (fun c1 => ?_)⟩⟩
    · have c1' : Ql67.isName c = false := by simpa using c1
      refine ⟨(by show 1 ≤ sizeLine; decide), fun p hp => q _ p ?_⟩
      rw [upd_same, want_no (.inr (.inl c1'))]
      rfl
    have c1' : Ql67.isName c = true := by simpa using c1
    refine ⟨_, rfl, e, s, rfl, s1.seq hS, fun H2 s2 => ⟨_, rfl, ifB (fun c2 => iteT ?_) (fun c2 => ?_)⟩⟩
    · have c2' : Ql67.isName s = false := by simpa using c2
      refine ⟨(by show 1 ≤ sizeLine; decide), fun p hp => q _ p ?_⟩
      rw [upd_same, want_no (.inr (.inr c2'))]
      rfl
    have c2' : Ql67.isName s = true := by simpa using c2
    have s12 := s1.trans s2
    refine ⟨_, rfl, b, _, rfl, .inl (s12.seq hX), _, _, rfl, rfl, _, rfl, ifB (fun c3 => ?_) (fun c3 => ?_)⟩
    · have c3' := of_decide_eq_true c3
      rw [hl] at c3'
      refine ⟨(by show 1 ≤ sizeLine; decide), fun p hp => q _ p ?_⟩
      rw [upd_same, want_no (.inl (by show 200 < _; omega))]
      rfl
    have c3' := of_decide_eq_false c3
    rw [hl] at c3'
    have hno : ¬ (Ql67.TICKET < x.length ∨ Ql67.isName c = false ∨ Ql67.isName s = false) := by
      intro h
      rcases h with h | h | h
      · have h' : 200 < x.length := h
        omega
      · rw [c1'] at h
        cases h
      · rw [c2'] at h
        cases h
    rw [want_yes hno] at q
    -- row
    refine ⟨(by show 1 ≤ sizeLine; decide), fun p3 n3 => ?_⟩
    generalize hE : upd _ p3 _ = H3
    obtain ⟨s3, e3⟩ := gen_new hE n3
    clear hE
    have sB := s12.trans s3
    refine ⟨_, rfl, b, x, rfl, sB.seq hX, by omega, fun H4 p4 s4 n4 e4 => ?_⟩
    refine ⟨p3, p4, _, _, rfl, rfl, s4 _ _ e3, e4, ?_, fun p5 n5 => ?_⟩
    · rw [vb_length, counted_length]
      exact le_line (by show 1 + (2 + x.length) ≤ 100000; omega)
    generalize hE : upd _ p5 _ = H5
    obtain ⟨s5, e5⟩ := gen_new hE n5
    clear hE
    have sC := sB.trans (s4.trans s5)
    refine ⟨_, rfl, _, rfl, _, rfl, a, d, k, c, t, rfl, sC.seq hK, hk, sC.seq hC, hB, by omega, fun H6 p6 s6 n6 e6 => ?_⟩
    refine ⟨p6, _, rfl, lst_of e6, by omega, fun H7 p7 s7 n7 e7 => ?_⟩
    refine ⟨p5, p7, _, _, rfl, rfl, s7 _ _ (s6 _ _ e5), e7, ?_, fun p8 n8 => ?_⟩
    · rw [List.length_append, vb_length, vb_length, counted_length, counted_length, hseal]
      exact le_line (by show 1 + (2 + x.length) + (2 + (8 + (c.length + 9))) ≤ 100000; omega)
    generalize hE : upd _ p8 _ = H8
    obtain ⟨s8, e8⟩ := gen_new hE n8
    clear hE
    have sD := sC.trans (s6.trans (s7.trans s8))
    refine ⟨_, rfl, e, s, rfl, .inl (sD.seq hS), by omega, fun H9 p9 s9 n9 e9 => ?_⟩
    refine ⟨p8, p9, _, _, rfl, rfl, s9 _ _ e8, e9, ?_, fun p10 n10 => ?_⟩
    · rw [List.length_append, List.length_append, vb_length, vb_length, vb_length, counted_length, counted_length, hseal, named_length]
      exact le_line (by show 1 + (2 + x.length) + (2 + (8 + (c.length + 9))) + (s.length + 1) ≤ 100000; omega)
    generalize hE : upd _ p10 _ = H10
    obtain ⟨s10, e10⟩ := gen_new hE n10
    clear hE
    -- the rest
    refine ⟨_, rfl, _, rfl, n, rfl, fun H11 p11 s11 n11 e11 => ?_⟩
    refine ⟨p10, p11, _, _, rfl, rfl, s11 _ _ e10, e11, ?_, fun p12 n12 => ?_⟩
    · rw [List.length_append, List.length_append, List.length_append, vb_length, vb_length, vb_length, vb_length, counted_length, counted_length, hseal, named_length, be_length]
      exact le_line (by show 1 + (2 + x.length) + (2 + (8 + (c.length + 9))) + (s.length + 1) + 8 ≤ 100000; omega)
    generalize hE : upd _ p12 _ = H12
    obtain ⟨s12, e12⟩ := gen_new hE n12
    clear hE
    refine ⟨_, rfl, f, 4, rfl, by decide, fun H13 p13 s13 n13 e13 => ?_⟩
    refine ⟨p12, p13, _, _, rfl, rfl, s13 _ _ e12, e13, ?_, fun p14 n14 => ?_⟩
    · rw [List.length_append, List.length_append, List.length_append, List.length_append, vb_length, vb_length, vb_length, vb_length, vb_length, counted_length, counted_length, hseal, named_length, be_length, be_length]
      exact le_line (by show 1 + (2 + x.length) + (2 + (8 + (c.length + 9))) + (s.length + 1) + 8 + 4 ≤ 100000; omega)
    refine ⟨p14, wantText k x c s t n f, rfl, lst_of (upd_same.trans ?_), ?_, q⟩
    · unfold wantText
      simp only [vb_append]
      rfl
    · unfold wantText
      simp only [List.length_append, counted_length, hseal, named_length, be_length]
      show 1 + _ + _ + _ + _ + _ ≤ 10000
      omega
end
end Th
namespace Th
open PySem PySem.Spec PyProof.Rows L2
open PySem.W (Codec WData)
/-! ### the request -/
theorem and2 {a b : Bool} (h : (a && b) = true) : a = true ∧ b = true := by
  rw [Bool.and_eq_true] at h
  exact h
theorem w_int {lo hi z : Int} (h : Codec.inInt lo hi z = true) : lo ≤ z ∧ z ≤ hi := by
  have h' : (decide (lo ≤ z) && decide (z ≤ hi)) = true := h
  rw [Bool.and_eq_true] at h'
  exact ⟨of_decide_eq_true h'.1, of_decide_eq_true h'.2⟩
theorem w_list {least most : Nat} {lo hi : Int} {l : List Int} (h : (Codec.inLen least most l && l.all (Codec.inInt lo hi)) = true) : (least ≤ l.length ∧ l.length ≤ most) ∧ ∀ x ∈ l, lo ≤ x ∧ x ≤ hi := by
  rw [Bool.and_eq_true] at h
  exact ⟨Codec.inNat_iff.mp h.1, fun x hx => w_int (List.all_eq_true.mp h.2 x hx)⟩
theorem w_bytes {least most : Nat} {l : List Int} (h : (Codec.inLen least most l && l.all (Codec.inInt 0 255)) = true) : l.map V.int = vb (Ql67Neutral.nats l) ∧ (Ql67Neutral.nats l).length = l.length ∧ (least ≤ l.length ∧ l.length ≤ most) ∧ ∀ b, b ∈ Ql67Neutral.nats l → b < 256 := by
  obtain ⟨h1, h2⟩ := w_list h
  refine ⟨vb_of l fun x hx => (h2 x hx).1, List.length_map _, h1, fun b hb => ?_⟩
  obtain ⟨x, hx, rfl⟩ := List.mem_map.mp hb
  have := h2 x hx
  omega
theorem nat_int {z hi : Int} (h : Codec.inInt 0 hi z = true) : V.int z = V.int ((z.toNat : Nat) : Int) := by
  rw [Int.toNat_of_nonneg (w_int h).1]
theorem ansV_dw {K : PySem.W.Frag} {H : Hp} (a : Ql67.Ans) : DwAll K H (ansV a) ((a.value :: Ql67Neutral.ints a.bytes).map WData.int) := by
  have e : ansV a = (a.value :: Ql67Neutral.ints a.bytes).map V.int := by
    unfold ansV
    rw [vb_ints, List.map_cons]
    rfl
  rw [e]
  exact dw_ints _
end Th
namespace Th
open PySem PySem.Spec PyProof.Rows L2
theorem all_mk {P : Program} {w : World} {K : PySem.W.Frag} {h : Heap} {mg : Str → Option Value} {fa f1 f2 f3 f4 f5 f6 f7 f8 f9 f10 f11 f12 f13 f14 f15 f16 : Addr} (X : K.In h) (G : h.Ns mainGlobals mg) (hfa : mg "tk_want" = some (.ref fa))
    {od1 an1 od2 an2 od3 an3 od4 an4 od5 an5 od6 an6 od7 an7 od8 an8 od9 an9 od10 an10 od11 an11 od12 an12 od13 an13 od14 an14 od15 an15 od16 an16 : Option Addr} {sl1 sl2 sl3 sl4 sl5 sl6 sl7 sl8 sl9 sl10 sl11 sl12 sl13 sl14 sl15 sl16 : Array (Option Value)} {oc1 kV1 dc1 pm1 cd1 ct1 oc2 kV2 dc2 pm2 cd2 ct2 oc3 kV3 dc3 pm3 cd3 ct3 oc4 kV4 dc4 pm4 cd4 ct4 oc5 kV5 dc5 pm5 cd5 ct5 oc6 kV6 dc6 pm6 cd6 ct6 oc7 kV7 dc7 pm7 cd7 ct7 oc8 kV8 dc8 pm8 cd8 ct8 oc9 kV9 dc9 pm9 cd9 ct9 oc10 kV10 dc10 pm10 cd10 ct10 oc11 kV11 dc11 pm11 cd11 ct11 oc12 kV12 dc12 pm12 cd12 ct12 oc13 kV13 dc13 pm13 cd13 ct13 oc14 kV14 dc14 pm14 cd14 ct14 oc15 kV15 dc15 pm15 cd15 ct15 oc16 kV16 dc16 pm16 cd16 ct16 : Value}
    {t_WORD t_BLOCK t_WORD_BITS t_BLOCK_BYTES t_KEY_BYTES t_ROUNDS t_STEP t_FOR_SUM t_FOR_STREAM t_MORE_ASKED t_MOST_NAME t_LENGTH_BYTES t_TIME_BYTES t_LIFE_BYTES t_POINT t_HYPHEN t_MOST_TICKET t_NOT_AS_TOLD : Tok}
    (a1 : PySem.W.nsIn K mainGlobals "high_first" = some (some (.ref f1)))
    (l1 : K.lookup f1 = some ⟨oc1, od1, .func (PySem.W.fnOf "high_first" "high_first" (defArgs s_high_first) (defBody s_high_first) (defScope s_high_first) .none kV1 dc1 pm1 an1 cd1 ct1), sl1⟩) (c1 : PySem.W.codeIn K cd1 "high_first" = true) (k1 : PySem.W.keepIn K (.ref f1) = true)
    (a2 : PySem.W.nsIn K mainGlobals "number_of" = some (some (.ref f2)))
    (l2 : K.lookup f2 = some ⟨oc2, od2, .func (PySem.W.fnOf "number_of" "number_of" (defArgs s_number_of) (defBody s_number_of) (defScope s_number_of) .none kV2 dc2 pm2 an2 cd2 ct2), sl2⟩) (c2 : PySem.W.codeIn K cd2 "number_of" = true) (k2 : PySem.W.keepIn K (.ref f2) = true)
    (a3 : PySem.W.nsIn K mainGlobals "spread" = some (some (.ref f3)))
    (l3 : K.lookup f3 = some ⟨oc3, od3, .func (PySem.W.fnOf "spread" "spread" (defArgs s_spread) (defBody s_spread) (defScope s_spread) .none kV3 dc3 pm3 an3 cd3 ct3), sl3⟩) (c3 : PySem.W.codeIn K cd3 "spread" = true) (k3 : PySem.W.keepIn K (.ref f3) = true)
    (a4 : PySem.W.nsIn K mainGlobals "enciphered" = some (some (.ref f4)))
    (l4 : K.lookup f4 = some ⟨oc4, od4, .func (PySem.W.fnOf "enciphered" "enciphered" (defArgs s_enciphered) (defBody s_enciphered) (defScope s_enciphered) .none kV4 dc4 pm4 an4 cd4 ct4), sl4⟩) (c4 : PySem.W.codeIn K cd4 "enciphered" = true) (k4 : PySem.W.keepIn K (.ref f4) = true)
    (a5 : PySem.W.nsIn K mainGlobals "words_of" = some (some (.ref f5)))
    (l5 : K.lookup f5 = some ⟨oc5, od5, .func (PySem.W.fnOf "words_of" "words_of" (defArgs s_words_of) (defBody s_words_of) (defScope s_words_of) .none kV5 dc5 pm5 an5 cd5 ct5), sl5⟩) (c5 : PySem.W.codeIn K cd5 "words_of" = true) (k5 : PySem.W.keepIn K (.ref f5) = true)
    (a6 : PySem.W.nsIn K mainGlobals "sum_of" = some (some (.ref f6)))
    (l6 : K.lookup f6 = some ⟨oc6, od6, .func (PySem.W.fnOf "sum_of" "sum_of" (defArgs s_sum_of) (defBody s_sum_of) (defScope s_sum_of) .none kV6 dc6 pm6 an6 cd6 ct6), sl6⟩) (c6 : PySem.W.codeIn K cd6 "sum_of" = true) (k6 : PySem.W.keepIn K (.ref f6) = true)
    (a7 : PySem.W.nsIn K mainGlobals "streamed" = some (some (.ref f7)))
    (l7 : K.lookup f7 = some ⟨oc7, od7, .func (PySem.W.fnOf "streamed" "streamed" (defArgs s_streamed) (defBody s_streamed) (defScope s_streamed) .none kV7 dc7 pm7 an7 cd7 ct7), sl7⟩) (c7 : PySem.W.codeIn K cd7 "streamed" = true) (k7 : PySem.W.keepIn K (.ref f7) = true)
    (a8 : PySem.W.nsIn K mainGlobals "sealed" = some (some (.ref f8)))
    (l8 : K.lookup f8 = some ⟨oc8, od8, .func (PySem.W.fnOf "sealed" "sealed" (defArgs s_sealed) (defBody s_sealed) (defScope s_sealed) .none kV8 dc8 pm8 an8 cd8 ct8), sl8⟩) (c8 : PySem.W.codeIn K cd8 "sealed" = true) (k8 : PySem.W.keepIn K (.ref f8) = true)
    (a9 : PySem.W.nsIn K mainGlobals "is_name_byte" = some (some (.ref f9)))
    (l9 : K.lookup f9 = some ⟨oc9, od9, .func (PySem.W.fnOf "is_name_byte" "is_name_byte" (defArgs s_is_name_byte) (defBody s_is_name_byte) (defScope s_is_name_byte) .none kV9 dc9 pm9 an9 cd9 ct9), sl9⟩) (c9 : PySem.W.codeIn K cd9 "is_name_byte" = true) (k9 : PySem.W.keepIn K (.ref f9) = true)
    (a10 : PySem.W.nsIn K mainGlobals "is_name" = some (some (.ref f10)))
    (l10 : K.lookup f10 = some ⟨oc10, od10, .func (PySem.W.fnOf "is_name" "is_name" (defArgs s_is_name) (defBody s_is_name) (defScope s_is_name) .none kV10 dc10 pm10 an10 cd10 ct10), sl10⟩) (c10 : PySem.W.codeIn K cd10 "is_name" = true) (k10 : PySem.W.keepIn K (.ref f10) = true)
    (a11 : PySem.W.nsIn K mainGlobals "name_told" = some (some (.ref f11)))
    (l11 : K.lookup f11 = some ⟨oc11, od11, .func (PySem.W.fnOf "name_told" "name_told" (defArgs s_name_told) (defBody s_name_told) (defScope s_name_told) .none kV11 dc11 pm11 an11 cd11 ct11), sl11⟩) (c11 : PySem.W.codeIn K cd11 "name_told" = true) (k11 : PySem.W.keepIn K (.ref f11) = true)
    (a12 : PySem.W.nsIn K mainGlobals "row_told" = some (some (.ref f12)))
    (l12 : K.lookup f12 = some ⟨oc12, od12, .func (PySem.W.fnOf "row_told" "row_told" (defArgs s_row_told) (defBody s_row_told) (defScope s_row_told) .none kV12 dc12 pm12 an12 cd12 ct12), sl12⟩) (c12 : PySem.W.codeIn K cd12 "row_told" = true) (k12 : PySem.W.keepIn K (.ref f12) = true)
    (a13 : PySem.W.nsIn K mainGlobals "time_told" = some (some (.ref f13)))
    (l13 : K.lookup f13 = some ⟨oc13, od13, .func (PySem.W.fnOf "time_told" "time_told" (defArgs s_time_told) (defBody s_time_told) (defScope s_time_told) .none kV13 dc13 pm13 an13 cd13 ct13), sl13⟩) (c13 : PySem.W.codeIn K cd13 "time_told" = true) (k13 : PySem.W.keepIn K (.ref f13) = true)
    (a14 : PySem.W.nsIn K mainGlobals "proof_of" = some (some (.ref f14)))
    (l14 : K.lookup f14 = some ⟨oc14, od14, .func (PySem.W.fnOf "proof_of" "proof_of" (defArgs s_proof_of) (defBody s_proof_of) (defScope s_proof_of) .none kV14 dc14 pm14 an14 cd14 ct14), sl14⟩) (c14 : PySem.W.codeIn K cd14 "proof_of" = true) (k14 : PySem.W.keepIn K (.ref f14) = true)
    (a15 : PySem.W.nsIn K mainGlobals "with_length" = some (some (.ref f15)))
    (l15 : K.lookup f15 = some ⟨oc15, od15, .func (PySem.W.fnOf "with_length" "with_length" (defArgs s_with_length) (defBody s_with_length) (defScope s_with_length) .none kV15 dc15 pm15 an15 cd15 ct15), sl15⟩) (c15 : PySem.W.codeIn K cd15 "with_length" = true) (k15 : PySem.W.keepIn K (.ref f15) = true)
    (a16 : PySem.W.nsIn K mainGlobals "tk_want" = some (some (.ref f16)))
    (l16 : K.lookup f16 = some ⟨oc16, od16, .func (PySem.W.fnOf "tk_want" "tk_want" (defArgs s_tk_want) (defBody s_tk_want) (defScope s_tk_want) .none kV16 dc16 pm16 an16 cd16 ct16), sl16⟩) (c16 : PySem.W.codeIn K cd16 "tk_want" = true) (k16 : PySem.W.keepIn K (.ref f16) = true)
    (z_all : PySem.W.nsIn K mainGlobals "all" = some none)
    (z_len : PySem.W.nsIn K mainGlobals "len" = some none)
    (z_list : PySem.W.nsIn K mainGlobals "list" = some none)
    (z_range : PySem.W.nsIn K mainGlobals "range" = some none)
    (z_zip : PySem.W.nsIn K mainGlobals "zip" = some none)
    (g_WORD : PySem.W.nsIn K mainGlobals "WORD" = some (some (.int 4294967296 t_WORD)))
    (g_BLOCK : PySem.W.nsIn K mainGlobals "BLOCK" = some (some (.int 18446744073709551616 t_BLOCK)))
    (g_WORD_BITS : PySem.W.nsIn K mainGlobals "WORD_BITS" = some (some (.int 32 t_WORD_BITS)))
    (g_BLOCK_BYTES : PySem.W.nsIn K mainGlobals "BLOCK_BYTES" = some (some (.int 8 t_BLOCK_BYTES)))
    (g_KEY_BYTES : PySem.W.nsIn K mainGlobals "KEY_BYTES" = some (some (.int 16 t_KEY_BYTES)))
    (g_ROUNDS : PySem.W.nsIn K mainGlobals "ROUNDS" = some (some (.int 32 t_ROUNDS)))
    (g_STEP : PySem.W.nsIn K mainGlobals "STEP" = some (some (.int 2654435769 t_STEP)))
    (g_FOR_SUM : PySem.W.nsIn K mainGlobals "FOR_SUM" = some (some (.int 54 t_FOR_SUM)))
    (g_FOR_STREAM : PySem.W.nsIn K mainGlobals "FOR_STREAM" = some (some (.int 92 t_FOR_STREAM)))
    (g_MORE_ASKED : PySem.W.nsIn K mainGlobals "MORE_ASKED" = some (some (.int 3 t_MORE_ASKED)))
    (g_MOST_NAME : PySem.W.nsIn K mainGlobals "MOST_NAME" = some (some (.int 32 t_MOST_NAME)))
    (g_LENGTH_BYTES : PySem.W.nsIn K mainGlobals "LENGTH_BYTES" = some (some (.int 2 t_LENGTH_BYTES)))
    (g_TIME_BYTES : PySem.W.nsIn K mainGlobals "TIME_BYTES" = some (some (.int 8 t_TIME_BYTES)))
    (g_LIFE_BYTES : PySem.W.nsIn K mainGlobals "LIFE_BYTES" = some (some (.int 4 t_LIFE_BYTES)))
    (g_POINT : PySem.W.nsIn K mainGlobals "POINT" = some (some (.int 46 t_POINT)))
    (g_HYPHEN : PySem.W.nsIn K mainGlobals "HYPHEN" = some (some (.int 45 t_HYPHEN)))
    (g_MOST_TICKET : PySem.W.nsIn K mainGlobals "MOST_TICKET" = some (some (.int 200 t_MOST_TICKET)))
    (g_NOT_AS_TOLD : PySem.W.nsIn K mainGlobals "NOT_AS_TOLD" = some (some (.int (-2) t_NOT_AS_TOLD)))
    : ∃ fd : FuncData, (∀ (s : Shared) (us : List Value), us.length = (["now", "nonce", "life", "key", "ticket", "client", "service"] : List Str).length → BindsTo s fd ⟨us, []⟩ ((["now", "nonce", "life", "key", "ticket", "client", "service"] : List Str).zip us)) ∧ ∀ base : Heap, K.In base → base.Ns mainGlobals mg → FnOk P w K mg base CX0 6 fa fd ["now", "nonce", "life", "key", "ticket", "client", "service"] ((sp_tk_want K)) := by
  have e := hfa.symm.trans (PySem.W.mg_of X G a16)
  cases e
  have T : Txt K mg := ⟨PySem.W.mg_none_of X G z_all, PySem.W.mg_none_of X G z_len, PySem.W.mg_none_of X G z_list, PySem.W.mg_none_of X G z_range, PySem.W.mg_none_of X G z_zip, ⟨_, PySem.W.mg_of X G g_WORD, ⟨_, rfl⟩⟩, ⟨_, PySem.W.mg_of X G g_BLOCK, ⟨_, rfl⟩⟩, ⟨_, PySem.W.mg_of X G g_WORD_BITS, ⟨_, rfl⟩⟩, ⟨_, PySem.W.mg_of X G g_BLOCK_BYTES, ⟨_, rfl⟩⟩, ⟨_, PySem.W.mg_of X G g_KEY_BYTES, ⟨_, rfl⟩⟩, ⟨_, PySem.W.mg_of X G g_ROUNDS, ⟨_, rfl⟩⟩, ⟨_, PySem.W.mg_of X G g_STEP, ⟨_, rfl⟩⟩, ⟨_, PySem.W.mg_of X G g_FOR_SUM, ⟨_, rfl⟩⟩, ⟨_, PySem.W.mg_of X G g_FOR_STREAM, ⟨_, rfl⟩⟩, ⟨_, PySem.W.mg_of X G g_MORE_ASKED, ⟨_, rfl⟩⟩, ⟨_, PySem.W.mg_of X G g_MOST_NAME, ⟨_, rfl⟩⟩, ⟨_, PySem.W.mg_of X G g_LENGTH_BYTES, ⟨_, rfl⟩⟩, ⟨_, PySem.W.mg_of X G g_TIME_BYTES, ⟨_, rfl⟩⟩, ⟨_, PySem.W.mg_of X G g_LIFE_BYTES, ⟨_, rfl⟩⟩, ⟨_, PySem.W.mg_of X G g_POINT, ⟨_, rfl⟩⟩, ⟨_, PySem.W.mg_of X G g_HYPHEN, ⟨_, rfl⟩⟩, ⟨_, PySem.W.mg_of X G g_MOST_TICKET, ⟨_, rfl⟩⟩, ⟨_, PySem.W.mg_of X G g_NOT_AS_TOLD, ⟨_, rfl⟩⟩⟩
  have F1 := fun_mk (st := s_high_first) l1 c1 k1
  have F2 := fun_mk (st := s_number_of) l2 c2 k2
  have F3 := fun_mk (st := s_spread) l3 c3 k3
  have F4 := fun_mk (st := s_enciphered) l4 c4 k4
  have F5 := fun_mk (st := s_words_of) l5 c5 k5
  have F6 := fun_mk (st := s_sum_of) l6 c6 k6
  have F7 := fun_mk (st := s_streamed) l7 c7 k7
  have F8 := fun_mk (st := s_sealed) l8 c8 k8
  have F9 := fun_mk (st := s_is_name_byte) l9 c9 k9
  have F10 := fun_mk (st := s_is_name) l10 c10 k10
  have F11 := fun_mk (st := s_name_told) l11 c11 k11
  have F12 := fun_mk (st := s_row_told) l12 c12 k12
  have F13 := fun_mk (st := s_time_told) l13 c13 k13
  have F14 := fun_mk (st := s_proof_of) l14 c14 k14
  have F15 := fun_mk (st := s_with_length) l15 c15 k15
  have F16 := fun_mk (st := s_tk_want) l16 c16 k16
  refine ⟨PySem.W.fnOf "tk_want" "tk_want" (defArgs s_tk_want) (defBody s_tk_want) (defScope s_tk_want) .none kV16 dc16 pm16 an16 cd16 ct16, fun s us hu => match us, hu with | [_, _, _, _, _, _, _], _ => .of_eq rfl, fun base _ _ => ?_⟩
  have b1 := F1.binds (ps := ["number", "many"]) fun _ _ _ _ _ _ us hl => match us, hl with | [_, _], _ => rfl
  have D1 : Df P w K mg base CX0 1 "high_first" ["number", "many"] (sp_high_first) := ⟨⟨_, _, ok_high_first F1 T, PySem.W.mg_of X G a1, k1, b1⟩⟩
  have b2 := F2.binds (ps := ["row"]) fun _ _ _ _ _ _ us hl => match us, hl with | [_], _ => rfl
  have D2 : Df P w K mg base CX0 1 "number_of" ["row"] ((sp_number_of K)) := ⟨⟨_, _, ok_number_of F2 T, PySem.W.mg_of X G a2, k2, b2⟩⟩
  have b3 := F3.binds (ps := ["half"]) fun _ _ _ _ _ _ us hl => match us, hl with | [_], _ => rfl
  have D3 : Df P w K mg base CX0 1 "spread" ["half"] (sp_spread) := ⟨⟨_, _, ok_spread F3 T, PySem.W.mg_of X G a3, k3, b3⟩⟩
  have b4 := F4.binds (ps := ["words", "block"]) fun _ _ _ _ _ _ us hl => match us, hl with | [_, _], _ => rfl
  have D4 : Df P w K mg base CX0 2 "enciphered" ["words", "block"] ((sp_enciphered K)) := ⟨⟨_, _, ok_enciphered F4 T D3, PySem.W.mg_of X G a4, k4, b4⟩⟩
  have b5 := F5.binds (ps := ["key", "byte"]) fun _ _ _ _ _ _ us hl => match us, hl with | [_, _], _ => rfl
  have D5 : Df P w K mg base CX0 2 "words_of" ["key", "byte"] ((sp_words_of K)) := ⟨⟨_, _, ok_words_of F5 T D2, PySem.W.mg_of X G a5, k5, b5⟩⟩
  have b6 := F6.binds (ps := ["key", "text"]) fun _ _ _ _ _ _ us hl => match us, hl with | [_, _], _ => rfl
  have D6 : Df P w K mg base CX0 3 "sum_of" ["key", "text"] ((sp_sum_of K)) := ⟨⟨_, _, ok_sum_of F6 T D5 D1 D4 D2, PySem.W.mg_of X G a6, k6, b6⟩⟩
  have b7 := F7.binds (ps := ["key", "begin", "text"]) fun _ _ _ _ _ _ us hl => match us, hl with | [_, _, _], _ => rfl
  have D7 : Df P w K mg base CX0 3 "streamed" ["key", "begin", "text"] ((sp_streamed K)) := ⟨⟨_, _, ok_streamed F7 T D5 D1 D4, PySem.W.mg_of X G a7, k7, b7⟩⟩
  have b8 := F8.binds (ps := ["key", "text"]) fun _ _ _ _ _ _ us hl => match us, hl with | [_, _], _ => rfl
  have D8 : Df P w K mg base CX0 4 "sealed" ["key", "text"] ((sp_sealed K)) := ⟨⟨_, _, ok_sealed F8 T D6 D1 D7, PySem.W.mg_of X G a8, k8, b8⟩⟩
  have b9 := F9.binds (ps := ["byte"]) fun _ _ _ _ _ _ us hl => match us, hl with | [_], _ => rfl
  have D9 : Df P w K mg base CX0 1 "is_name_byte" ["byte"] (sp_is_name_byte) := ⟨⟨_, _, ok_is_name_byte F9 T, PySem.W.mg_of X G a9, k9, b9⟩⟩
  have b10 := F10.binds (ps := ["row"]) fun _ _ _ _ _ _ us hl => match us, hl with | [_], _ => rfl
  have D10 : Df P w K mg base CX0 2 "is_name" ["row"] ((sp_is_name K)) := ⟨⟨_, _, ok_is_name F10 T D9, PySem.W.mg_of X G a10, k10, b10⟩⟩
  have b11 := F11.binds (ps := ["name"]) fun _ _ _ _ _ _ us hl => match us, hl with | [_], _ => rfl
  have D11 : Df P w K mg base CX0 1 "name_told" ["name"] ((sp_name_told K)) := ⟨⟨_, _, ok_name_told F11 T, PySem.W.mg_of X G a11, k11, b11⟩⟩
  have b12 := F12.binds (ps := ["row"]) fun _ _ _ _ _ _ us hl => match us, hl with | [_], _ => rfl
  have D12 : Df P w K mg base CX0 2 "row_told" ["row"] ((sp_row_told K)) := ⟨⟨_, _, ok_row_told F12 T D1, PySem.W.mg_of X G a12, k12, b12⟩⟩
  have b13 := F13.binds (ps := ["number"]) fun _ _ _ _ _ _ us hl => match us, hl with | [_], _ => rfl
  have D13 : Df P w K mg base CX0 2 "time_told" ["number"] (sp_time_told) := ⟨⟨_, _, ok_time_told F13 T D1, PySem.W.mg_of X G a13, k13, b13⟩⟩
  have b14 := F14.binds (ps := ["key", "client", "time"]) fun _ _ _ _ _ _ us hl => match us, hl with | [_, _, _], _ => rfl
  have D14 : Df P w K mg base CX0 5 "proof_of" ["key", "client", "time"] ((sp_proof_of K)) := ⟨⟨_, _, ok_proof_of F14 T D8 D11 D13, PySem.W.mg_of X G a14, k14, b14⟩⟩
  have b15 := F15.binds (ps := ["row"]) fun _ _ _ _ _ _ us hl => match us, hl with | [_], _ => rfl
  have D15 : Df P w K mg base CX0 1 "with_length" ["row"] ((sp_with_length K)) := ⟨⟨_, _, ok_with_length F15 T, PySem.W.mg_of X G a15, k15, b15⟩⟩
  exact ok_tk_want F16 T D10 D12 D14 D11 D15 D13 D1
end Th
open PySem PySem.W PyProof.Rows
set_option maxRecDepth 100000 in
set_option maxHeartbeats 16000000 in
theorem PySem.Challenge.cw_trusthouse_s04_tk_want_holds : PySem.Challenge.rw_trusthouse_s04_tk_want.Holds := by
  w_on; k_headS; (case hw => exact ⟨[.int 0, .int 0, .int 0, .list [.int 0, .int 0, .int 0, .int 0, .int 0, .int 0, .int 0, .int 0, .int 0, .int 0, .int 0, .int 0, .int 0, .int 0, .int 0, .int 0], .list [], .list [], .list []], by decide +kernel, by decide +kernel⟩)
  k_fillS
  refine L2.walk_specK (r := PySem.Challenge.rw_trusthouse_s04_tk_want) (k := 6) (CX := L2.CX0) (ps := ["now", "nonce", "life", "key", "ticket", "client", "service"]) (sp := Th.sp_tk_want) (by decide +kernel) rfl rfl ⟨rfl, by decide, by decide⟩ (fun w h Y => PySem.W.kIn_of Y) ?F ?S (fun _ _ _ _ z => z)
  case F =>
    intro w mg fa h Y KX G hmg
    refine' Th.all_mk KX G hmg ?a1 ?l1 ?c1 ?k1 ?a2 ?l2 ?c2 ?k2 ?a3 ?l3 ?c3 ?k3 ?a4 ?l4 ?c4 ?k4 ?a5 ?l5 ?c5 ?k5 ?a6 ?l6 ?c6 ?k6 ?a7 ?l7 ?c7 ?k7 ?a8 ?l8 ?c8 ?k8 ?a9 ?l9 ?c9 ?k9 ?a10 ?l10 ?c10 ?k10 ?a11 ?l11 ?c11 ?k11 ?a12 ?l12 ?c12 ?k12 ?a13 ?l13 ?c13 ?k13 ?a14 ?l14 ?c14 ?k14 ?a15 ?l15 ?c15 ?k15 ?a16 ?l16 ?c16 ?k16 ?z_all ?z_len ?z_list ?z_range ?z_zip ?g_WORD ?g_BLOCK ?g_WORD_BITS ?g_BLOCK_BYTES ?g_KEY_BYTES ?g_ROUNDS ?g_STEP ?g_FOR_SUM ?g_FOR_STREAM ?g_MORE_ASKED ?g_MOST_NAME ?g_LENGTH_BYTES ?g_TIME_BYTES ?g_LIFE_BYTES ?g_POINT ?g_HYPHEN ?g_MOST_TICKET ?g_NOT_AS_TOLD
    (case a1 => k_is)
    (case l1 => k_is)
    (case c1 => k_is)
    (case k1 => k_is)
    (case a2 => k_is)
    (case l2 => k_is)
    (case c2 => k_is)
    (case k2 => k_is)
    (case a3 => k_is)
    (case l3 => k_is)
    (case c3 => k_is)
    (case k3 => k_is)
    (case a4 => k_is)
    (case l4 => k_is)
    (case c4 => k_is)
    (case k4 => k_is)
    (case a5 => k_is)
    (case l5 => k_is)
    (case c5 => k_is)
    (case k5 => k_is)
    (case a6 => k_is)
    (case l6 => k_is)
    (case c6 => k_is)
    (case k6 => k_is)
    (case a7 => k_is)
    (case l7 => k_is)
    (case c7 => k_is)
    (case k7 => k_is)
    (case a8 => k_is)
    (case l8 => k_is)
    (case c8 => k_is)
    (case k8 => k_is)
    (case a9 => k_is)
    (case l9 => k_is)
    (case c9 => k_is)
    (case k9 => k_is)
    (case a10 => k_is)
    (case l10 => k_is)
    (case c10 => k_is)
    (case k10 => k_is)
    (case a11 => k_is)
    (case l11 => k_is)
    (case c11 => k_is)
    (case k11 => k_is)
    (case a12 => k_is)
    (case l12 => k_is)
    (case c12 => k_is)
    (case k12 => k_is)
    (case a13 => k_is)
    (case l13 => k_is)
    (case c13 => k_is)
    (case k13 => k_is)
    (case a14 => k_is)
    (case l14 => k_is)
    (case c14 => k_is)
    (case k14 => k_is)
    (case a15 => k_is)
    (case l15 => k_is)
    (case c15 => k_is)
    (case k15 => k_is)
    (case a16 => k_is)
    (case l16 => k_is)
    (case c16 => k_is)
    (case k16 => k_is)
    (case z_all => k_is)
    (case z_len => k_is)
    (case z_list => k_is)
    (case z_range => k_is)
    (case z_zip => k_is)
    (case g_WORD => k_is)
    (case g_BLOCK => k_is)
    (case g_WORD_BITS => k_is)
    (case g_BLOCK_BYTES => k_is)
    (case g_KEY_BYTES => k_is)
    (case g_ROUNDS => k_is)
    (case g_STEP => k_is)
    (case g_FOR_SUM => k_is)
    (case g_FOR_STREAM => k_is)
    (case g_MORE_ASKED => k_is)
    (case g_MOST_NAME => k_is)
    (case g_LENGTH_BYTES => k_is)
    (case g_TIME_BYTES => k_is)
    (case g_LIFE_BYTES => k_is)
    (case g_POINT => k_is)
    (case g_HYPHEN => k_is)
    (case g_MOST_TICKET => k_is)
    (case g_NOT_AS_TOLD => k_is)
  case S =>
    intro K H xs a hO hwi hask hx
    obtain ⟨t, n, f, k, x, c, s, u⟩ := a
    cases hx with
    | cons h1 hx =>
      cases hx with
      | cons h2 hx =>
        cases hx with
        | cons h3 hx =>
          cases hx with
          | cons h4 hx =>
            cases hx with
            | cons h5 hx =>
              cases hx with
              | cons h6 hx =>
                cases hx with
                | cons h7 hx =>
                  cases hx
                  cases h1
                  cases h2
                  cases h3
                  cases h4 with
                  | lst hs4 ha4 =>
                    cases h5 with
                    | lst hs5 ha5 =>
                      cases h6 with
                      | lst hs6 ha6 =>
                        cases h7 with
                        | lst hs7 ha7 =>
                          have e4 := L2.ints_dw k _ ha4
                          have e5 := L2.ints_dw x _ ha5
                          have e6 := L2.ints_dw c _ ha6
                          have e7 := L2.ints_dw s _ ha7
                          subst e4 e5 e6 e7
                          have q : (Codec.inInt 0 9223372036854775807 t && (Codec.inInt 0 18446744073709551615 n && (Codec.inInt 0 4294967295 f && ((Codec.inLen 16 16 k && k.all (Codec.inInt 0 255)) && ((Codec.inLen 0 200 x && x.all (Codec.inInt 0 255)) && ((Codec.inLen 0 64 c && c.all (Codec.inInt 0 255)) && ((Codec.inLen 0 64 s && s.all (Codec.inInt 0 255)) && true))))))) = true := hwi
                          obtain ⟨q1, q⟩ := Th.and2 q
                          obtain ⟨q2, q⟩ := Th.and2 q
                          obtain ⟨q3, q⟩ := Th.and2 q
                          obtain ⟨q4, q⟩ := Th.and2 q
                          obtain ⟨q5, q⟩ := Th.and2 q
                          obtain ⟨q6, q⟩ := Th.and2 q
                          obtain ⟨q7, _⟩ := Th.and2 q
                          obtain ⟨v4, l4, m4, _⟩ := Th.w_bytes q4
                          obtain ⟨v5, l5, m5, _⟩ := Th.w_bytes q5
                          obtain ⟨v6, l6, m6, b6⟩ := Th.w_bytes q6
                          obtain ⟨v7, l7, m7, _⟩ := Th.w_bytes q7
                          rw [v4] at hs4
                          rw [v5] at hs5
                          rw [v6] at hs6
                          rw [v7] at hs7
                          refine ⟨t.toNat, n.toNat, f.toNat, _, _, _, _, Ql67Neutral.nats k, Ql67Neutral.nats x, Ql67Neutral.nats c, Ql67Neutral.nats s, ?_, hs4, by omega, hs5, by omega, hs6, b6, by omega, hs7, by omega, fun H' p hp => .lst (Th.lst_of hp) ?_⟩
                          · show [L2.V.int t, L2.V.int n, L2.V.int f, _, _, _, _] = _
                            rw [Th.nat_int q1, Th.nat_int q2, Th.nat_int q3]
                          · have el : (Ql67Neutral.nats x).length = ((x.length : Nat) : Int).toNat := by rw [l5, Int.toNat_natCast]
                            rw [el]
                            exact Th.ansV_dw _
#print axioms PySem.Challenge.cw_trusthouse_s04_tk_want_holds
