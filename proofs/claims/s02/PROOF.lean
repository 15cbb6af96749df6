import PyProof.Rows.All
import Wide.All
import OpenK.AllK
import Wide.FinOn
import Open.SpecLaws
import KE.OsGo
import KE.OsArith
import HandS.ForSpec
import HandS.Comp
import HandS.Iter
import HandS.Walk
import HandS.Text
import PySem.Challenge.RW_trusthouse_s02_tk_ask
set_option Elab.async false
set_option linter.all false
set_option maxRecDepth 100000
set_option maxHeartbeats 4000000
namespace Th
open Ql67
/-! ### bytes of a number -/
theorem be_length : ∀ k n, (be k n).length = k
  | 0, _ => rfl
  | k + 1, n => by
    show (be k (n / 256) ++ [n % 256]).length = k + 1
    rw [List.length_append, be_length k, List.length_singleton]
theorem be_lt : ∀ k n b, b ∈ be k n → b < 256
  | 0, _, b, h => by cases h
  | k + 1, n, b, h => by
    have h' : b ∈ be k (n / 256) ++ [n % 256] := h
    rcases List.mem_append.mp h' with q | q
    · exact be_lt k _ b q
    · rw [List.mem_singleton.mp q]
      exact Nat.mod_lt _ (by decide)
theorem be_get : ∀ k n i, i < k → (be k n)[i]? = some (n / 2 ^ (8 * (k - 1 - i)) % 256)
  | 0, _, i, h => absurd h (Nat.not_lt_zero i)
  | k + 1, n, i, h => by
    show (be k (n / 256) ++ [n % 256])[i]? = _
    by_cases c : i < k
    · rw [List.getElem?_append_left (by rw [be_length]; exact c), be_get k _ i c, Nat.div_div_eq_div_mul]
      have e : 256 * 2 ^ (8 * (k - 1 - i)) = 2 ^ (8 * (k + 1 - 1 - i)) := by
        have e1 : k + 1 - 1 - i = (k - 1 - i) + 1 := by omega
        rw [e1, Nat.mul_add, Nat.pow_add, Nat.mul_comm]
      rw [e]
    · have e : i = k := by omega
      subst e
      rw [List.getElem?_append_right (by rw [be_length]; exact Nat.le_refl _), be_length, Nat.sub_self]
      have e2 : i + 1 - 1 - i = 0 := by omega
      rw [e2]
      simp
theorem num_snoc (l : B) (x : Nat) : num (l ++ [x]) = 256 * num l + x := by
  unfold num
  rw [List.foldl_append]
  rfl
theorem num_be : ∀ k n, n < 2 ^ (8 * k) → num (be k n) = n
  | 0, n, h => by
    have : n = 0 := by
      have : n < 1 := by simpa using h
      omega
    subst this
    rfl
  | k + 1, n, h => by
    show num (be k (n / 256) ++ [n % 256]) = n
    have h2 : n / 256 < 2 ^ (8 * k) := by
      rw [Nat.div_lt_iff_lt_mul (by decide)]
      have e : 2 ^ (8 * k) * 256 = 2 ^ (8 * (k + 1)) := by
        rw [Nat.mul_add, Nat.pow_add]
      rw [e]
      exact h
    rw [num_snoc, num_be k _ h2]
    omega
theorem num_lt : ∀ (l : B), (∀ b, b ∈ l → b < 256) → num l < 2 ^ (8 * l.length) := by
  intro l
  have gen : ∀ (n : Nat) (l : B), l.length = n → (∀ b, b ∈ l → b < 256) → num l < 2 ^ (8 * l.length) := by
    intro n
    induction n with
    | zero =>
      intro l hl _
      have : l = [] := List.eq_nil_of_length_eq_zero hl
      subst this
      decide
    | succ n ih =>
      intro l hl hb
      obtain ⟨r, x, rfl⟩ : ∃ r x, l = r ++ [x] := by
        have hne : l ≠ [] := by intro e; rw [e] at hl; cases hl
        exact ⟨l.dropLast, l.getLast hne, (List.dropLast_concat_getLast hne).symm⟩
      have hr : r.length = n := by rw [List.length_append, List.length_singleton] at hl; omega
      have h1 := ih r hr (fun b q => hb b (List.mem_append_left _ q))
      have h2 := hb x (List.mem_append_right _ (List.mem_singleton.mpr rfl))
      rw [num_snoc, List.length_append, List.length_singleton, Nat.mul_add, Nat.pow_add]
      have e : (2 : Nat) ^ (8 * 1) = 256 := by decide
      rw [e]
      omega
  exact gen l.length l rfl
/-! ### E -/
theorem W_eq : W = 4294967296 := by decide
theorem rounds_more (n : Nat) (k : List Nat) (s a b : Nat) : rounds (n + 1) k s a b =
    rounds n k ((s + 0x9E3779B9) % W) ((a + mix b s (k.getD (s % 4) 0)) % W)
      ((b + mix ((a + mix b s (k.getD (s % 4) 0)) % W) ((s + 0x9E3779B9) % W) (k.getD (((s + 0x9E3779B9) % W) / 2048 % 4) 0)) % W) := rfl
theorem rounds_lt : ∀ (n : Nat) (k : List Nat) (s a b : Nat), a < W → b < W → (rounds n k s a b).1 < W ∧ (rounds n k s a b).2 < W
  | 0, _, _, _, _, ha, hb => ⟨ha, hb⟩
  | n + 1, k, s, a, b, _, _ => by
    rw [rounds_more]
    exact rounds_lt n _ _ _ _ (Nat.mod_lt _ (by decide)) (Nat.mod_lt _ (by decide))
def words (k : B) : List Nat := (List.range 4).map fun i => num ((k.drop (4 * i)).take 4)
theorem words_len (k : B) : (words k).length = 4 := by
  unfold words
  rw [List.length_map, List.length_range]
theorem block_eq (k : B) {x : Nat} (hx : x < 2 ^ 64) : block k x = (rounds 32 (words k) 0 (x / W) (x % W)).1 * W + (rounds 32 (words k) 0 (x / W) (x % W)).2 := by
  have e : x / W % W = x / W := Nat.mod_eq_of_lt (by
    rw [Nat.div_lt_iff_lt_mul (by decide)]
    exact hx)
  unfold block
  rw [e]
  rfl
theorem block_lt (k : B) (x : Nat) : block k x < 2 ^ 64 := by
  have h := rounds_lt 32 (words k) 0 (x / W % W) (x % W) (Nat.mod_lt _ (by decide)) (Nat.mod_lt _ (by decide))
  have e : block k x = (rounds 32 (words k) 0 (x / W % W) (x % W)).1 * W + (rounds 32 (words k) 0 (x / W % W) (x % W)).2 := rfl
  rw [e]
  rw [W_eq] at *
  have : (2 : Nat) ^ 64 = 4294967296 * 4294967296 := by decide
  rw [this]
  omega
/-! ### the sum -/
def chunk (l : B) (i : Nat) : Nat := num ((l.drop (8 * i)).take 8)
def padOf (n : Nat) : Nat := (8 - n % 8) % 8
def rowOf (m : B) : B := be 8 m.length ++ m ++ List.replicate (padOf m.length) 0
theorem rowOf_length (m : B) : (rowOf m).length = 8 * ((m.length + padOf m.length) / 8 + 1) := by
  unfold rowOf padOf
  rw [List.length_append, List.length_append, be_length, List.length_replicate]
  omega
theorem eights_nil (f : Nat) : eights f [] = [] := by
  cases f with
  | zero => rfl
  | succ f => simp [eights]
theorem eights_chunks : ∀ (c f : Nat) (l : B) (pad : Nat), l.length + pad = 8 * c → pad < 8 → c ≤ f → eights f l = (List.range c).map (chunk (l ++ List.replicate pad 0))
  | 0, f, l, pad, h, _, _ => by
    have : l = [] := List.eq_nil_of_length_eq_zero (by omega)
    subst this
    rw [eights_nil]
    rfl
  | c + 1, 0, l, pad, _, _, hf => by omega
  | c + 1, f + 1, l, pad, h, hp, hf => by
    have hne : l ≠ [] := by
      intro e
      subst e
      simp at h
      omega
    have e0 : eights (f + 1) l = num (l.take 8 ++ List.replicate (8 - (l.take 8).length) 0) :: eights f (l.drop 8) := by
      simp [eights, hne]
    rw [e0, List.range_succ_eq_map, List.map_cons, List.map_map]
    by_cases c8 : 8 ≤ l.length
    · have e1 : chunk (l ++ List.replicate pad 0) 0 = num (l.take 8 ++ List.replicate (8 - (l.take 8).length) 0) := by
        unfold chunk
        rw [Nat.mul_zero, List.drop_zero, List.take_append_of_le_length c8, List.length_take, Nat.min_eq_left c8, Nat.sub_self]
        simp
      have e2 : eights f (l.drop 8) = (List.range c).map (chunk (l.drop 8 ++ List.replicate pad 0)) :=
        eights_chunks c f (l.drop 8) pad (by rw [List.length_drop]; omega) hp (by omega)
      rw [e1, e2]
      congr 1
      apply List.map_congr_left
      intro i _
      show chunk (l.drop 8 ++ List.replicate pad 0) i = chunk (l ++ List.replicate pad 0) (i + 1)
      unfold chunk
      rw [Nat.mul_add, Nat.mul_one, Nat.add_comm (8 * i) 8, ← List.drop_drop, List.drop_append_of_le_length c8]
    · have hc : c = 0 := by omega
      subst hc
      have hl8 : l.take 8 = l := List.take_of_length_le (by omega)
      have hd8 : l.drop 8 = [] := List.drop_eq_nil_of_le (by omega)
      rw [hl8, hd8, eights_nil]
      have e1 : chunk (l ++ List.replicate pad 0) 0 = num (l ++ List.replicate (8 - l.length) 0) := by
        unfold chunk
        have : 8 - l.length = pad := by omega
        rw [Nat.mul_zero, List.drop_zero, this, List.take_of_length_le]
        rw [List.length_append, List.length_replicate]
        omega
      rw [e1]
      rfl
/-- what the loop over eights has behind c turns -/
def sumTo (k m : B) (c : Nat) : Nat := (List.range c).foldl (fun h j => block (key1 k) (h ^^^ chunk (rowOf m) j)) 0
theorem sumTo_succ (k m : B) (c : Nat) : sumTo k m (c + 1) = block (key1 k) (sumTo k m c ^^^ chunk (rowOf m) c) := by
  unfold sumTo
  rw [List.range_succ, List.foldl_append]
  rfl
theorem sumTo_lt (k m : B) (c : Nat) : sumTo k m c < 2 ^ 64 := by
  cases c with
  | zero =>
    show (0 : Nat) < 2 ^ 64
    decide
  | succ c =>
    rw [sumTo_succ]
    exact block_lt _ _
theorem foldl_map' {α β γ : Type} (f : γ → β → γ) (g : α → β) : ∀ (l : List α) (z : γ), (l.map g).foldl f z = l.foldl (fun h x => f h (g x)) z
  | [], _ => rfl
  | x :: r, z => foldl_map' f g r (f z (g x))
theorem sum_eq (k m : B) (hm : m.length < 2 ^ 64) : sumTo k m ((rowOf m).length / 8) = sum k m := by
  have hpad : padOf m.length < 8 := Nat.mod_lt _ (by decide)
  have hd : m.length + padOf m.length = 8 * ((m.length + padOf m.length) / 8) := by
    unfold padOf
    omega
  have e1 : (rowOf m).length / 8 = (m.length + padOf m.length) / 8 + 1 := by
    rw [rowOf_length, Nat.mul_div_cancel_left _ (by decide)]
  have e2 : eights (m.length + 1) m = (List.range ((m.length + padOf m.length) / 8)).map (chunk (m ++ List.replicate (padOf m.length) 0)) :=
    eights_chunks _ _ _ _ hd hpad (by omega)
  have e3 : m.length :: eights (m.length + 1) m = (List.range ((m.length + padOf m.length) / 8 + 1)).map (chunk (rowOf m)) := by
    rw [e2, List.range_succ_eq_map, List.map_cons, List.map_map]
    have c0 : chunk (rowOf m) 0 = m.length := by
      unfold chunk rowOf
      rw [Nat.mul_zero, List.drop_zero, List.append_assoc, List.take_append_of_le_length (by rw [be_length]; exact Nat.le_refl _), List.take_of_length_le (by rw [be_length]; exact Nat.le_refl _)]
      exact num_be 8 _ hm
    rw [c0]
    refine congrArg (List.cons _) (List.map_congr_left fun i _ => ?_)
    show chunk (m ++ List.replicate (padOf m.length) 0) i = chunk (rowOf m) (i + 1)
    unfold chunk rowOf
    rw [Nat.mul_add, Nat.mul_one, Nat.add_comm (8 * i) 8, ← List.drop_drop, List.append_assoc (be 8 m.length), List.drop_append_of_le_length (l₁ := be 8 m.length) (by rw [be_length]; exact Nat.le_refl _)]
    rw [List.drop_of_length_le (l := be 8 m.length) (by rw [be_length]; exact Nat.le_refl _), List.nil_append]
  unfold sum
  rw [e3, foldl_map', e1]
  rfl
/-! ### the stream -/
theorem flat8_drop (f : Nat → B) (hf : ∀ i, (f i).length = 8) : ∀ (c i : Nat), i < c → ((((List.range c).flatMap f).drop (8 * i)).take 8) = f i := by
  intro c
  have gen : ∀ (i : Nat) (l : List Nat) (x : Nat), l[i]? = some x → (((l.flatMap f).drop (8 * i)).take 8) = f x := by
    intro i
    induction i with
    | zero =>
      intro l x h
      cases l with
      | nil => simp at h
      | cons a r =>
        have : a = x := by simpa using h
        subst this
        rw [Nat.mul_zero, List.drop_zero, List.flatMap_cons, List.take_append_of_le_length (by rw [hf]; exact Nat.le_refl _), List.take_of_length_le (by rw [hf]; exact Nat.le_refl _)]
    | succ i ih =>
      intro l x h
      cases l with
      | nil => simp at h
      | cons a r =>
        have h' : r[i]? = some x := by simpa using h
        rw [List.flatMap_cons, Nat.mul_add, Nat.mul_one, Nat.add_comm (8 * i) 8, ← List.drop_drop, List.drop_append_of_le_length (by rw [hf]; exact Nat.le_refl _), List.drop_of_length_le (l := f a) (by rw [hf]; exact Nat.le_refl _), List.nil_append]
        exact ih r x h'
  intro i hi
  exact gen i (List.range c) i (by simp [hi])
theorem flat8_length (f : Nat → B) (hf : ∀ i, (f i).length = 8) (c : Nat) : ((List.range c).flatMap f).length = 8 * c := by
  have gen : ∀ l : List Nat, (l.flatMap f).length = 8 * l.length := by
    intro l
    induction l with
    | nil => rfl
    | cons a r ih =>
      rw [List.flatMap_cons, List.length_append, hf, ih, List.length_cons]
      omega
  rw [gen, List.length_range]
def eightAt (k : B) (tag i : Nat) : B := be 8 (block (key2 k) ((tag + i) % 2 ^ 64))
theorem stream_length (k : B) (tag n : Nat) : (stream k tag n).length = n := by
  unfold stream
  rw [List.length_take, flat8_length _ (fun i => be_length 8 _)]
  omega
theorem veiled_length (k : B) (tag : Nat) (m : B) : (veiled k tag m).length = m.length := by
  unfold veiled
  rw [List.length_zipWith, stream_length, Nat.min_self]
theorem zipWith_take_right {α β γ : Type} (f : α → β → γ) : ∀ (a : List α) (b : List β) (j : Nat), a.length ≤ j → List.zipWith f a (b.take j) = List.zipWith f a b
  | [], b, j, _ => by simp
  | x :: a, [], j, _ => by simp
  | x :: a, y :: b, 0, h => by simp at h
  | x :: a, y :: b, j + 1, h => by
    rw [List.take_succ_cons, List.zipWith_cons_cons, List.zipWith_cons_cons, zipWith_take_right f a b j (by simpa using h)]
theorem veiled_chunk (k : B) (tag : Nat) (m : B) (i : Nat) (hi : 8 * i ≤ m.length) : ((veiled k tag m).drop (8 * i)).take 8 = List.zipWith (fun (a b : Nat) => a ^^^ b) ((m.drop (8 * i)).take 8) (eightAt k tag i) := by
  unfold veiled stream
  rw [List.drop_zipWith, List.take_zipWith, List.drop_take, List.take_take, Nat.min_comm 8, ← List.take_take]
  rw [flat8_drop _ (fun i => be_length 8 _) _ i (by omega)]
  have := zipWith_take_right (fun (a b : Nat) => a ^^^ b) ((m.drop (8 * i)).take 8) (eightAt k tag i) (m.length - 8 * i) (by rw [List.length_take, List.length_drop]; omega)
  exact this
theorem veiled_more (k : B) (tag : Nat) (m : B) (i : Nat) (hi : 8 * i ≤ m.length) : (veiled k tag m).take (8 * (i + 1)) = (veiled k tag m).take (8 * i) ++ List.zipWith (fun (a b : Nat) => a ^^^ b) ((m.drop (8 * i)).take 8) (eightAt k tag i) := by
  rw [Nat.mul_add, Nat.mul_one, List.take_add, veiled_chunk k tag m i hi]
theorem sum_lt (k m : B) (hm : m.length < 2 ^ 64) : sum k m < 2 ^ 64 := by
  rw [← sum_eq k m hm]
  exact sumTo_lt _ _ _
theorem xor_lt {a b n : Nat} (ha : a < 2 ^ n) (hb : b < 2 ^ n) : a ^^^ b < 2 ^ n := Nat.xor_lt_two_pow ha hb
theorem veiled_lt (k : B) (tag : Nat) (m : B) (hm : ∀ b, b ∈ m → b < 256) : ∀ b, b ∈ veiled k tag m → b < 256 := by
  intro b hb
  unfold veiled at hb
  obtain ⟨i, hi, rfl⟩ := List.mem_iff_getElem.mp hb
  have hi2 := hi
  rw [List.length_zipWith] at hi2
  have hm1 : i < m.length := by omega
  have hm2 : i < (stream k tag m.length).length := by omega
  rw [List.getElem_zipWith]
  have h1 := hm _ (List.getElem_mem (l := m) hm1)
  have hs : ∀ x, x ∈ stream k tag m.length → x < 256 := by
    intro x hx
    unfold stream at hx
    obtain ⟨j, _, hj⟩ := List.mem_flatMap.mp (List.mem_of_mem_take hx)
    exact be_lt _ _ _ hj
  have h2 := hs _ (List.getElem_mem (l := stream k tag m.length) hm2)
  exact xor_lt (n := 8) h1 h2
end Th
namespace Th
open PySem PySem.Spec PyProof.Rows L2
/-! ### lists of bytes as values -/
def vb (l : List Nat) : List V := l.map fun (n : Nat) => V.int (n : Int)
theorem vb_length (l : List Nat) : (vb l).length = l.length := List.length_map _
theorem vb_append (a b : List Nat) : vb (a ++ b) = vb a ++ vb b := List.map_append
theorem vb_take (l : List Nat) (n : Nat) : vb (l.take n) = (vb l).take n := List.map_take
theorem vb_drop (l : List Nat) (n : Nat) : vb (l.drop n) = (vb l).drop n := List.map_drop
theorem vb_get {l : List Nat} {i : Nat} {n : Nat} (h : l[i]? = some n) : (vb l)[i]? = some (.int (n : Int)) := by
  unfold vb
  rw [List.getElem?_map, h]
  rfl
theorem vb_at {l : List Nat} {i : Nat} {x : V} (h : (vb l)[i]? = some x) : ∃ n : Nat, l[i]? = some n ∧ x = .int (n : Int) := by
  unfold vb at h
  rw [List.getElem?_map] at h
  cases e : l[i]? with
  | none =>
    rw [e] at h
    cases h
  | some n =>
    rw [e] at h
    exact ⟨n, rfl, (Option.some.inj h).symm⟩
theorem vb_more {l : List Nat} {i : Nat} {n : Nat} (h : l[i]? = some n) : vb (l.take (i + 1)) = vb (l.take i) ++ [.int (n : Int)] := by
  have e : l.take (i + 1) = l.take i ++ [n] := by
    rw [List.take_add_one, h]
    rfl
  rw [e, vb_append]
  rfl
theorem vb_ints (l : List Nat) : vb l = (l.map fun (x : Nat) => (x : Int)).map V.int := by
  unfold vb
  rw [List.map_map]
  rfl
theorem vb_of (l : List Int) (h : ∀ x ∈ l, 0 ≤ x) : l.map V.int = vb (l.map Int.toNat) := by
  unfold vb
  rw [List.map_map]
  refine List.map_congr_left fun x hx => ?_
  show V.int x = V.int ((x.toNat : Nat) : Int)
  rw [Int.toNat_of_nonneg (h x hx)]
theorem vb_inj : ∀ {a b : List Nat}, vb a = vb b → a = b
  | [], [], _ => rfl
  | [], _ :: _, h => by cases h
  | _ :: _, [], h => by cases h
  | x :: a, y :: b, h => by
    have h' : V.int (x : Int) :: vb a = V.int (y : Int) :: vb b := h
    injection h' with h1 h2
    injection h1 with h3
    have e : x = y := by omega
    rw [e, vb_inj h2]
/-- x[a:b] by numbers -/
theorem cut_nat (xs : List V) (a b : Nat) : cutV xs (some (a : Int)) (some (b : Int)) = (xs.drop a).take (b - a) := by
  unfold cutV
  rw [HT.sIx_nat, HT.sIx_nat]
  by_cases h : a ≤ xs.length
  · rw [Nat.min_eq_left h]
    by_cases h2 : b ≤ xs.length
    · rw [Nat.min_eq_left h2]
    · have e1 : (xs.drop a).take (xs.length - a) = xs.drop a := List.take_of_length_le (by rw [List.length_drop]; exact Nat.le_refl _)
      have e2 : (xs.drop a).take (b - a) = xs.drop a := List.take_of_length_le (by rw [List.length_drop]; omega)
      rw [Nat.min_eq_right (by omega : xs.length ≤ b), e1, e2]
  · have e1 : xs.drop a = [] := List.drop_of_length_le (by omega)
    have e2 : xs.drop xs.length = [] := List.drop_of_length_le (Nat.le_refl _)
    rw [Nat.min_eq_right (by omega : xs.length ≤ a), e1, e2, List.take_nil, List.take_nil]
theorem cut_to (xs : List V) (b : Nat) : cutV xs none (some (b : Int)) = xs.take b := by
  unfold cutV
  rw [HT.sIx_nat, HT.sIx_none, List.drop_zero, Nat.sub_zero]
  by_cases h2 : b ≤ xs.length
  · rw [Nat.min_eq_left h2]
  · have e1 : xs.take xs.length = xs := List.take_length
    have e2 : xs.take b = xs := List.take_of_length_le (by omega)
    rw [Nat.min_eq_right (by omega : xs.length ≤ b), e1, e2]
theorem cut_from (xs : List V) (a : Nat) : cutV xs (some (a : Int)) none = xs.drop a := by
  unfold cutV
  rw [HT.sIx_nat, HT.sIx_none]
  by_cases h : a ≤ xs.length
  · have e1 : (xs.drop a).take (xs.length - a) = xs.drop a := List.take_of_length_le (by rw [List.length_drop]; exact Nat.le_refl _)
    rw [Nat.min_eq_left h, e1]
  · have e1 : xs.drop a = [] := List.drop_of_length_le (by omega)
    have e2 : xs.drop xs.length = [] := List.drop_of_length_le (Nat.le_refl _)
    rw [Nat.min_eq_right (by omega : xs.length ≤ a), e1, e2, List.take_nil]
/-! ### numbers -/
theorem i_xor (a b : Nat) : Builtin.bitXor (a : Int) (b : Int) = ((a ^^^ b : Nat) : Int) := by
  rw [Bits.bitXor_pp (Int.natCast_nonneg a) (Int.natCast_nonneg b), Int.toNat_natCast, Int.toNat_natCast]
theorem i_and (a b : Nat) : Builtin.bitAnd (a : Int) (b : Int) = ((a &&& b : Nat) : Int) := PySem.W.os_band a b
theorem i_mod (a b : Nat) (h : 0 < b) : Int.fmod (a : Int) (b : Int) = ((a % b : Nat) : Int) := PySem.W.os_fmod_nat a b h
theorem i_div (a b : Nat) (h : 0 < b) : Int.fdiv (a : Int) (b : Int) = ((a / b : Nat) : Int) := PySem.W.os_fdiv_nat a b h
theorem i_shr (a k : Nat) : (a : Int) / 2 ^ ((k : Int)).toNat = ((a / 2 ^ k : Nat) : Int) := by
  rw [Int.toNat_natCast, Int.natCast_ediv, Int.natCast_pow]
  rfl
theorem i_shl (a k : Nat) : (a : Int) * 2 ^ ((k : Int)).toNat = ((a * 2 ^ k : Nat) : Int) := by
  rw [Int.toNat_natCast, Int.natCast_mul, Int.natCast_pow]
  rfl
theorem and_255 (a : Nat) : a &&& 255 = a % 256 := Nat.and_two_pow_sub_one_eq_mod a 8
/-! ### heaps -/
theorem same_upd {H : Hp} {p : Addr} {o : HO} (h : H p = none) : Same H (upd H p o) := fun b x e => by
  rw [upd_ne (ne_of_none e h)]
  exact e
/-- one step more: a new object -/
theorem same_new {H H' : Hp} {p : Addr} {o : HO} (s : Same H H') (h : H' p = none) : Same H (upd H' p o) := s.trans (same_upd h)
/-- one step more: an object that is new over H is written -/
theorem same_set {H H' : Hp} {p : Addr} {o : HO} (s : Same H H') (h : H p = none) : Same H (upd H' p o) := fun b x e => by
  rw [upd_ne (ne_of_none e h)]
  exact s b x e
theorem Same.tup {K : PySem.W.Frag} {H H' : Hp} {a : Addr} {xs : List V} (e : Same H H') (h : SqT K H a xs) : SqT K H' a xs := by
  rcases h with (h | ⟨o, h⟩) | h
  · exact .inl (.inl (e _ _ h))
  · exact .inl (.inr ⟨o, e _ _ h⟩)
  · exact .inr h
def SqA (K : PySem.W.Frag) (H : Hp) (a : Addr) (xs : List V) : Prop := SqL K H a xs ∨ SqT K H a xs
theorem Same.any {K : PySem.W.Frag} {H H' : Hp} {a : Addr} {xs : List V} (e : Same H H') (h : SqA K H a xs) : SqA K H' a xs := by
  rcases h with h | h
  · exact .inl (e.seq h)
  · exact .inr (Same.tup e h)
theorem lst_of {K : PySem.W.Frag} {H : Hp} {a : Addr} {xs : List V} (h : H a = some (.lst xs)) : SqL K H a xs := .inl (.inl h)
theorem tup_of {K : PySem.W.Frag} {H : Hp} {a : Addr} {xs : List V} (h : H a = some (.tup xs)) : SqT K H a xs := .inl (.inl h)
/-- a new list comes out -/
def outL (H : Hp) (Q : VK) (l : List Nat) : Prop := ∀ H' p, Same H H' → H p = none → H' p = some (.lst (vb l)) → Q (.ref p) H'
/-- a value comes out, what was tracked stands -/
def outV (H : Hp) (Q : VK) (v : V) : Prop := ∀ H', Same H H' → Q v H'
theorem le_line {n : Nat} (h : n ≤ 100000) : n ≤ sizeLine := Nat.le_trans h (by decide)
theorem lt_line {n : Nat} (h : n ≤ 100000) : n < sizeLine := Nat.lt_of_le_of_lt h (by decide)
/-! ### truth values by parts -/
theorem ev_and {ta tb : TE} {σ : L2.St} {H : Hp} {a b : Bool} (h1 : ∀ Q : VK, Q (.bl a) H → ta σ H Q) (h2 : ∀ Q : VK, Q (.bl b) H → tb σ H Q) : ∀ Q : VK, Q (.bl (a && b)) H → tAndV ta tb σ H Q := by
  intro Q q
  refine h1 _ ⟨a, rfl, ?_⟩
  cases a with
  | true => exact iteT (h2 Q q)
  | false => exact iteF q
theorem ev_or {ta tb : TE} {σ : L2.St} {H : Hp} {a b : Bool} (h1 : ∀ Q : VK, Q (.bl a) H → ta σ H Q) (h2 : ∀ Q : VK, Q (.bl b) H → tb σ H Q) : ∀ Q : VK, Q (.bl (a || b)) H → tOrV ta tb σ H Q := by
  intro Q q
  refine h1 _ ⟨a, rfl, ?_⟩
  cases a with
  | true => exact iteT q
  | false => exact iteF (h2 Q q)
theorem ifB {c : Bool} {A B : Prop} (h1 : c = true → A) (h2 : c = false → B) : if c = true then A else B := by
  cases c with
  | true => exact iteT (h1 rfl)
  | false => exact iteF (h2 rfl)
/-! ### the module's constants, its defs -/
def Glo (mg : Str → Option Value) (x : Str) (v : V) : Prop := ∃ u, mg x = some u ∧ RelV v u
theorem pe_gv {X : Cx} {x : Str} {v : V} {pos : Pos} (h : Glo X.mg x v) (hg : Gl X x := by rfl) (hd : (x == ("__debug__" : Str)) = false := by decide) : PE X (.Name x pos) (tC v) := by
  obtain ⟨u, hm, r⟩ := h
  exact pe_glob hg hm r hd
/-- a def of the module by its name: its promise, where it stands, how its arguments bind -/
structure Df (P : Program) (w : World) (K : PySem.W.Frag) (mg : Str → Option Value) (base : Heap) (CX : CXT) (k : Nat) (x : Str) (ps : List Str) (sp : Sp) : Prop where
  ex : ∃ f fd, FnOk P w K mg base CX k f fd ps sp ∧ mg x = some (.ref f) ∧ PySem.W.keepIn K (.ref f) = true ∧ Binds K fd ps []
theorem pe_callD {X : Cx} {CX : CXT} {k : Nat} {x : Str} {ps : List Str} {sp : Sp} {E : XK} {e : Expr} {es : List Expr} {t : TA} {p pos : Pos} (D : Df X.prog X.w X.K X.mg X.base CX k x ps sp) (hr : Room k X.A) (hx : Passes CX X E) (ha : PA X (e :: es) t) (hg : Gl X x := by rfl)
    (hs : starEach (e :: es) X.env = (false, eval e X.env) :: starEach es X.env := by rfl) (hpl : (backTo pos (starEach es X.env)).any (·.1) = false := by rfl) (hdb : (x == ("__debug__" : Str)) = false := by decide) :
    PE X (.Call (.Name x p) (e :: es) [] pos) (tCall sp [] E t) := by
  obtain ⟨f, fd, F, hm, hk, hb⟩ := D.ex
  exact pe_call F hr hg hm hk hb .nil hx ha hdb hs hpl
end Th
namespace Th
open PySem PySem.Spec PyProof.Rows L2
/-! ### the text by places -/
def topS (i : Nat) : Stmt := PySem.Challenge.pw_trusthouse_s02_tk_ask.main.body.getD i (.Pass ⟨0, 0, 0, 0⟩)
abbrev s_high_first : Stmt := topS 1
abbrev s_is_name_byte : Stmt := topS 9
abbrev s_is_name : Stmt := topS 10
abbrev s_name_told : Stmt := topS 11
abbrev s_time_told : Stmt := topS 12
abbrev s_with_length : Stmt := topS 15
abbrev s_tk_ask : Stmt := topS 16
/-- what the top has written: constants, and names that are still the built-in -/
structure Txt (K : PySem.W.Frag) (mg : Str → Option Value) : Prop where
  b_all : mg "all" = none
  b_len : mg "len" = none
  b_list : mg "list" = none
  b_range : mg "range" = none
  c_ASKED : Glo mg "ASKED" (.int 1)
  c_MOST_NAME : Glo mg "MOST_NAME" (.int 32)
  c_TIME_BYTES : Glo mg "TIME_BYTES" (.int 8)
  c_LIFE_BYTES : Glo mg "LIFE_BYTES" (.int 4)
  c_POINT : Glo mg "POINT" (.int 46)
  c_HYPHEN : Glo mg "HYPHEN" (.int 45)
  c_NOT_AS_TOLD : Glo mg "NOT_AS_TOLD" (.int (-2))
end Th
namespace Th
open PySem PySem.Spec PyProof.Rows L2
section
variable {P : Program} {w : World} {K : PySem.W.Frag} {mg : Str → Option Value} {base : Heap}
/-! ### high_first -/
theorem sc_high_first : FnScope ["number", "many", "k"] ["number", "many"] (defScope s_high_first) := ⟨rfl, rfl, rfl, by decide +kernel, rfl, by decide +kernel, by decide +kernel⟩
def sp_high_first : Sp := fun vs H Q _ => ∃ n k : Nat, vs = [.int (n : Int), .int (k : Int)] ∧ k ≤ 1000 ∧ outL H Q (Ql67.be k n)
theorem high_item (n k i : Nat) (hi : i < k) : Builtin.bitAnd ((n : Int) / 2 ^ ((8 : Int) * (((k : Int) - 1) + (i : Int) * -1)).toNat) 255 = ((n / 2 ^ (8 * (k - 1 - i)) % 256 : Nat) : Int) := by
  have e : (8 : Int) * (((k : Int) - 1) + (i : Int) * -1) = ((8 * (k - 1 - i) : Nat) : Int) := by omega
  rw [e, i_shr]
  show Builtin.bitAnd _ ((255 : Nat) : Int) = _
  rw [i_and, and_255]
theorem ok_high_first {f : Addr} {fd : FuncData} (F : Fun K "high_first" "high_first" s_high_first f fd) (T : Txt K mg) : FnOk P w K mg base CX0 1 f fd ["number", "many"] sp_high_first := by
  refine F.ok sc_high_first (fun vs H Q E h => ?_) (fun cdv A outer s H vs Q E hr h => ?_)
  · obtain ⟨n, k, rfl, _⟩ := h
    rfl
  · obtain ⟨n, k, rfl, hk, q⟩ := h
    refine ⟨_, pss_one (ps_ret (pe_lc (own := [("k", 2)]) (g := gName 2) (tt := tYes) rfl sc_high_first.nd
      (pi_range3 (by rfl) T.b_range (pa_cons (pe_op op_sub (pv 1) pe_int) (pa_cons (pe_un un_neg pe_int) (pa_cons (pe_un un_neg pe_int) pa_nil))))
      (blkOk_by (own := [("k", 2)]) (N := ["number", "many", "k"]) (sc := defScope s_high_first) (by decide +kernel)) (fun _ _ _ _ _ => pg_name (i := 2) sc_high_first.nd rfl (Or.inl rfl)) (fun _ _ _ _ _ => pts_nil)
      (fun _ _ _ _ _ => pe_op op_and (pe_op op_shr (pv 0) (pe_op op_mul pe_int (pv 2))) pe_int))), ?_⟩
    have hR : RgC ((k : Int) - 1) (-1) (-1) k := by
      have e : (((k : Int) - 1) - (-1)).toNat = k := by omega
      have r := RgC.neg (i := (k : Int) - 1) (j := -1) (by omega) (by omega) (by decide) (by decide)
      rw [e] at r
      exact r
    refine ⟨_, rfl, _, _, rfl, rfl, _, rfl, _, rfl, _, _, _, k, rfl, hR, fun D hD => ?_⟩
    refine lc_it walk_rangeC (fun i H' => Same H H' ∧ H' D = some (.lst (vb ((Ql67.be k n).take i)))) ⟨same_upd hD, upd_same⟩ (fun _ _ _ _ => trivial) ?_ ?_
    · rintro i x H1 H2 hi ⟨s1, e1⟩ ⟨rfl, rfl⟩
      refine ⟨rfl, _, rfl, _, rfl, _, _, rfl, rfl, .inl ⟨by decide, by decide⟩, _, _, rfl, rfl, ?_, _, _, rfl, rfl, _, e1, ?_, same_set s1 hD, ?_⟩
      · show (0 : Int) ≤ 8 * (((k : Int) - 1) + (i : Int) * -1)
        omega
      · rw [vb_length]
        exact lt_line (Nat.le_trans (List.length_take_le _ _) (by omega))
      · rw [upd_same, vb_more (be_get k n i hi), ← high_item n k i hi]
    · rintro H1 ⟨s1, e1⟩
      refine q H1 D s1 hD ?_
      rw [e1, List.take_of_length_le (by rw [be_length]; exact Nat.le_refl _)]
/-! ### is_name_byte -/
theorem sc_is_name_byte : FnScope ["byte"] ["byte"] (defScope s_is_name_byte) := ⟨rfl, rfl, rfl, by decide +kernel, rfl, by decide +kernel, by decide +kernel⟩
def sp_is_name_byte : Sp := fun vs H Q _ => ∃ n : Nat, vs = [.int (n : Int)] ∧ Q (.bl (Ql67.sign n)) H
theorem sign_eq (n : Nat) : Ql67.sign n = ((decide ((97 : Int) ≤ n) && decide ((n : Int) ≤ 122)) || ((decide ((48 : Int) ≤ n) && decide ((n : Int) ≤ 57)) || (decide (V.int (n : Int) = V.int 46) || decide (V.int (n : Int) = V.int 45)))) := by
  have h1 : decide (V.int (n : Int) = V.int 46) = (n == 46) := by
    rw [dec_int, Bool.eq_iff_iff, beq_iff_eq, beq_iff_eq]
    omega
  have h2 : decide (V.int (n : Int) = V.int 45) = (n == 45) := by
    rw [dec_int, Bool.eq_iff_iff, beq_iff_eq, beq_iff_eq]
    omega
  have h3 : decide ((97 : Int) ≤ n) = decide (97 ≤ n) := by
    rw [Bool.eq_iff_iff, decide_eq_true_iff, decide_eq_true_iff]
    omega
  have h4 : decide ((n : Int) ≤ 122) = decide (n ≤ 122) := by
    rw [Bool.eq_iff_iff, decide_eq_true_iff, decide_eq_true_iff]
    omega
  have h5 : decide ((48 : Int) ≤ n) = decide (48 ≤ n) := by
    rw [Bool.eq_iff_iff, decide_eq_true_iff, decide_eq_true_iff]
    omega
  have h6 : decide ((n : Int) ≤ 57) = decide (n ≤ 57) := by
    rw [Bool.eq_iff_iff, decide_eq_true_iff, decide_eq_true_iff]
    omega
  unfold Ql67.sign
  rw [h1, h2, h3, h4, h5, h6, Bool.decide_and, Bool.decide_and]
theorem ok_is_name_byte {f : Addr} {fd : FuncData} (F : Fun K "is_name_byte" "is_name_byte" s_is_name_byte f fd) (T : Txt K mg) : FnOk P w K mg base CX0 1 f fd ["byte"] sp_is_name_byte := by
  refine F.ok sc_is_name_byte (fun vs H Q E h => ?_) (fun cdv A outer s H vs Q E hr h => ?_)
  · obtain ⟨n, rfl, _⟩ := h
    rfl
  · obtain ⟨n, rfl, q⟩ := h
    refine ⟨_, pss_one (ps_ret (pe_or (pe_and (pe_cmpR op_le pe_int (pv 0) (nomark _)) (pe_one (pe_cmpR op_le (pv 0) pe_int (nomark _))))
      (pe_or (pe_and (pe_cmpR op_le pe_int (pv 0) (nomark _)) (pe_one (pe_cmpR op_le (pv 0) pe_int (nomark _))))
      (pe_or (pe_cmpR op_eq (pv 0) (pe_gv T.c_POINT) (nomark _)) (pe_one (pe_cmpR op_eq (pv 0) (pe_gv T.c_HYPHEN) (nomark _))))))), ?_⟩
    refine ev_or (ev_and (a := decide ((97 : Int) ≤ n)) (b := decide ((n : Int) ≤ 122)) ?_ ?_) (ev_or (ev_and (a := decide ((48 : Int) ≤ n)) (b := decide ((n : Int) ≤ 57)) ?_ ?_) (ev_or (a := decide (V.int (n : Int) = V.int 46)) (b := decide (V.int (n : Int) = V.int 45)) ?_ ?_)) _ ?_
    · exact fun Q' q' => ⟨_, rfl, _, _, rfl, rfl, q'⟩
    · exact fun Q' q' => ⟨_, rfl, _, _, rfl, rfl, q'⟩
    · exact fun Q' q' => ⟨_, rfl, _, _, rfl, rfl, q'⟩
    · exact fun Q' q' => ⟨_, rfl, _, _, rfl, rfl, q'⟩
    · exact fun Q' q' => ⟨_, rfl, rfl, q'⟩
    · exact fun Q' q' => ⟨_, rfl, rfl, q'⟩
    · rw [← sign_eq]
      exact q
/-! ### is_name -/
theorem sc_is_name : FnScope ["row", "byte"] ["row"] (defScope s_is_name) := ⟨rfl, rfl, rfl, by decide +kernel, rfl, by decide +kernel, by decide +kernel⟩
def sp_is_name (K : PySem.W.Frag) : Sp := fun vs H Q _ => ∃ (a : Addr) (l : List Nat), vs = [.ref a] ∧ SqL K H a (vb l) ∧ outV H Q (.bl (Ql67.isName l))
theorem ok_is_name {f : Addr} {fd : FuncData} (F : Fun K "is_name" "is_name" s_is_name f fd) (T : Txt K mg) (G1 : Df P w K mg base CX0 1 "is_name_byte" ["byte"] sp_is_name_byte) : FnOk P w K mg base CX0 2 f fd ["row"] (sp_is_name K) := by
  refine F.ok sc_is_name (fun vs H Q E h => ?_) (fun cdv A outer s H vs Q E hr h => ?_)
  · obtain ⟨a, l, rfl, _⟩ := h
    rfl
  · obtain ⟨a, l, rfl, hS, q⟩ := h
    refine ⟨_, pss_one (ps_ret (pe_and (pe_cmpR op_le pe_int (pe_callB call_len_seq (by rfl) T.b_len PySem.boot_len (pa_cons (pv 0) pa_nil)) (nomark _))
      (pe_and (pe_cmpR op_le (pe_callB call_len_seq (by rfl) T.b_len PySem.boot_len (pa_cons (pv 0) pa_nil)) (pe_gv T.c_MOST_NAME) (nomark _))
      (pe_one (pe_callB (cr_all rfl) (by rfl) T.b_all (by decide +kernel) (pa_cons (pe_lc (own := [("byte", 1)]) (g := gName 1) (tt := tYes) rfl sc_is_name.nd (pi_list (pv 0))
        (blkOk_by (own := [("byte", 1)]) (N := ["row", "byte"]) (sc := defScope s_is_name) (by decide +kernel)) (fun _ _ _ _ _ => pg_name (i := 1) sc_is_name.nd rfl (Or.inl rfl)) (fun _ _ _ _ _ => pts_nil)
        (fun _ _ _ _ _ => pe_callD G1 (hr.mono (by decide)) pass0 (pa_cons (pv 1) pa_nil))) pa_nil)))))), ?_⟩
    have hl : (vb l).length = l.length := vb_length l
    refine ⟨_, rfl, a, _, rfl, .inl hS, _, _, rfl, rfl, _, rfl, ifB (fun c1 => ?_) (fun c1 => ?_)⟩
    · have c1' := of_decide_eq_true c1
      rw [hl] at c1'
      refine ⟨_, rfl, a, _, rfl, .inl hS, _, _, rfl, rfl, _, rfl, ifB (fun c2 => ?_) (fun c2 => ?_)⟩
      · have c2' := of_decide_eq_true c2
        rw [hl] at c2'
        refine ⟨_, rfl, a, rfl, ⟨_, hS⟩, fun D hD => ?_⟩
        refine lc_list (K := K) (a := a) (xs := vb l) (fun i H' => Same H H' ∧ H' D = some (.lst (((l.take i).map Ql67.sign).map V.bl))) ⟨same_upd hD, upd_same⟩ (fun i H' _ h => h.1.seq hS) ?_ ?_
        · rintro i x H1 hx ⟨s1, e1⟩
          obtain ⟨n, hn, rfl⟩ := vb_at hx
          refine ⟨rfl, _, rfl, n, rfl, _, e1, ?_, same_set s1 hD, ?_⟩
          · rw [List.length_map, List.length_map]
            exact lt_line (Nat.le_trans (List.length_take_le _ _) (by have := (List.getElem?_eq_some_iff.mp hn).1; omega))
          · rw [upd_same, List.take_add_one, hn, List.map_append, List.map_append]
            rfl
        · rintro H1 ⟨s1, e1⟩
          rw [hl, List.take_length] at e1
          refine ⟨D, l.map Ql67.sign, rfl, lst_of e1, ?_⟩
          have e : Ql67.isName l = (l.map Ql67.sign).all id := by
            unfold Ql67.isName
            rw [decide_eq_true (show 1 ≤ l.length ∧ l.length ≤ 32 from ⟨by omega, by omega⟩), Bool.true_and, List.all_map]
            rfl
          have q' := q H1 s1
          rw [e] at q'
          exact q'
      · have c2' := of_decide_eq_false c2
        rw [hl] at c2'
        have e : Ql67.isName l = false := by
          unfold Ql67.isName
          rw [decide_eq_false (fun h => by omega), Bool.false_and]
        have q' := q H (Same.refl H)
        rw [e] at q'
        exact q'
    · have c1' := of_decide_eq_false c1
      rw [hl] at c1'
      have e : Ql67.isName l = false := by
        unfold Ql67.isName
        rw [decide_eq_false (fun h => by omega), Bool.false_and]
      have q' := q H (Same.refl H)
      rw [e] at q'
      exact q'
/-! ### name_told -/
theorem sc_name_told : FnScope ["name"] ["name"] (defScope s_name_told) := ⟨rfl, rfl, rfl, by decide +kernel, rfl, by decide +kernel, by decide +kernel⟩
def sp_name_told (K : PySem.W.Frag) : Sp := fun vs H Q _ => ∃ (a : Addr) (l : List Nat), vs = [.ref a] ∧ SqA K H a (vb l) ∧ l.length ≤ 1000 ∧ outL H Q (Ql67.named l)
theorem ok_name_told {f : Addr} {fd : FuncData} (F : Fun K "name_told" "name_told" s_name_told f fd) (T : Txt K mg) : FnOk P w K mg base CX0 1 f fd ["name"] (sp_name_told K) := by
  refine F.ok sc_name_told (fun vs H Q E h => ?_) (fun cdv A outer s H vs Q E hr h => ?_)
  · obtain ⟨a, l, rfl, _⟩ := h
    rfl
  · obtain ⟨a, l, rfl, hS, hlen, q⟩ := h
    refine ⟨_, pss_one (ps_ret (pe_op op_cat (pe_lst (pa_cons (pe_callB call_len_seq (by rfl) T.b_len PySem.boot_len (pa_cons (pv 0) pa_nil)) pa_nil))
      (pe_callTy call_list_of (by rfl) T.b_list (by decide +kernel) (pa_cons (pv 0) pa_nil)))), ?_⟩
    have hl : (vb l).length = l.length := vb_length l
    refine ⟨_, rfl, a, _, rfl, hS, (by show 1 ≤ sizeLine; decide), fun p hp => ?_⟩
    refine ⟨_, rfl, a, _, rfl, Same.any (same_upd hp) hS, fun b hb => ?_⟩
    refine ⟨p, b, _, _, rfl, rfl, same_upd hb _ _ upd_same, upd_same, ?_, fun c hc => ?_⟩
    · rw [hl]
      exact le_line (by show 1 + l.length ≤ 100000; omega)
    · refine q _ c (same_new (same_new (same_upd hp) hb) hc) ((same_new (same_upd hp) hb).free hc) ?_
      rw [upd_same, hl]
      rfl
/-! ### time_told -/
theorem sc_time_told : FnScope ["number"] ["number"] (defScope s_time_told) := ⟨rfl, rfl, rfl, by decide +kernel, rfl, by decide +kernel, by decide +kernel⟩
def sp_time_told : Sp := fun vs H Q _ => ∃ n : Nat, vs = [.int (n : Int)] ∧ outL H Q (Ql67.be 8 n)
theorem ok_time_told {f : Addr} {fd : FuncData} (F : Fun K "time_told" "time_told" s_time_told f fd) (T : Txt K mg) (G1 : Df P w K mg base CX0 1 "high_first" ["number", "many"] sp_high_first) : FnOk P w K mg base CX0 2 f fd ["number"] sp_time_told := by
  refine F.ok sc_time_told (fun vs H Q E h => ?_) (fun cdv A outer s H vs Q E hr h => ?_)
  · obtain ⟨n, rfl, _⟩ := h
    rfl
  · obtain ⟨n, rfl, q⟩ := h
    refine ⟨_, pss_one (ps_ret (pe_callD G1 (hr.mono (by decide)) pass0 (pa_cons (pv 0) (pa_cons (pe_gv T.c_TIME_BYTES) pa_nil)))), ?_⟩
    exact ⟨_, rfl, n, 8, rfl, by decide, q⟩
/-! ### with_length -/
theorem sc_with_length : FnScope ["row"] ["row"] (defScope s_with_length) := ⟨rfl, rfl, rfl, by decide +kernel, rfl, by decide +kernel, by decide +kernel⟩
/-- an answer as Python's list -/
def ansV (a : Ql67.Ans) : List V := V.int a.value :: vb a.bytes
def outA (Q : VK) (a : Ql67.Ans) : Prop := ∀ (H' : Hp) (p : Addr), H' p = some (.lst (ansV a)) → Q (.ref p) H'
def sp_with_length (K : PySem.W.Frag) : Sp := fun vs H Q _ => ∃ (a : Addr) (l : List Nat), vs = [.ref a] ∧ SqL K H a (vb l) ∧ l.length ≤ 10000 ∧ outA Q (Ql67.told l)
theorem ok_with_length {f : Addr} {fd : FuncData} (F : Fun K "with_length" "with_length" s_with_length f fd) (T : Txt K mg) : FnOk P w K mg base CX0 1 f fd ["row"] (sp_with_length K) := by
  refine F.ok sc_with_length (fun vs H Q E h => ?_) (fun cdv A outer s H vs Q E hr h => ?_)
  · obtain ⟨a, l, rfl, _⟩ := h
    rfl
  · obtain ⟨a, l, rfl, hS, hlen, q⟩ := h
    refine ⟨_, pss_one (ps_ret (pe_op op_cat (pe_lst (pa_cons (pe_callB call_len_seq (by rfl) T.b_len PySem.boot_len (pa_cons (pv 0) pa_nil)) pa_nil))
      (pe_callTy call_list_of (by rfl) T.b_list (by decide +kernel) (pa_cons (pv 0) pa_nil)))), ?_⟩
    have hl : (vb l).length = l.length := vb_length l
    refine ⟨_, rfl, a, _, rfl, .inl hS, (by show 1 ≤ sizeLine; decide), fun p hp => ?_⟩
    refine ⟨_, rfl, a, _, rfl, .inl ((same_upd hp).seq hS), fun b hb => ?_⟩
    refine ⟨p, b, _, _, rfl, rfl, same_upd hb _ _ upd_same, upd_same, ?_, fun c hc => ?_⟩
    · rw [hl]
      exact le_line (by show 1 + l.length ≤ 100000; omega)
    · refine q _ c ?_
      rw [upd_same, hl]
      rfl
/-! ### tk_ask -/
theorem sc_tk_ask : FnScope ["nonce", "life", "client", "service", "row"] ["nonce", "life", "client", "service"] (defScope s_tk_ask) := ⟨rfl, rfl, rfl, by decide +kernel, rfl, by decide +kernel, by decide +kernel⟩
def sp_tk_ask (K : PySem.W.Frag) : Sp := fun vs H Q _ => ∃ (n f : Nat) (a b : Addr) (c s : List Nat), vs = [.int (n : Int), .int (f : Int), .ref a, .ref b] ∧ SqL K H a (vb c) ∧ SqL K H b (vb s) ∧ c.length ≤ 64 ∧ s.length ≤ 64 ∧
  outA Q (Ql67.spec Ql67.empty (.ask c s n f)).2
theorem named_length (l : List Nat) : (Ql67.named l).length = l.length + 1 := rfl
theorem ok_tk_ask {f : Addr} {fd : FuncData} (F : Fun K "tk_ask" "tk_ask" s_tk_ask f fd) (T : Txt K mg) (G1 : Df P w K mg base CX0 2 "is_name" ["row"] (sp_is_name K)) (G2 : Df P w K mg base CX0 1 "name_told" ["name"] (sp_name_told K))
    (G3 : Df P w K mg base CX0 2 "time_told" ["number"] sp_time_told) (G4 : Df P w K mg base CX0 1 "high_first" ["number", "many"] sp_high_first) (G5 : Df P w K mg base CX0 1 "with_length" ["row"] (sp_with_length K)) :
    FnOk P w K mg base CX0 3 f fd ["nonce", "life", "client", "service"] (sp_tk_ask K) := by
  refine F.ok sc_tk_ask (fun vs H Q E h => ?_) (fun cdv A outer s H vs Q E hr h => ?_)
  · obtain ⟨n, f, a, b, c, s, rfl, _⟩ := h
    rfl
  · obtain ⟨n, f, a, b, c, s, rfl, hc, hs, lc, ls, q⟩ := h
    refine ⟨_, pss_cons (ps_if (PW.pt (pw_or (pt_not (pt_val (pe_callD G1 (hr.mono (by decide)) pass0 (pa_cons (pv 2) pa_nil)))) (pw_or1 (pt_not (pt_val (pe_callD G1 (hr.mono (by decide)) pass0 (pa_cons (pv 3) pa_nil)))))))
        (pss_one (ps_ret (pe_lst (pa_cons (pe_gv T.c_NOT_AS_TOLD) pa_nil)))) pss_nil)
      (pss_cons (ps_set (i := 4) sc_tk_ask.nd rfl (Or.inl rfl) (pe_op op_cat (pe_op op_cat (pe_lst (pa_cons (pe_gv T.c_ASKED) pa_nil)) (pe_callD G2 (hr.mono (by decide)) pass0 (pa_cons (pv 2) pa_nil))) (pe_callD G2 (hr.mono (by decide)) pass0 (pa_cons (pv 3) pa_nil))))
      (pss_one (ps_ret (pe_callD G5 (hr.mono (by decide)) pass0 (pa_cons (pe_op op_cat (pe_op op_cat (pv 4) (pe_callD G3 (hr.mono (by decide)) pass0 (pa_cons (pv 0) pa_nil)))
        (pe_callD G4 (hr.mono (by decide)) pass0 (pa_cons (pv 1) (pa_cons (pe_gv T.c_LIFE_BYTES) pa_nil)))) pa_nil))))), ?_⟩
    refine ⟨_, rfl, a, c, rfl, hc, fun H1 s1 => ⟨_, rfl, ifB (fun c1 => iteT ?_) (fun c1 => ?_)⟩⟩
    · have c1' : Ql67.isName c = false := by simpa using c1
      refine ⟨(by show 1 ≤ sizeLine; decide), fun p hp => q _ p ?_⟩
      rw [upd_same]
      have e : (Ql67.spec Ql67.empty (.ask c s n f)).2 = Ql67.only (-2) := by
        show (if Ql67.isName c = false ∨ Ql67.isName s = false then (Ql67.empty, Ql67.only (-2)) else _).2 = _
        rw [if_pos (.inl c1')]
      rw [e]
      rfl
    · have c1' : Ql67.isName c = true := by simpa using c1
      refine ⟨_, rfl, b, s, rfl, s1.seq hs, fun H2 s2 => ⟨_, rfl, ifB (fun c2 => ?_) (fun c2 => ?_)⟩⟩
      · have c2' : Ql67.isName s = false := by simpa using c2
        refine ⟨(by show 1 ≤ sizeLine; decide), fun p hp => q _ p ?_⟩
        rw [upd_same]
        have e : (Ql67.spec Ql67.empty (.ask c s n f)).2 = Ql67.only (-2) := by
          show (if Ql67.isName c = false ∨ Ql67.isName s = false then (Ql67.empty, Ql67.only (-2)) else _).2 = _
          rw [if_pos (.inr c2')]
        rw [e]
        rfl
      · have c2' : Ql67.isName s = true := by simpa using c2
        have s12 := s1.trans s2
        -- [ASKED] + name_told(client) + name_told(service)
        refine ⟨(by show 1 ≤ sizeLine; decide), fun p hp => ?_⟩
        refine ⟨_, rfl, a, c, rfl, .inl ((same_new s12 hp).seq hc), by omega, fun H3 p3 s3 n3 e3 => ?_⟩
        refine ⟨p, p3, _, _, rfl, rfl, s3 _ _ upd_same, e3, ?_, fun p4 n4 => ?_⟩
        · rw [vb_length, named_length]
          exact le_line (by show 1 + (c.length + 1) ≤ 100000; omega)
        have s34 := (same_new s12 hp).trans s3
        refine ⟨_, rfl, b, s, rfl, .inl ((same_new s34 n4).seq hs), by omega, fun H5 p5 s5 n5 e5 => ?_⟩
        refine ⟨p4, p5, _, _, rfl, rfl, s5 _ _ upd_same, e5, ?_, fun p6 n6 => ?_⟩
        · rw [List.length_append, vb_length, vb_length, named_length, named_length]
          exact le_line (by show 1 + (c.length + 1) + (s.length + 1) ≤ 100000; omega)
        -- row + time_told(nonce) + high_first(life, LIFE_BYTES)
        refine ⟨_, rfl, _, rfl, n, rfl, fun H7 p7 s7 n7 e7 => ?_⟩
        refine ⟨p6, p7, _, _, rfl, rfl, s7 _ _ upd_same, e7, ?_, fun p8 n8 => ?_⟩
        · rw [List.length_append, List.length_append, vb_length, vb_length, vb_length, named_length, named_length, be_length]
          exact le_line (by show 1 + (c.length + 1) + (s.length + 1) + 8 ≤ 100000; omega)
        refine ⟨_, rfl, f, 4, rfl, by decide, fun H9 p9 s9 n9 e9 => ?_⟩
        refine ⟨p8, p9, _, _, rfl, rfl, s9 _ _ upd_same, e9, ?_, fun p10 n10 => ?_⟩
        · rw [List.length_append, List.length_append, List.length_append, vb_length, vb_length, vb_length, vb_length, named_length, named_length, be_length, be_length]
          exact le_line (by show 1 + (c.length + 1) + (s.length + 1) + 8 + 4 ≤ 100000; omega)
        have e : (Ql67.spec Ql67.empty (.ask c s n f)).2 = Ql67.told (Ql67.Msg.asked c s n f).text := by
          show (if Ql67.isName c = false ∨ Ql67.isName s = false then (Ql67.empty, Ql67.only (-2)) else _).2 = _
          rw [if_neg (by rw [c1', c2']; simp)]
        rw [e] at q
        refine ⟨p10, (Ql67.Msg.asked c s n f).text, rfl, lst_of (upd_same.trans ?_), ?_, q⟩
        · have et : (Ql67.Msg.asked c s n f).text = [1] ++ Ql67.named c ++ Ql67.named s ++ Ql67.be 8 n ++ Ql67.be 4 f := by
            show 1 :: (Ql67.named c ++ (Ql67.named s ++ (Ql67.be 8 n ++ Ql67.be 4 f))) = _
            simp only [List.append_assoc, List.singleton_append, List.cons_append, List.nil_append]
          rw [et]
          simp only [vb_append]
          rfl
        · show (1 :: (Ql67.named c ++ (Ql67.named s ++ (Ql67.be 8 n ++ Ql67.be 4 f)))).length ≤ 10000
          rw [List.length_cons, List.length_append, List.length_append, List.length_append, named_length, named_length, be_length, be_length]
          omega
end
end Th
namespace Th
open PySem PySem.Spec PyProof.Rows L2
open PySem.W (Codec WData)
/-! ### the request -/
theorem and2 {a b : Bool} (h : (a && b) = true) : a = true ∧ b = true := by
  rw [Bool.and_eq_true] at h
  exact h
theorem w_int {lo hi z : Int} (h : Codec.inInt lo hi z = true) : lo ≤ z ∧ z ≤ hi := by
  have h' : (decide (lo ≤ z) && decide (z ≤ hi)) = true := h
  rw [Bool.and_eq_true] at h'
  exact ⟨of_decide_eq_true h'.1, of_decide_eq_true h'.2⟩
theorem w_list {least most : Nat} {lo hi : Int} {l : List Int} (h : (Codec.inLen least most l && l.all (Codec.inInt lo hi)) = true) : (least ≤ l.length ∧ l.length ≤ most) ∧ ∀ x ∈ l, lo ≤ x ∧ x ≤ hi := by
  rw [Bool.and_eq_true] at h
  exact ⟨Codec.inNat_iff.mp h.1, fun x hx => w_int (List.all_eq_true.mp h.2 x hx)⟩
theorem w_bytes {least most : Nat} {l : List Int} (h : (Codec.inLen least most l && l.all (Codec.inInt 0 255)) = true) : l.map V.int = vb (Ql67Neutral.nats l) ∧ (Ql67Neutral.nats l).length = l.length ∧ (least ≤ l.length ∧ l.length ≤ most) ∧ ∀ b, b ∈ Ql67Neutral.nats l → b < 256 := by
  obtain ⟨h1, h2⟩ := w_list h
  refine ⟨vb_of l fun x hx => (h2 x hx).1, List.length_map _, h1, fun b hb => ?_⟩
  obtain ⟨x, hx, rfl⟩ := List.mem_map.mp hb
  have := h2 x hx
  omega
theorem nat_int {z hi : Int} (h : Codec.inInt 0 hi z = true) : V.int z = V.int ((z.toNat : Nat) : Int) := by
  rw [Int.toNat_of_nonneg (w_int h).1]
theorem ansV_dw {K : PySem.W.Frag} {H : Hp} (a : Ql67.Ans) : DwAll K H (ansV a) ((a.value :: Ql67Neutral.ints a.bytes).map WData.int) := by
  have e : ansV a = (a.value :: Ql67Neutral.ints a.bytes).map V.int := by
    unfold ansV
    rw [vb_ints, List.map_cons]
    rfl
  rw [e]
  exact dw_ints _
end Th
namespace Th
open PySem PySem.Spec PyProof.Rows L2
theorem all_mk {P : Program} {w : World} {K : PySem.W.Frag} {h : Heap} {mg : Str → Option Value} {fa f1 f2 f3 f4 f5 f6 f7 : Addr} (X : K.In h) (G : h.Ns mainGlobals mg) (hfa : mg "tk_ask" = some (.ref fa))
    {od1 an1 od2 an2 od3 an3 od4 an4 od5 an5 od6 an6 od7 an7 : Option Addr} {sl1 sl2 sl3 sl4 sl5 sl6 sl7 : Array (Option Value)} {oc1 kV1 dc1 pm1 cd1 ct1 oc2 kV2 dc2 pm2 cd2 ct2 oc3 kV3 dc3 pm3 cd3 ct3 oc4 kV4 dc4 pm4 cd4 ct4 oc5 kV5 dc5 pm5 cd5 ct5 oc6 kV6 dc6 pm6 cd6 ct6 oc7 kV7 dc7 pm7 cd7 ct7 : Value}
    {t_ASKED t_MOST_NAME t_TIME_BYTES t_LIFE_BYTES t_POINT t_HYPHEN t_NOT_AS_TOLD : Tok}
    (a1 : PySem.W.nsIn K mainGlobals "high_first" = some (some (.ref f1)))
    (l1 : K.lookup f1 = some ⟨oc1, od1, .func (PySem.W.fnOf "high_first" "high_first" (defArgs s_high_first) (defBody s_high_first) (defScope s_high_first) .none kV1 dc1 pm1 an1 cd1 ct1), sl1⟩) (c1 : PySem.W.codeIn K cd1 "high_first" = true) (k1 : PySem.W.keepIn K (.ref f1) = true)
    (a2 : PySem.W.nsIn K mainGlobals "is_name_byte" = some (some (.ref f2)))
    (l2 : K.lookup f2 = some ⟨oc2, od2, .func (PySem.W.fnOf "is_name_byte" "is_name_byte" (defArgs s_is_name_byte) (defBody s_is_name_byte) (defScope s_is_name_byte) .none kV2 dc2 pm2 an2 cd2 ct2), sl2⟩) (c2 : PySem.W.codeIn K cd2 "is_name_byte" = true) (k2 : PySem.W.keepIn K (.ref f2) = true)
    (a3 : PySem.W.nsIn K mainGlobals "is_name" = some (some (.ref f3)))
    (l3 : K.lookup f3 = some ⟨oc3, od3, .func (PySem.W.fnOf "is_name" "is_name" (defArgs s_is_name) (defBody s_is_name) (defScope s_is_name) .none kV3 dc3 pm3 an3 cd3 ct3), sl3⟩) (c3 : PySem.W.codeIn K cd3 "is_name" = true) (k3 : PySem.W.keepIn K (.ref f3) = true)
    (a4 : PySem.W.nsIn K mainGlobals "name_told" = some (some (.ref f4)))
    (l4 : K.lookup f4 = some ⟨oc4, od4, .func (PySem.W.fnOf "name_told" "name_told" (defArgs s_name_told) (defBody s_name_told) (defScope s_name_told) .none kV4 dc4 pm4 an4 cd4 ct4), sl4⟩) (c4 : PySem.W.codeIn K cd4 "name_told" = true) (k4 : PySem.W.keepIn K (.ref f4) = true)
    (a5 : PySem.W.nsIn K mainGlobals "time_told" = some (some (.ref f5)))
    (l5 : K.lookup f5 = some ⟨oc5, od5, .func (PySem.W.fnOf "time_told" "time_told" (defArgs s_time_told) (defBody s_time_told) (defScope s_time_told) .none kV5 dc5 pm5 an5 cd5 ct5), sl5⟩) (c5 : PySem.W.codeIn K cd5 "time_told" = true) (k5 : PySem.W.keepIn K (.ref f5) = true)
    (a6 : PySem.W.nsIn K mainGlobals "with_length" = some (some (.ref f6)))
    (l6 : K.lookup f6 = some ⟨oc6, od6, .func (PySem.W.fnOf "with_length" "with_length" (defArgs s_with_length) (defBody s_with_length) (defScope s_with_length) .none kV6 dc6 pm6 an6 cd6 ct6), sl6⟩) (c6 : PySem.W.codeIn K cd6 "with_length" = true) (k6 : PySem.W.keepIn K (.ref f6) = true)
    (a7 : PySem.W.nsIn K mainGlobals "tk_ask" = some (some (.ref f7)))
    (l7 : K.lookup f7 = some ⟨oc7, od7, .func (PySem.W.fnOf "tk_ask" "tk_ask" (defArgs s_tk_ask) (defBody s_tk_ask) (defScope s_tk_ask) .none kV7 dc7 pm7 an7 cd7 ct7), sl7⟩) (c7 : PySem.W.codeIn K cd7 "tk_ask" = true) (k7 : PySem.W.keepIn K (.ref f7) = true)
    (z_all : PySem.W.nsIn K mainGlobals "all" = some none)
    (z_len : PySem.W.nsIn K mainGlobals "len" = some none)
    (z_list : PySem.W.nsIn K mainGlobals "list" = some none)
    (z_range : PySem.W.nsIn K mainGlobals "range" = some none)
    (g_ASKED : PySem.W.nsIn K mainGlobals "ASKED" = some (some (.int 1 t_ASKED)))
    (g_MOST_NAME : PySem.W.nsIn K mainGlobals "MOST_NAME" = some (some (.int 32 t_MOST_NAME)))
    (g_TIME_BYTES : PySem.W.nsIn K mainGlobals "TIME_BYTES" = some (some (.int 8 t_TIME_BYTES)))
    (g_LIFE_BYTES : PySem.W.nsIn K mainGlobals "LIFE_BYTES" = some (some (.int 4 t_LIFE_BYTES)))
    (g_POINT : PySem.W.nsIn K mainGlobals "POINT" = some (some (.int 46 t_POINT)))
    (g_HYPHEN : PySem.W.nsIn K mainGlobals "HYPHEN" = some (some (.int 45 t_HYPHEN)))
    (g_NOT_AS_TOLD : PySem.W.nsIn K mainGlobals "NOT_AS_TOLD" = some (some (.int (-2) t_NOT_AS_TOLD)))
    : ∃ fd : FuncData, (∀ (s : Shared) (us : List Value), us.length = (["nonce", "life", "client", "service"] : List Str).length → BindsTo s fd ⟨us, []⟩ ((["nonce", "life", "client", "service"] : List Str).zip us)) ∧ ∀ base : Heap, K.In base → base.Ns mainGlobals mg → FnOk P w K mg base CX0 3 fa fd ["nonce", "life", "client", "service"] ((sp_tk_ask K)) := by
  have e := hfa.symm.trans (PySem.W.mg_of X G a7)
  cases e
  have T : Txt K mg := ⟨PySem.W.mg_none_of X G z_all, PySem.W.mg_none_of X G z_len, PySem.W.mg_none_of X G z_list, PySem.W.mg_none_of X G z_range, ⟨_, PySem.W.mg_of X G g_ASKED, ⟨_, rfl⟩⟩, ⟨_, PySem.W.mg_of X G g_MOST_NAME, ⟨_, rfl⟩⟩, ⟨_, PySem.W.mg_of X G g_TIME_BYTES, ⟨_, rfl⟩⟩, ⟨_, PySem.W.mg_of X G g_LIFE_BYTES, ⟨_, rfl⟩⟩, ⟨_, PySem.W.mg_of X G g_POINT, ⟨_, rfl⟩⟩, ⟨_, PySem.W.mg_of X G g_HYPHEN, ⟨_, rfl⟩⟩, ⟨_, PySem.W.mg_of X G g_NOT_AS_TOLD, ⟨_, rfl⟩⟩⟩
  have F1 := fun_mk (st := s_high_first) l1 c1 k1
  have F2 := fun_mk (st := s_is_name_byte) l2 c2 k2
  have F3 := fun_mk (st := s_is_name) l3 c3 k3
  have F4 := fun_mk (st := s_name_told) l4 c4 k4
  have F5 := fun_mk (st := s_time_told) l5 c5 k5
  have F6 := fun_mk (st := s_with_length) l6 c6 k6
  have F7 := fun_mk (st := s_tk_ask) l7 c7 k7
  refine ⟨PySem.W.fnOf "tk_ask" "tk_ask" (defArgs s_tk_ask) (defBody s_tk_ask) (defScope s_tk_ask) .none kV7 dc7 pm7 an7 cd7 ct7, fun s us hu => match us, hu with | [_, _, _, _], _ => .of_eq rfl, fun base _ _ => ?_⟩
  have b1 := F1.binds (ps := ["number", "many"]) fun _ _ _ _ _ _ us hl => match us, hl with | [_, _], _ => rfl
  have D1 : Df P w K mg base CX0 1 "high_first" ["number", "many"] (sp_high_first) := ⟨⟨_, _, ok_high_first F1 T, PySem.W.mg_of X G a1, k1, b1⟩⟩
  have b2 := F2.binds (ps := ["byte"]) fun _ _ _ _ _ _ us hl => match us, hl with | [_], _ => rfl
  have D2 : Df P w K mg base CX0 1 "is_name_byte" ["byte"] (sp_is_name_byte) := ⟨⟨_, _, ok_is_name_byte F2 T, PySem.W.mg_of X G a2, k2, b2⟩⟩
  have b3 := F3.binds (ps := ["row"]) fun _ _ _ _ _ _ us hl => match us, hl with | [_], _ => rfl
  have D3 : Df P w K mg base CX0 2 "is_name" ["row"] ((sp_is_name K)) := ⟨⟨_, _, ok_is_name F3 T D2, PySem.W.mg_of X G a3, k3, b3⟩⟩
  have b4 := F4.binds (ps := ["name"]) fun _ _ _ _ _ _ us hl => match us, hl with | [_], _ => rfl
  have D4 : Df P w K mg base CX0 1 "name_told" ["name"] ((sp_name_told K)) := ⟨⟨_, _, ok_name_told F4 T, PySem.W.mg_of X G a4, k4, b4⟩⟩
  have b5 := F5.binds (ps := ["number"]) fun _ _ _ _ _ _ us hl => match us, hl with | [_], _ => rfl
  have D5 : Df P w K mg base CX0 2 "time_told" ["number"] (sp_time_told) := ⟨⟨_, _, ok_time_told F5 T D1, PySem.W.mg_of X G a5, k5, b5⟩⟩
  have b6 := F6.binds (ps := ["row"]) fun _ _ _ _ _ _ us hl => match us, hl with | [_], _ => rfl
  have D6 : Df P w K mg base CX0 1 "with_length" ["row"] ((sp_with_length K)) := ⟨⟨_, _, ok_with_length F6 T, PySem.W.mg_of X G a6, k6, b6⟩⟩
  exact ok_tk_ask F7 T D3 D4 D5 D1 D6
end Th
open PySem PySem.W PyProof.Rows
set_option maxRecDepth 100000 in
set_option maxHeartbeats 16000000 in
theorem PySem.Challenge.cw_trusthouse_s02_tk_ask_holds : PySem.Challenge.rw_trusthouse_s02_tk_ask.Holds := by
  w_on; k_headS; (case hw => exact ⟨[.int 0, .int 0, .list [], .list []], by decide +kernel, by decide +kernel⟩)
  k_fillS
  refine L2.walk_specK (r := PySem.Challenge.rw_trusthouse_s02_tk_ask) (k := 3) (CX := L2.CX0) (ps := ["nonce", "life", "client", "service"]) (sp := Th.sp_tk_ask) (by decide +kernel) rfl rfl ⟨rfl, by decide, by decide⟩ (fun w h Y => PySem.W.kIn_of Y) ?F ?S (fun _ _ _ _ z => z)
  case F =>
    intro w mg fa h Y KX G hmg
    refine' Th.all_mk KX G hmg ?a1 ?l1 ?c1 ?k1 ?a2 ?l2 ?c2 ?k2 ?a3 ?l3 ?c3 ?k3 ?a4 ?l4 ?c4 ?k4 ?a5 ?l5 ?c5 ?k5 ?a6 ?l6 ?c6 ?k6 ?a7 ?l7 ?c7 ?k7 ?z_all ?z_len ?z_list ?z_range ?g_ASKED ?g_MOST_NAME ?g_TIME_BYTES ?g_LIFE_BYTES ?g_POINT ?g_HYPHEN ?g_NOT_AS_TOLD
    (case a1 => k_is)
    (case l1 => k_is)
    (case c1 => k_is)
    (case k1 => k_is)
    (case a2 => k_is)
    (case l2 => k_is)
    (case c2 => k_is)
    (case k2 => k_is)
    (case a3 => k_is)
    (case l3 => k_is)
    (case c3 => k_is)
    (case k3 => k_is)
    (case a4 => k_is)
    (case l4 => k_is)
    (case c4 => k_is)
    (case k4 => k_is)
    (case a5 => k_is)
    (case l5 => k_is)
    (case c5 => k_is)
    (case k5 => k_is)
    (case a6 => k_is)
    (case l6 => k_is)
    (case c6 => k_is)
    (case k6 => k_is)
    (case a7 => k_is)
    (case l7 => k_is)
    (case c7 => k_is)
    (case k7 => k_is)
    (case z_all => k_is)
    (case z_len => k_is)
    (case z_list => k_is)
    (case z_range => k_is)
    (case g_ASKED => k_is)
    (case g_MOST_NAME => k_is)
    (case g_TIME_BYTES => k_is)
    (case g_LIFE_BYTES => k_is)
    (case g_POINT => k_is)
    (case g_HYPHEN => k_is)
    (case g_NOT_AS_TOLD => k_is)
  case S =>
    intro K H xs a hO hwi hask hx
    obtain ⟨n, f, c, s, u⟩ := a
    cases hx with
    | cons h1 hx =>
      cases hx with
      | cons h2 hx =>
        cases hx with
        | cons h3 hx =>
          cases hx with
          | cons h4 hx =>
            cases hx
            cases h1
            cases h2
            cases h3 with
            | lst hs3 ha3 =>
              cases h4 with
              | lst hs4 ha4 =>
                have e3 := L2.ints_dw c _ ha3
                have e4 := L2.ints_dw s _ ha4
                subst e3 e4
                have q : (Codec.inInt 0 18446744073709551615 n && (Codec.inInt 0 4294967295 f && ((Codec.inLen 0 64 c && c.all (Codec.inInt 0 255)) && ((Codec.inLen 0 64 s && s.all (Codec.inInt 0 255)) && true)))) = true := hwi
                obtain ⟨q1, q⟩ := Th.and2 q
                obtain ⟨q2, q⟩ := Th.and2 q
                obtain ⟨q3, q⟩ := Th.and2 q
                obtain ⟨q4, _⟩ := Th.and2 q
                obtain ⟨v3, l3, m3, _⟩ := Th.w_bytes q3
                obtain ⟨v4, l4, m4, _⟩ := Th.w_bytes q4
                rw [v3] at hs3
                rw [v4] at hs4
                refine ⟨n.toNat, f.toNat, _, _, Ql67Neutral.nats c, Ql67Neutral.nats s, ?_, hs3, hs4, by omega, by omega, fun H' p hp => .lst (Th.lst_of hp) (Th.ansV_dw _)⟩
                show [L2.V.int n, L2.V.int f, _, _] = _
                rw [Th.nat_int q1, Th.nat_int q2]
#print axioms PySem.Challenge.cw_trusthouse_s02_tk_ask_holds
