import PyProof.Rows.All
import Wide.All
import OpenK.AllK
import Wide.FinOn
import Open.SpecLaws
import KE.OsGo
import KE.OsArith
import HandS.ForSpec
import HandS.Comp
import HandS.Iter
import HandS.Walk
import HandS.Text
import HandS.CallLocal
import HandS.CallSlots
import HandS.TryMany
import PySem.Challenge.RW_trusthouse_s03_tk_open
set_option Elab.async false
set_option linter.all false
set_option maxRecDepth 100000
set_option maxHeartbeats 4000000
namespace Th
open Ql67
/-! ### bytes of a number -/
theorem be_length : ∀ k n, (be k n).length = k
  | 0, _ => rfl
  | k + 1, n => by
    show (be k (n / 256) ++ [n % 256]).length = k + 1
    rw [List.length_append, be_length k, List.length_singleton]
theorem be_lt : ∀ k n b, b ∈ be k n → b < 256
  | 0, _, b, h => by cases h
  | k + 1, n, b, h => by
    have h' : b ∈ be k (n / 256) ++ [n % 256] := h
    rcases List.mem_append.mp h' with q | q
    · exact be_lt k _ b q
    · rw [List.mem_singleton.mp q]
      exact Nat.mod_lt _ (by decide)
theorem be_get : ∀ k n i, i < k → (be k n)[i]? = some (n / 2 ^ (8 * (k - 1 - i)) % 256)
  | 0, _, i, h => absurd h (Nat.not_lt_zero i)
  | k + 1, n, i, h => by
    show (be k (n / 256) ++ [n % 256])[i]? = _
    by_cases c : i < k
    · rw [List.getElem?_append_left (by rw [be_length]; exact c), be_get k _ i c, Nat.div_div_eq_div_mul]
      have e : 256 * 2 ^ (8 * (k - 1 - i)) = 2 ^ (8 * (k + 1 - 1 - i)) := by
        have e1 : k + 1 - 1 - i = (k - 1 - i) + 1 := by omega
        rw [e1, Nat.mul_add, Nat.pow_add, Nat.mul_comm]
      rw [e]
    · have e : i = k := by omega
      subst e
      rw [List.getElem?_append_right (by rw [be_length]; exact Nat.le_refl _), be_length, Nat.sub_self]
      have e2 : i + 1 - 1 - i = 0 := by omega
      rw [e2]
      simp
theorem num_snoc (l : B) (x : Nat) : num (l ++ [x]) = 256 * num l + x := by
  unfold num
  rw [List.foldl_append]
  rfl
theorem num_be : ∀ k n, n < 2 ^ (8 * k) → num (be k n) = n
  | 0, n, h => by
    have : n = 0 := by
      have : n < 1 := by simpa using h
      omega
    subst this
    rfl
  | k + 1, n, h => by
    show num (be k (n / 256) ++ [n % 256]) = n
    have h2 : n / 256 < 2 ^ (8 * k) := by
      rw [Nat.div_lt_iff_lt_mul (by decide)]
      have e : 2 ^ (8 * k) * 256 = 2 ^ (8 * (k + 1)) := by
        rw [Nat.mul_add, Nat.pow_add]
      rw [e]
      exact h
    rw [num_snoc, num_be k _ h2]
    omega
theorem num_lt : ∀ (l : B), (∀ b, b ∈ l → b < 256) → num l < 2 ^ (8 * l.length) := by
  intro l
  have gen : ∀ (n : Nat) (l : B), l.length = n → (∀ b, b ∈ l → b < 256) → num l < 2 ^ (8 * l.length) := by
    intro n
    induction n with
    | zero =>
      intro l hl _
      have : l = [] := List.eq_nil_of_length_eq_zero hl
      subst this
      decide
    | succ n ih =>
      intro l hl hb
      obtain ⟨r, x, rfl⟩ : ∃ r x, l = r ++ [x] := by
        have hne : l ≠ [] := by intro e; rw [e] at hl; cases hl
        exact ⟨l.dropLast, l.getLast hne, (List.dropLast_concat_getLast hne).symm⟩
      have hr : r.length = n := by rw [List.length_append, List.length_singleton] at hl; omega
      have h1 := ih r hr (fun b q => hb b (List.mem_append_left _ q))
      have h2 := hb x (List.mem_append_right _ (List.mem_singleton.mpr rfl))
      rw [num_snoc, List.length_append, List.length_singleton, Nat.mul_add, Nat.pow_add]
      have e : (2 : Nat) ^ (8 * 1) = 256 := by decide
      rw [e]
      omega
  exact gen l.length l rfl
/-! ### E -/
theorem W_eq : W = 4294967296 := by decide
theorem rounds_more (n : Nat) (k : List Nat) (s a b : Nat) : rounds (n + 1) k s a b =
    rounds n k ((s + 0x9E3779B9) % W) ((a + mix b s (k.getD (s % 4) 0)) % W)
      ((b + mix ((a + mix b s (k.getD (s % 4) 0)) % W) ((s + 0x9E3779B9) % W) (k.getD (((s + 0x9E3779B9) % W) / 2048 % 4) 0)) % W) := rfl
theorem rounds_lt : ∀ (n : Nat) (k : List Nat) (s a b : Nat), a < W → b < W → (rounds n k s a b).1 < W ∧ (rounds n k s a b).2 < W
  | 0, _, _, _, _, ha, hb => ⟨ha, hb⟩
  | n + 1, k, s, a, b, _, _ => by
    rw [rounds_more]
    exact rounds_lt n _ _ _ _ (Nat.mod_lt _ (by decide)) (Nat.mod_lt _ (by decide))
def words (k : B) : List Nat := (List.range 4).map fun i => num ((k.drop (4 * i)).take 4)
theorem words_len (k : B) : (words k).length = 4 := by
  unfold words
  rw [List.length_map, List.length_range]
theorem block_eq (k : B) {x : Nat} (hx : x < 2 ^ 64) : block k x = (rounds 32 (words k) 0 (x / W) (x % W)).1 * W + (rounds 32 (words k) 0 (x / W) (x % W)).2 := by
  have e : x / W % W = x / W := Nat.mod_eq_of_lt (by
    rw [Nat.div_lt_iff_lt_mul (by decide)]
    exact hx)
  unfold block
  rw [e]
  rfl
theorem block_lt (k : B) (x : Nat) : block k x < 2 ^ 64 := by
  have h := rounds_lt 32 (words k) 0 (x / W % W) (x % W) (Nat.mod_lt _ (by decide)) (Nat.mod_lt _ (by decide))
  have e : block k x = (rounds 32 (words k) 0 (x / W % W) (x % W)).1 * W + (rounds 32 (words k) 0 (x / W % W) (x % W)).2 := rfl
  rw [e]
  rw [W_eq] at *
  have : (2 : Nat) ^ 64 = 4294967296 * 4294967296 := by decide
  rw [this]
  omega
/-! ### the sum -/
def chunk (l : B) (i : Nat) : Nat := num ((l.drop (8 * i)).take 8)
def padOf (n : Nat) : Nat := (8 - n % 8) % 8
def rowOf (m : B) : B := be 8 m.length ++ m ++ List.replicate (padOf m.length) 0
theorem rowOf_length (m : B) : (rowOf m).length = 8 * ((m.length + padOf m.length) / 8 + 1) := by
  unfold rowOf padOf
  rw [List.length_append, List.length_append, be_length, List.length_replicate]
  omega
theorem eights_nil (f : Nat) : eights f [] = [] := by
  cases f with
  | zero => rfl
  | succ f => simp [eights]
theorem eights_chunks : ∀ (c f : Nat) (l : B) (pad : Nat), l.length + pad = 8 * c → pad < 8 → c ≤ f → eights f l = (List.range c).map (chunk (l ++ List.replicate pad 0))
  | 0, f, l, pad, h, _, _ => by
    have : l = [] := List.eq_nil_of_length_eq_zero (by omega)
    subst this
    rw [eights_nil]
    rfl
  | c + 1, 0, l, pad, _, _, hf => by omega
  | c + 1, f + 1, l, pad, h, hp, hf => by
    have hne : l ≠ [] := by
      intro e
      subst e
      simp at h
      omega
    have e0 : eights (f + 1) l = num (l.take 8 ++ List.replicate (8 - (l.take 8).length) 0) :: eights f (l.drop 8) := by
      simp [eights, hne]
    rw [e0, List.range_succ_eq_map, List.map_cons, List.map_map]
    by_cases c8 : 8 ≤ l.length
    · have e1 : chunk (l ++ List.replicate pad 0) 0 = num (l.take 8 ++ List.replicate (8 - (l.take 8).length) 0) := by
        unfold chunk
        rw [Nat.mul_zero, List.drop_zero, List.take_append_of_le_length c8, List.length_take, Nat.min_eq_left c8, Nat.sub_self]
        simp
      have e2 : eights f (l.drop 8) = (List.range c).map (chunk (l.drop 8 ++ List.replicate pad 0)) :=
        eights_chunks c f (l.drop 8) pad (by rw [List.length_drop]; omega) hp (by omega)
      rw [e1, e2]
      congr 1
      apply List.map_congr_left
      intro i _
      show chunk (l.drop 8 ++ List.replicate pad 0) i = chunk (l ++ List.replicate pad 0) (i + 1)
      unfold chunk
      rw [Nat.mul_add, Nat.mul_one, Nat.add_comm (8 * i) 8, ← List.drop_drop, List.drop_append_of_le_length c8]
    · have hc : c = 0 := by omega
      subst hc
      have hl8 : l.take 8 = l := List.take_of_length_le (by omega)
      have hd8 : l.drop 8 = [] := List.drop_eq_nil_of_le (by omega)
      rw [hl8, hd8, eights_nil]
      have e1 : chunk (l ++ List.replicate pad 0) 0 = num (l ++ List.replicate (8 - l.length) 0) := by
        unfold chunk
        have : 8 - l.length = pad := by omega
        rw [Nat.mul_zero, List.drop_zero, this, List.take_of_length_le]
        rw [List.length_append, List.length_replicate]
        omega
      rw [e1]
      rfl
/-- what the loop over eights has behind c turns -/
def sumTo (k m : B) (c : Nat) : Nat := (List.range c).foldl (fun h j => block (key1 k) (h ^^^ chunk (rowOf m) j)) 0
theorem sumTo_succ (k m : B) (c : Nat) : sumTo k m (c + 1) = block (key1 k) (sumTo k m c ^^^ chunk (rowOf m) c) := by
  unfold sumTo
  rw [List.range_succ, List.foldl_append]
  rfl
theorem sumTo_lt (k m : B) (c : Nat) : sumTo k m c < 2 ^ 64 := by
  cases c with
  | zero =>
    show (0 : Nat) < 2 ^ 64
    decide
  | succ c =>
    rw [sumTo_succ]
    exact block_lt _ _
theorem foldl_map' {α β γ : Type} (f : γ → β → γ) (g : α → β) : ∀ (l : List α) (z : γ), (l.map g).foldl f z = l.foldl (fun h x => f h (g x)) z
  | [], _ => rfl
  | x :: r, z => foldl_map' f g r (f z (g x))
theorem sum_eq (k m : B) (hm : m.length < 2 ^ 64) : sumTo k m ((rowOf m).length / 8) = sum k m := by
  have hpad : padOf m.length < 8 := Nat.mod_lt _ (by decide)
  have hd : m.length + padOf m.length = 8 * ((m.length + padOf m.length) / 8) := by
    unfold padOf
    omega
  have e1 : (rowOf m).length / 8 = (m.length + padOf m.length) / 8 + 1 := by
    rw [rowOf_length, Nat.mul_div_cancel_left _ (by decide)]
  have e2 : eights (m.length + 1) m = (List.range ((m.length + padOf m.length) / 8)).map (chunk (m ++ List.replicate (padOf m.length) 0)) :=
    eights_chunks _ _ _ _ hd hpad (by omega)
  have e3 : m.length :: eights (m.length + 1) m = (List.range ((m.length + padOf m.length) / 8 + 1)).map (chunk (rowOf m)) := by
    rw [e2, List.range_succ_eq_map, List.map_cons, List.map_map]
    have c0 : chunk (rowOf m) 0 = m.length := by
      unfold chunk rowOf
      rw [Nat.mul_zero, List.drop_zero, List.append_assoc, List.take_append_of_le_length (by rw [be_length]; exact Nat.le_refl _), List.take_of_length_le (by rw [be_length]; exact Nat.le_refl _)]
      exact num_be 8 _ hm
    rw [c0]
    refine congrArg (List.cons _) (List.map_congr_left fun i _ => ?_)
    show chunk (m ++ List.replicate (padOf m.length) 0) i = chunk (rowOf m) (i + 1)
    unfold chunk rowOf
    rw [Nat.mul_add, Nat.mul_one, Nat.add_comm (8 * i) 8, ← List.drop_drop, List.append_assoc (be 8 m.length), List.drop_append_of_le_length (l₁ := be 8 m.length) (by rw [be_length]; exact Nat.le_refl _)]
    rw [List.drop_of_length_le (l := be 8 m.length) (by rw [be_length]; exact Nat.le_refl _), List.nil_append]
  unfold sum
  rw [e3, foldl_map', e1]
  rfl
/-! ### the stream -/
theorem flat8_drop (f : Nat → B) (hf : ∀ i, (f i).length = 8) : ∀ (c i : Nat), i < c → ((((List.range c).flatMap f).drop (8 * i)).take 8) = f i := by
  intro c
  have gen : ∀ (i : Nat) (l : List Nat) (x : Nat), l[i]? = some x → (((l.flatMap f).drop (8 * i)).take 8) = f x := by
    intro i
    induction i with
    | zero =>
      intro l x h
      cases l with
      | nil => simp at h
      | cons a r =>
        have : a = x := by simpa using h
        subst this
        rw [Nat.mul_zero, List.drop_zero, List.flatMap_cons, List.take_append_of_le_length (by rw [hf]; exact Nat.le_refl _), List.take_of_length_le (by rw [hf]; exact Nat.le_refl _)]
    | succ i ih =>
      intro l x h
      cases l with
      | nil => simp at h
      | cons a r =>
        have h' : r[i]? = some x := by simpa using h
        rw [List.flatMap_cons, Nat.mul_add, Nat.mul_one, Nat.add_comm (8 * i) 8, ← List.drop_drop, List.drop_append_of_le_length (by rw [hf]; exact Nat.le_refl _), List.drop_of_length_le (l := f a) (by rw [hf]; exact Nat.le_refl _), List.nil_append]
        exact ih r x h'
  intro i hi
  exact gen i (List.range c) i (by simp [hi])
theorem flat8_length (f : Nat → B) (hf : ∀ i, (f i).length = 8) (c : Nat) : ((List.range c).flatMap f).length = 8 * c := by
  have gen : ∀ l : List Nat, (l.flatMap f).length = 8 * l.length := by
    intro l
    induction l with
    | nil => rfl
    | cons a r ih =>
      rw [List.flatMap_cons, List.length_append, hf, ih, List.length_cons]
      omega
  rw [gen, List.length_range]
def eightAt (k : B) (tag i : Nat) : B := be 8 (block (key2 k) ((tag + i) % 2 ^ 64))
theorem stream_length (k : B) (tag n : Nat) : (stream k tag n).length = n := by
  unfold stream
  rw [List.length_take, flat8_length _ (fun i => be_length 8 _)]
  omega
theorem veiled_length (k : B) (tag : Nat) (m : B) : (veiled k tag m).length = m.length := by
  unfold veiled
  rw [List.length_zipWith, stream_length, Nat.min_self]
theorem zipWith_take_right {α β γ : Type} (f : α → β → γ) : ∀ (a : List α) (b : List β) (j : Nat), a.length ≤ j → List.zipWith f a (b.take j) = List.zipWith f a b
  | [], b, j, _ => by simp
  | x :: a, [], j, _ => by simp
  | x :: a, y :: b, 0, h => by simp at h
  | x :: a, y :: b, j + 1, h => by
    rw [List.take_succ_cons, List.zipWith_cons_cons, List.zipWith_cons_cons, zipWith_take_right f a b j (by simpa using h)]
theorem veiled_chunk (k : B) (tag : Nat) (m : B) (i : Nat) (hi : 8 * i ≤ m.length) : ((veiled k tag m).drop (8 * i)).take 8 = List.zipWith (fun (a b : Nat) => a ^^^ b) ((m.drop (8 * i)).take 8) (eightAt k tag i) := by
  unfold veiled stream
  rw [List.drop_zipWith, List.take_zipWith, List.drop_take, List.take_take, Nat.min_comm 8, ← List.take_take]
  rw [flat8_drop _ (fun i => be_length 8 _) _ i (by omega)]
  have := zipWith_take_right (fun (a b : Nat) => a ^^^ b) ((m.drop (8 * i)).take 8) (eightAt k tag i) (m.length - 8 * i) (by rw [List.length_take, List.length_drop]; omega)
  exact this
theorem veiled_more (k : B) (tag : Nat) (m : B) (i : Nat) (hi : 8 * i ≤ m.length) : (veiled k tag m).take (8 * (i + 1)) = (veiled k tag m).take (8 * i) ++ List.zipWith (fun (a b : Nat) => a ^^^ b) ((m.drop (8 * i)).take 8) (eightAt k tag i) := by
  rw [Nat.mul_add, Nat.mul_one, List.take_add, veiled_chunk k tag m i hi]
theorem sum_lt (k m : B) (hm : m.length < 2 ^ 64) : sum k m < 2 ^ 64 := by
  rw [← sum_eq k m hm]
  exact sumTo_lt _ _ _
theorem xor_lt {a b n : Nat} (ha : a < 2 ^ n) (hb : b < 2 ^ n) : a ^^^ b < 2 ^ n := Nat.xor_lt_two_pow ha hb
theorem veiled_lt (k : B) (tag : Nat) (m : B) (hm : ∀ b, b ∈ m → b < 256) : ∀ b, b ∈ veiled k tag m → b < 256 := by
  intro b hb
  unfold veiled at hb
  obtain ⟨i, hi, rfl⟩ := List.mem_iff_getElem.mp hb
  have hi2 := hi
  rw [List.length_zipWith] at hi2
  have hm1 : i < m.length := by omega
  have hm2 : i < (stream k tag m.length).length := by omega
  rw [List.getElem_zipWith]
  have h1 := hm _ (List.getElem_mem (l := m) hm1)
  have hs : ∀ x, x ∈ stream k tag m.length → x < 256 := by
    intro x hx
    unfold stream at hx
    obtain ⟨j, _, hj⟩ := List.mem_flatMap.mp (List.mem_of_mem_take hx)
    exact be_lt _ _ _ hj
  have h2 := hs _ (List.getElem_mem (l := stream k tag m.length) hm2)
  exact xor_lt (n := 8) h1 h2
end Th
namespace Th
open PySem PySem.Spec PyProof.Rows L2
/-! ### lists of bytes as values -/
def vb (l : List Nat) : List V := l.map fun (n : Nat) => V.int (n : Int)
theorem vb_length (l : List Nat) : (vb l).length = l.length := List.length_map _
theorem vb_append (a b : List Nat) : vb (a ++ b) = vb a ++ vb b := List.map_append
theorem vb_take (l : List Nat) (n : Nat) : vb (l.take n) = (vb l).take n := List.map_take
theorem vb_drop (l : List Nat) (n : Nat) : vb (l.drop n) = (vb l).drop n := List.map_drop
theorem vb_get {l : List Nat} {i : Nat} {n : Nat} (h : l[i]? = some n) : (vb l)[i]? = some (.int (n : Int)) := by
  unfold vb
  rw [List.getElem?_map, h]
  rfl
theorem vb_at {l : List Nat} {i : Nat} {x : V} (h : (vb l)[i]? = some x) : ∃ n : Nat, l[i]? = some n ∧ x = .int (n : Int) := by
  unfold vb at h
  rw [List.getElem?_map] at h
  cases e : l[i]? with
  | none =>
    rw [e] at h
    cases h
  | some n =>
    rw [e] at h
    exact ⟨n, rfl, (Option.some.inj h).symm⟩
theorem vb_more {l : List Nat} {i : Nat} {n : Nat} (h : l[i]? = some n) : vb (l.take (i + 1)) = vb (l.take i) ++ [.int (n : Int)] := by
  have e : l.take (i + 1) = l.take i ++ [n] := by
    rw [List.take_add_one, h]
    rfl
  rw [e, vb_append]
  rfl
theorem vb_ints (l : List Nat) : vb l = (l.map fun (x : Nat) => (x : Int)).map V.int := by
  unfold vb
  rw [List.map_map]
  rfl
theorem vb_of (l : List Int) (h : ∀ x ∈ l, 0 ≤ x) : l.map V.int = vb (l.map Int.toNat) := by
  unfold vb
  rw [List.map_map]
  refine List.map_congr_left fun x hx => ?_
  show V.int x = V.int ((x.toNat : Nat) : Int)
  rw [Int.toNat_of_nonneg (h x hx)]
theorem vb_inj : ∀ {a b : List Nat}, vb a = vb b → a = b
  | [], [], _ => rfl
  | [], _ :: _, h => by cases h
  | _ :: _, [], h => by cases h
  | x :: a, y :: b, h => by
    have h' : V.int (x : Int) :: vb a = V.int (y : Int) :: vb b := h
    injection h' with h1 h2
    injection h1 with h3
    have e : x = y := by omega
    rw [e, vb_inj h2]
/-- x[a:b] by numbers -/
theorem cut_nat (xs : List V) (a b : Nat) : cutV xs (some (a : Int)) (some (b : Int)) = (xs.drop a).take (b - a) := by
  unfold cutV
  rw [HT.sIx_nat, HT.sIx_nat]
  by_cases h : a ≤ xs.length
  · rw [Nat.min_eq_left h]
    by_cases h2 : b ≤ xs.length
    · rw [Nat.min_eq_left h2]
    · have e1 : (xs.drop a).take (xs.length - a) = xs.drop a := List.take_of_length_le (by rw [List.length_drop]; exact Nat.le_refl _)
      have e2 : (xs.drop a).take (b - a) = xs.drop a := List.take_of_length_le (by rw [List.length_drop]; omega)
      rw [Nat.min_eq_right (by omega : xs.length ≤ b), e1, e2]
  · have e1 : xs.drop a = [] := List.drop_of_length_le (by omega)
    have e2 : xs.drop xs.length = [] := List.drop_of_length_le (Nat.le_refl _)
    rw [Nat.min_eq_right (by omega : xs.length ≤ a), e1, e2, List.take_nil, List.take_nil]
theorem cut_to (xs : List V) (b : Nat) : cutV xs none (some (b : Int)) = xs.take b := by
  unfold cutV
  rw [HT.sIx_nat, HT.sIx_none, List.drop_zero, Nat.sub_zero]
  by_cases h2 : b ≤ xs.length
  · rw [Nat.min_eq_left h2]
  · have e1 : xs.take xs.length = xs := List.take_length
    have e2 : xs.take b = xs := List.take_of_length_le (by omega)
    rw [Nat.min_eq_right (by omega : xs.length ≤ b), e1, e2]
theorem cut_from (xs : List V) (a : Nat) : cutV xs (some (a : Int)) none = xs.drop a := by
  unfold cutV
  rw [HT.sIx_nat, HT.sIx_none]
  by_cases h : a ≤ xs.length
  · have e1 : (xs.drop a).take (xs.length - a) = xs.drop a := List.take_of_length_le (by rw [List.length_drop]; exact Nat.le_refl _)
    rw [Nat.min_eq_left h, e1]
  · have e1 : xs.drop a = [] := List.drop_of_length_le (by omega)
    have e2 : xs.drop xs.length = [] := List.drop_of_length_le (Nat.le_refl _)
    rw [Nat.min_eq_right (by omega : xs.length ≤ a), e1, e2, List.take_nil]
/-- x[a:a + n] of bytes -/
theorem cut_vb (l : List Nat) {u v : Int} {a n : Nat} (hu : u = (a : Int)) (hv : v = ((a + n : Nat) : Int)) : cutV (vb l) (some u) (some v) = vb ((l.drop a).take n) := by
  have e : a + n - a = n := by omega
  rw [hu, hv, cut_nat, e, vb_take, vb_drop]
theorem fits (x : Int) (h1 : -1000000 ≤ x) (h2 : x ≤ 1000000) : Builtin.Range.rangeFitsLong x = true := by
  have e1 : (-(2 ^ 63) : Int) = -9223372036854775808 := by decide
  have e2 : (2 ^ 63 : Int) = 9223372036854775808 := by decide
  have e : Builtin.Range.rangeFitsLong x = (decide (-(2 ^ 63) ≤ x) && decide (x < 2 ^ 63)) := rfl
  rw [e, e1, e2, decide_eq_true (show (-9223372036854775808 : Int) ≤ x by omega), decide_eq_true (show x < (9223372036854775808 : Int) by omega)]
  rfl
/-- range(0, 8 * c, 8) -/
theorem rg8 (n c : Nat) (h : n = 8 * c ∨ (n < 8 * c ∧ 8 * c < n + 8)) (hn : n ≤ 100000) : RgC 0 (n : Int) 8 c := by
  have hs : Builtin.Range.rangeSize 0 (n : Int) 8 = (c : Int) := by
    unfold Builtin.Range.rangeSize
    rw [if_pos (by decide)]
    by_cases h0 : (0 : Int) < (n : Int)
    · rw [if_pos h0]
      omega
    · rw [if_neg h0]
      omega
  refine ⟨by decide, by decide, ?_, hs⟩
  unfold Builtin.Range.small
  rw [hs, fits (n : Int) (by omega) (by omega), fits (c : Int) (by omega) (by omega), if_pos (by decide), fits ((n : Int) + (8 - 1)) (by omega) (by omega), Bool.or_true]
  decide
/-! ### numbers -/
theorem i_xor (a b : Nat) : Builtin.bitXor (a : Int) (b : Int) = ((a ^^^ b : Nat) : Int) := by
  rw [Bits.bitXor_pp (Int.natCast_nonneg a) (Int.natCast_nonneg b), Int.toNat_natCast, Int.toNat_natCast]
theorem i_and (a b : Nat) : Builtin.bitAnd (a : Int) (b : Int) = ((a &&& b : Nat) : Int) := PySem.W.os_band a b
theorem i_mod (a b : Nat) (h : 0 < b) : Int.fmod (a : Int) (b : Int) = ((a % b : Nat) : Int) := PySem.W.os_fmod_nat a b h
theorem i_div (a b : Nat) (h : 0 < b) : Int.fdiv (a : Int) (b : Int) = ((a / b : Nat) : Int) := PySem.W.os_fdiv_nat a b h
theorem i_shr (a k : Nat) : (a : Int) / 2 ^ ((k : Int)).toNat = ((a / 2 ^ k : Nat) : Int) := by
  rw [Int.toNat_natCast, Int.natCast_ediv, Int.natCast_pow]
  rfl
theorem i_shl (a k : Nat) : (a : Int) * 2 ^ ((k : Int)).toNat = ((a * 2 ^ k : Nat) : Int) := by
  rw [Int.toNat_natCast, Int.natCast_mul, Int.natCast_pow]
  rfl
theorem and_255 (a : Nat) : a &&& 255 = a % 256 := Nat.and_two_pow_sub_one_eq_mod a 8
/-! ### heaps -/
theorem same_upd {H : Hp} {p : Addr} {o : HO} (h : H p = none) : Same H (upd H p o) := fun b x e => by
  rw [upd_ne (ne_of_none e h)]
  exact e
/-- one step more: a new object -/
theorem same_new {H H' : Hp} {p : Addr} {o : HO} (s : Same H H') (h : H' p = none) : Same H (upd H' p o) := s.trans (same_upd h)
/-- one step more: an object that is new over H is written -/
theorem same_set {H H' : Hp} {p : Addr} {o : HO} (s : Same H H') (h : H p = none) : Same H (upd H' p o) := fun b x e => by
  rw [upd_ne (ne_of_none e h)]
  exact s b x e
theorem gen_new {H H' : Hp} {p : Addr} {o : HO} (e : upd H p o = H') (h : H p = none) : Same H H' ∧ H' p = some o := by
  subst e
  exact ⟨same_upd h, upd_same⟩
theorem Same.tup {K : PySem.W.Frag} {H H' : Hp} {a : Addr} {xs : List V} (e : Same H H') (h : SqT K H a xs) : SqT K H' a xs := by
  rcases h with (h | ⟨o, h⟩) | h
  · exact .inl (.inl (e _ _ h))
  · exact .inl (.inr ⟨o, e _ _ h⟩)
  · exact .inr h
def SqA (K : PySem.W.Frag) (H : Hp) (a : Addr) (xs : List V) : Prop := SqL K H a xs ∨ SqT K H a xs
theorem Same.any {K : PySem.W.Frag} {H H' : Hp} {a : Addr} {xs : List V} (e : Same H H') (h : SqA K H a xs) : SqA K H' a xs := by
  rcases h with h | h
  · exact .inl (e.seq h)
  · exact .inr (Same.tup e h)
theorem lst_of {K : PySem.W.Frag} {H : Hp} {a : Addr} {xs : List V} (h : H a = some (.lst xs)) : SqL K H a xs := .inl (.inl h)
theorem tup_of {K : PySem.W.Frag} {H : Hp} {a : Addr} {xs : List V} (h : H a = some (.tup xs)) : SqT K H a xs := .inl (.inl h)
/-- a new list comes out -/
def outL (H : Hp) (Q : VK) (l : List Nat) : Prop := ∀ H' p, Same H H' → H p = none → H' p = some (.lst (vb l)) → Q (.ref p) H'
/-- a value comes out, what was tracked stands -/
def outV (H : Hp) (Q : VK) (v : V) : Prop := ∀ H', Same H H' → Q v H'
theorem le_line {n : Nat} (h : n ≤ 100000) : n ≤ sizeLine := Nat.le_trans h (by decide)
theorem lt_line {n : Nat} (h : n ≤ 100000) : n < sizeLine := Nat.lt_of_le_of_lt h (by decide)
/-! ### truth values by parts -/
theorem ev_and {ta tb : TE} {σ : L2.St} {H : Hp} {a b : Bool} (h1 : ∀ Q : VK, Q (.bl a) H → ta σ H Q) (h2 : ∀ Q : VK, Q (.bl b) H → tb σ H Q) : ∀ Q : VK, Q (.bl (a && b)) H → tAndV ta tb σ H Q := by
  intro Q q
  refine h1 _ ⟨a, rfl, ?_⟩
  cases a with
  | true => exact iteT (h2 Q q)
  | false => exact iteF q
theorem ev_or {ta tb : TE} {σ : L2.St} {H : Hp} {a b : Bool} (h1 : ∀ Q : VK, Q (.bl a) H → ta σ H Q) (h2 : ∀ Q : VK, Q (.bl b) H → tb σ H Q) : ∀ Q : VK, Q (.bl (a || b)) H → tOrV ta tb σ H Q := by
  intro Q q
  refine h1 _ ⟨a, rfl, ?_⟩
  cases a with
  | true => exact iteT q
  | false => exact iteF (h2 Q q)
theorem ifB {c : Bool} {A B : Prop} (h1 : c = true → A) (h2 : c = false → B) : if c = true then A else B := by
  cases c with
  | true => exact iteT (h1 rfl)
  | false => exact iteF (h2 rfl)
/-! ### the module's constants, its defs -/
def Glo (mg : Str → Option Value) (x : Str) (v : V) : Prop := ∃ u, mg x = some u ∧ RelV v u
theorem pe_gv {X : Cx} {x : Str} {v : V} {pos : Pos} (h : Glo X.mg x v) (hg : Gl X x := by rfl) (hd : (x == ("__debug__" : Str)) = false := by decide) : PE X (.Name x pos) (tC v) := by
  obtain ⟨u, hm, r⟩ := h
  exact pe_glob hg hm r hd
/-- a def of the module by its name: its promise, where it stands, how its arguments bind -/
structure Df (P : Program) (w : World) (K : PySem.W.Frag) (mg : Str → Option Value) (base : Heap) (CX : CXT) (k : Nat) (x : Str) (ps : List Str) (sp : Sp) : Prop where
  ex : ∃ f fd, FnOk P w K mg base CX k f fd ps sp ∧ mg x = some (.ref f) ∧ PySem.W.keepIn K (.ref f) = true ∧ Binds K fd ps []
theorem pe_callD {X : Cx} {CX : CXT} {k : Nat} {x : Str} {ps : List Str} {sp : Sp} {E : XK} {e : Expr} {es : List Expr} {t : TA} {p pos : Pos} (D : Df X.prog X.w X.K X.mg X.base CX k x ps sp) (hr : Room k X.A) (hx : Passes CX X E) (ha : PA X (e :: es) t) (hg : Gl X x := by rfl)
    (hs : starEach (e :: es) X.env = (false, eval e X.env) :: starEach es X.env := by rfl) (hpl : (backTo pos (starEach es X.env)).any (·.1) = false := by rfl) (hdb : (x == ("__debug__" : Str)) = false := by decide) :
    PE X (.Call (.Name x p) (e :: es) [] pos) (tCall sp [] E t) := by
  obtain ⟨f, fd, F, hm, hk, hb⟩ := D.ex
  exact pe_call F hr hg hm hk hb .nil hx ha hdb hs hpl
end Th
namespace Th
open PySem PySem.Spec PyProof.Rows L2
/-! ### objects, errors -/
/-- all but the object at a stands -/
def KeepB (H H' : Hp) (a : Addr) : Prop := ∀ b o, b ≠ a → H b = some o → H' b = some o
theorem KeepB.refl (H : Hp) (a : Addr) : KeepB H H a := fun _ _ _ h => h
theorem KeepB.trans {H H1 H2 : Hp} {a : Addr} (x : KeepB H H1 a) (y : KeepB H1 H2 a) : KeepB H H2 a := fun b o n h => y b o n (x b o n h)
theorem KeepB.of {H H1 : Hp} {a : Addr} (s : Same H H1) : KeepB H H1 a := fun b o _ h => s b o h
theorem keepB_set {H : Hp} {a : Addr} {o : HO} : KeepB H (upd H a o) a := fun b u n h => by
  rw [upd_ne n]
  exact h
theorem KeepB.same {H0 H H' : Hp} {a : Addr} (s : Same H0 H) (k : KeepB H H' a) (n : H0 a = none) : Same H0 H' := fun b o h => k b o (ne_of_none h n) (s b o h)
theorem KeepB.seq {K : PySem.W.Frag} {H H' : Hp} {a b : Addr} {xs : List V} (k : KeepB H H' a) (hn : ∀ ys, H a ≠ some (.lst ys)) (hf : ∀ o u, H a ≠ some (.frz o u)) (h : SqL K H b xs) : SqL K H' b xs := by
  rcases h with (h | ⟨o, h⟩) | h
  · exact .inl (.inl (k _ _ (fun e => by rw [e] at h; exact hn _ h) h))
  · exact .inl (.inr ⟨o, k _ _ (fun e => by rw [e] at h; exact hf _ _ h) h⟩)
  · exact .inr h
theorem lk_here {k : Str} {v : V} {r : List (Str × V)} : List.lookup k ((k, v) :: r) = some v := by
  have e : (k == k) = true := beq_self_eq_true k
  simp only [List.lookup, e]
theorem lk_past {k g : Str} {v : V} {r : List (Str × V)} (h : (k == g) = false) : List.lookup k ((g, v) :: r) = List.lookup k r := by
  simp only [List.lookup, h]
theorem put_here {f : Str} {v x : V} {r : List (Str × V)} : putF f v ((f, x) :: r) = (f, v) :: r := if_pos rfl
theorem put_past {f g : Str} {v x : V} {r : List (Str × V)} (h : ¬ g = f) : putF f v ((g, x) :: r) = (g, x) :: putF f v r := if_neg h
/-- an error of the class at S is what «except S» names -/
theorem exm_self {K : PySem.W.Frag} {S : Addr} (h1 : PySem.W.subIn K (.ref S) (.type "BaseException") = some true) (h2 : PySem.W.isClsIn K S = true) (h3 : PySem.W.typeIn K (.ref S) = some (.type "type")) (h4 : PySem.W.subIn K (.ref S) (.ref S) = some true) :
    PySem.W.exmOne K (.ref S) (.ref S) = some true := by
  have e1 : (PySem.W.subIn K (.ref S) (.type "BaseException") == some true) = true := by rw [h1] <;> rfl
  have e2 : ((PySem.W.clsIn K S).isSome && PySem.W.typeIn K (.ref S) == some (.type "type")) = true := by
    have h2' : (PySem.W.clsIn K S).isSome = true := h2
    rw [h2', h3] <;> rfl
  show (if (PySem.W.subIn K (.ref S) (.type "BaseException") == some true) = true then (if ((PySem.W.clsIn K S).isSome && PySem.W.typeIn K (.ref S) == some (.type "type")) = true then PySem.W.subIn K (.ref S) (.ref S) else none) else none) = some true
  rw [if_pos e1, if_pos e2]
  exact h4
/-- what the def's own wish of errors takes -/
theorem passX {P : Program} {w : World} {K : PySem.W.Frag} {mg : Str → Option Value} {base : Heap} {N : List Str} {qual : Str} {scope : Scope} {f : Addr} {cd : Value} {A : Around} {outer : List Env} {s : Shared} {H : Hp} {E : XK} :
    Passes (L2.CX P w) (cxOf (L2.CX P w) P w K mg base N qual scope f cd A outer s H E) E := passes_call (takes_of rfl rfl rfl rfl) fun _ _ _ _ h => h
/-- in a try's body: what holds at any slots -/
def WA (W : WX) : XK := fun cls d H => ∀ σ : L2.St, W cls d σ H
theorem passW {X : Cx} {W : WX} (tk : Takes X W) : Passes (L2.CX X.prog X.w) X (WA W) := passes_call tk fun _ _ σ _ h => h σ
/-- a def by its name and address -/
structure DfA (P : Program) (w : World) (K : PySem.W.Frag) (mg : Str → Option Value) (base : Heap) (CX : CXT) (k : Nat) (x : Str) (ps : List Str) (sp : Sp) (f : Addr) : Prop where
  ex : ∃ fd, FnOk P w K mg base CX k f fd ps sp ∧ mg x = some (.ref f) ∧ PySem.W.keepIn K (.ref f) = true ∧ Binds K fd ps []
theorem DfA.df {P : Program} {w : World} {K : PySem.W.Frag} {mg : Str → Option Value} {base : Heap} {CX : CXT} {k : Nat} {x : Str} {ps : List Str} {sp : Sp} {f : Addr} (D : DfA P w K mg base CX k x ps sp f) : Df P w K mg base CX k x ps sp := by
  obtain ⟨fd, h⟩ := D.ex
  exact ⟨f, fd, h⟩
/-- the def as a value -/
theorem pe_fn {X : Cx} {CX : CXT} {k : Nat} {x : Str} {ps : List Str} {sp : Sp} {f : Addr} {pos : Pos} (D : DfA X.prog X.w X.K X.mg X.base CX k x ps sp f) (hg : Gl X x := by rfl) (hd : (x == ("__debug__" : Str)) = false := by decide) : PE X (.Name x pos) (tC (.ref f)) := by
  obtain ⟨fd, _, hm, _⟩ := D.ex
  exact pe_glob hg hm rfl hd
/-- a method of the class at C -/
structure Mt (P : Program) (w : World) (K : PySem.W.Frag) (mg : Str → Option Value) (base : Heap) (CX : CXT) (k : Nat) (C : Addr) (m : Str) (ps : List Str) (sp : Sp) : Prop where
  ex : ∃ f fd, FnOk P w K mg base CX k f fd ps sp ∧ Meth K C m f ∧ Binds K fd ps []
section
variable {X : Cx} {CX : CXT} {k : Nat} {C : Addr} {m : Str} {ps : List Str} {sp : Sp} {E : XK} {o e : Expr} {es : List Expr} {ta : TE} {t : TA} {pos apos p : Pos} {x : Str}
theorem pe_methD {pl : Sem Bool} (M : Mt X.prog X.w X.K X.mg X.base CX k C m ps sp) (he : PE X o ta) (c : Cls X.K C) (hr : Room k X.A) (hx : Passes CX X E) (ha : PA X (e :: es) t)
    (hst : starEach (e :: es) X.env = (false, eval e X.env) :: starEach es X.env := by rfl) (hpl : (backTo pos (starEach es X.env)).any (·.1) = false := by rfl)
    (ht : eval (.Call (.Attribute o m apos) (e :: es) [] pos) X.env = (do
      let ov ← eval o X.env
      standAt apos.atName
      let (f, first) ← holding [ov] (getMethod ov m pl)
      callWith pos f first (backTo pos (starEach (e :: es) X.env)) (backToKw pos (keywordEach [] X.env))) := by rfl) :
    PE X (.Call (.Attribute o m apos) (e :: es) [] pos) (tMeth C m sp [] E ta t) := by
  obtain ⟨f, fd, F, hm, hb⟩ := M.ex
  exact pe_meth he c hm F hr hb .nil hx ha hst hpl ht
theorem pe_meth0D {pl : Sem Bool} (M : Mt X.prog X.w X.K X.mg X.base CX k C m ps sp) (he : PE X o ta) (c : Cls X.K C) (hr : Room k X.A) (hx : Passes CX X E)
    (ht : eval (.Call (.Attribute o m apos) [] [] pos) X.env = (do
      let ov ← eval o X.env
      standAt apos.atName
      let (f, first) ← holding [ov] (getMethod ov m pl)
      callWith pos f first (backTo pos (starEach [] X.env)) (backToKw pos (keywordEach [] X.env))) := by rfl) :
    PE X (.Call (.Attribute o m apos) [] [] pos) (tMeth C m sp [] E ta tNil) := by
  obtain ⟨f, fd, F, hm, hb⟩ := M.ex
  exact pe_meth0 he c hm F hr hb .nil hx ht
end
/-- a class that is made by its own __init__ -/
structure Cn (P : Program) (w : World) (K : PySem.W.Frag) (mg : Str → Option Value) (base : Heap) (CX : CXT) (k : Nat) (x : Str) (C : Addr) (ps : List Str) (sp : Sp) : Prop where
  ex : ∃ f fd, FnOk P w K mg base CX k f fd ps sp ∧ Mk K C f ∧ Binds K fd ps [] ∧ mg x = some (.ref C)
section
variable {X : Cx} {CX : CXT} {k : Nat} {C : Addr} {ps : List Str} {sp : Sp} {E : XK} {e : Expr} {es : List Expr} {t : TA} {pos p : Pos} {x : Str}
theorem pe_makeD (M : Cn X.prog X.w X.K X.mg X.base CX k x C ps sp) (hr : Room (k + 1) X.A) (hx : Passes CX X E) (ha : PA X (e :: es) t) (hg : Gl X x := by rfl)
    (hdb : (x == ("__debug__" : Str)) = false := by decide) (he : starEach (e :: es) X.env = (false, eval e X.env) :: starEach es X.env := by rfl) (hpl : (backTo pos (starEach es X.env)).any (·.1) = false := by rfl) :
    PE X (.Call (.Name x p) (e :: es) [] pos) (tMake C sp [] E t) := by
  obtain ⟨f, fd, F, hm, hb, gC⟩ := M.ex
  exact pe_make hm F hr hg gC hb .nil hx ha hdb he hpl
theorem pe_make0D (M : Cn X.prog X.w X.K X.mg X.base CX k x C ps sp) (hr : Room (k + 1) X.A) (hx : Passes CX X E) (hg : Gl X x := by rfl) (hdb : (x == ("__debug__" : Str)) = false := by decide) : PE X (.Call (.Name x p) [] [] pos) (tMake C sp [] E tNil) := by
  obtain ⟨f, fd, F, hm, hb, gC⟩ := M.ex
  exact pe_make0 hm F hr hg gC hb .nil hx hdb
end
end Th
namespace Th
open PySem PySem.Spec PyProof.Rows L2
/-! ### == of lists of bytes -/
def dB (l : List Nat) : List PyData := l.map fun (n : Nat) => PyData.int (n : Int)
theorem dp_all {K : PySem.W.Frag} {H : Hp} : ∀ l : List Nat, DpAll K H (vb l) (dB l)
  | [] => .nil
  | n :: r => .cons (.int (n : Int)) (dp_all r)
theorem eqv_all : ∀ a b : List Nat, PyData.eqvAll (dB a) (dB b) = decide (a = b)
  | [], [] => by simp [dB, PyData.eqvAll]
  | [], _ :: _ => by simp [dB, PyData.eqvAll]
  | _ :: _, [] => by simp [dB, PyData.eqvAll]
  | x :: a, y :: b => by
    have ih := eqv_all a b
    have e : PyData.eqvAll (dB (x :: a)) (dB (y :: b)) = (((x : Int) == (y : Int)) && PyData.eqvAll (dB a) (dB b)) := by
      simp only [dB, List.map_cons, PyData.eqvAll, PyData.eqv]
    rw [e, ih, Bool.eq_iff_iff, Bool.and_eq_true, beq_iff_eq, decide_eq_true_iff, decide_eq_true_iff, List.cons.injEq]
    exact ⟨fun h => ⟨by have := h.1; omega, h.2⟩, fun h => ⟨by have := h.1; omega, h.2⟩⟩
theorem canLay_all : ∀ l : List Nat, PyData.canLayAll0 (dB l) = true
  | [] => by simp [dB, PyData.canLayAll0]
  | x :: r => by
    have ih := canLay_all r
    have e : PyData.canLayAll0 (dB (x :: r)) = PyData.canLayAll0 (dB r) := by
      simp only [dB, List.map_cons, PyData.canLayAll0, PyData.canLay0, Bool.true_and]
    rw [e, ih]
theorem depth_all : ∀ l : List Nat, PyData.depthAll (dB l) = 0
  | [] => by simp [dB, PyData.depthAll]
  | x :: r => by
    have ih := depth_all r
    have e : PyData.depthAll (dB (x :: r)) = max 0 (PyData.depthAll (dB r)) := by
      simp only [dB, List.map_cons, PyData.depthAll, PyData.depth]
    rw [e, ih]
    rfl
theorem shaped_list (l : List Nat) : SeqAt.shaped (.list (dB l)) = true := by
  have e1 : PyData.canLay0 (.list (dB l)) = PyData.canLayAll0 (dB l) := by simp only [PyData.canLay0]
  have e2 : PyData.depth (.list (dB l)) = PyData.depthAll (dB l) + 1 := by simp only [PyData.depth]
  unfold SeqAt.shaped
  rw [e1, e2, canLay_all, depth_all]
  decide
theorem shaped_tup (l : List Nat) : SeqAt.shaped (.tuple (dB l)) = true := by
  have e1 : PyData.canLay0 (.tuple (dB l)) = PyData.canLayAll0 (dB l) := by simp only [PyData.canLay0]
  have e2 : PyData.depth (.tuple (dB l)) = PyData.depthAll (dB l) + 1 := by simp only [PyData.depth]
  unfold SeqAt.shaped
  rw [e1, e2, canLay_all, depth_all]
  decide
theorem eqv_list (a b : List Nat) : PyData.eqv (.list (dB a)) (.list (dB b)) = decide (a = b) := by
  rw [← eqv_all]
  simp only [PyData.eqv]
theorem eqv_tup (a b : List Nat) : PyData.eqv (.tuple (dB a)) (.tuple (dB b)) = decide (a = b) := by
  rw [← eqv_all]
  simp only [PyData.eqv]
end Th
namespace Th
open PySem PySem.Spec PyProof.Rows L2
/-! ### the text by places -/
def topS (i : Nat) : Stmt := PySem.Challenge.pw_trusthouse_s03_tk_open.main.body.getD i (.Pass ⟨0, 0, 0, 0⟩)
abbrev s_high_first : Stmt := topS 10
abbrev s_number_of : Stmt := topS 11
abbrev s_spread : Stmt := topS 12
abbrev s_enciphered : Stmt := topS 13
abbrev s_words_of : Stmt := topS 14
abbrev s_sum_of : Stmt := topS 15
abbrev s_streamed : Stmt := topS 16
abbrev s_opened : Stmt := topS 17
abbrev s_is_name_byte : Stmt := topS 27
abbrev s_is_name : Stmt := topS 28
abbrev s_time_told : Stmt := topS 29
abbrev s_Reader___init__ : Stmt := inClass (topS 30) 0
abbrev s_Reader_some : Stmt := inClass (topS 30) 1
abbrev s_Reader_number : Stmt := inClass (topS 30) 2
abbrev s_Reader_take_name : Stmt := inClass (topS 30) 3
abbrev s_Reader_row : Stmt := inClass (topS 30) 4
abbrev s_Reader_time : Stmt := inClass (topS 30) 5
abbrev s_Reader_want_end : Stmt := inClass (topS 30) 6
abbrev s_two_rows_in : Stmt := topS 31
abbrev s_grant_within : Stmt := topS 32
abbrev s_opened_as : Stmt := topS 33
abbrev s_with_length : Stmt := topS 38
abbrev s_grant_in : Stmt := topS 39
abbrev s_tk_open : Stmt := topS 40
/-- what the top has written: constants, and names that are still the built-in -/
structure Txt (K : PySem.W.Frag) (mg : Str → Option Value) : Prop where
  b_ValueError : mg "ValueError" = none
  b_all : mg "all" = none
  b_len : mg "len" = none
  b_list : mg "list" = none
  b_range : mg "range" = none
  b_tuple : mg "tuple" = none
  b_zip : mg "zip" = none
  c_WORD : Glo mg "WORD" (.int 4294967296)
  c_BLOCK : Glo mg "BLOCK" (.int 18446744073709551616)
  c_WORD_BITS : Glo mg "WORD_BITS" (.int 32)
  c_BLOCK_BYTES : Glo mg "BLOCK_BYTES" (.int 8)
  c_KEY_BYTES : Glo mg "KEY_BYTES" (.int 16)
  c_ROUNDS : Glo mg "ROUNDS" (.int 32)
  c_STEP : Glo mg "STEP" (.int 2654435769)
  c_FOR_SUM : Glo mg "FOR_SUM" (.int 54)
  c_FOR_STREAM : Glo mg "FOR_STREAM" (.int 92)
  c_GIVEN : Glo mg "GIVEN" (.int 2)
  c_MORE_GIVEN : Glo mg "MORE_GIVEN" (.int 4)
  c_MOST_NAME : Glo mg "MOST_NAME" (.int 32)
  c_LENGTH_BYTES : Glo mg "LENGTH_BYTES" (.int 2)
  c_TIME_BYTES : Glo mg "TIME_BYTES" (.int 8)
  c_POINT : Glo mg "POINT" (.int 46)
  c_HYPHEN : Glo mg "HYPHEN" (.int 45)
  c_MOST_MESSAGE : Glo mg "MOST_MESSAGE" (.int 512)
  c_NOT_AS_TOLD : Glo mg "NOT_AS_TOLD" (.int (-2))
  c_NOT_OPEN : Glo mg "NOT_OPEN" (.int (-1))
/-- the classes' addresses -/
structure Cs where
  NoMessage : Addr
  Reader : Addr
/-- what the top has written of the classes -/
structure TxtC (K : PySem.W.Frag) (mg : Str → Option Value) (C : Cs) : Prop where
  NoMessage_g : mg "NoMessage" = some (.ref C.NoMessage)
  NoMessage_x : PySem.W.excIn K C.NoMessage [.type "ValueError", .type "Exception", .type "BaseException", .type "object"] "ValueError.__new__" = true
  NoMessage_k : PySem.W.keepIn K (.ref C.NoMessage) = true
  NoMessage_b : PySem.W.subIn K (.ref C.NoMessage) (.type "BaseException") = some true
  NoMessage_t : PySem.W.typeIn K (.ref C.NoMessage) = some (.type "type")
  NoMessage_e : PySem.W.exmOne K (.ref C.NoMessage) (.ref C.NoMessage) = some true
  Reader_cl : Cls K C.Reader
  Reader_g : mg "Reader" = some (.ref C.Reader)
  Reader_no_data : NoAttr K C.Reader "data"
  Reader_no_at : NoAttr K C.Reader "at"
end Th
namespace Th
open PySem PySem.Spec PyProof.Rows L2
section
variable {P : Program} {w : World} {K : PySem.W.Frag} {mg : Str → Option Value} {base : Heap}
/-! ### high_first -/
theorem sc_high_first : FnScope ["number", "many", "k"] ["number", "many"] (defScope s_high_first) := ⟨rfl, rfl, rfl, by decide +kernel, rfl, by decide +kernel, by decide +kernel⟩
def sp_high_first : Sp := fun vs H Q _ => ∃ n k : Nat, vs = [.int (n : Int), .int (k : Int)] ∧ k ≤ 1000 ∧ outL H Q (Ql67.be k n)
theorem high_item (n k i : Nat) (hi : i < k) : Builtin.bitAnd ((n : Int) / 2 ^ ((8 : Int) * (((k : Int) - 1) + (i : Int) * -1)).toNat) 255 = ((n / 2 ^ (8 * (k - 1 - i)) % 256 : Nat) : Int) := by
  have e : (8 : Int) * (((k : Int) - 1) + (i : Int) * -1) = ((8 * (k - 1 - i) : Nat) : Int) := by omega
  rw [e, i_shr]
  show Builtin.bitAnd _ ((255 : Nat) : Int) = _
  rw [i_and, and_255]
theorem ok_high_first {f : Addr} {fd : FuncData} (F : Fun K "high_first" "high_first" s_high_first f fd) (T : Txt K mg) : FnOk P w K mg base CX0 1 f fd ["number", "many"] sp_high_first := by
  refine F.ok sc_high_first (fun vs H Q E h => ?_) (fun cdv A outer s H vs Q E hr h => ?_)
  · obtain ⟨n, k, rfl, _⟩ := h
    rfl
  · obtain ⟨n, k, rfl, hk, q⟩ := h
    refine ⟨_, pss_one (ps_ret (pe_lc (own := [("k", 2)]) (g := gName 2) (tt := tYes) rfl sc_high_first.nd
      (pi_range3 (by rfl) T.b_range (pa_cons (pe_op op_sub (pv 1) pe_int) (pa_cons (pe_un un_neg pe_int) (pa_cons (pe_un un_neg pe_int) pa_nil))))
      (blkOk_by (own := [("k", 2)]) (N := ["number", "many", "k"]) (sc := defScope s_high_first) (by decide +kernel)) (fun _ _ _ _ _ => pg_name (i := 2) sc_high_first.nd rfl (Or.inl rfl)) (fun _ _ _ _ _ => pts_nil)
      (fun _ _ _ _ _ => pe_op op_and (pe_op op_shr (pv 0) (pe_op op_mul pe_int (pv 2))) pe_int))), ?_⟩
    have hR : RgC ((k : Int) - 1) (-1) (-1) k := by
      have e : (((k : Int) - 1) - (-1)).toNat = k := by omega
      have r := RgC.neg (i := (k : Int) - 1) (j := -1) (by omega) (by omega) (by decide) (by decide)
      rw [e] at r
      exact r
    refine ⟨_, rfl, _, _, rfl, rfl, _, rfl, _, rfl, _, _, _, k, rfl, hR, fun D hD => ?_⟩
    refine lc_it walk_rangeC (fun i H' => Same H H' ∧ H' D = some (.lst (vb ((Ql67.be k n).take i)))) ⟨same_upd hD, upd_same⟩ (fun _ _ _ _ => trivial) ?_ ?_
    · rintro i x H1 H2 hi ⟨s1, e1⟩ ⟨rfl, rfl⟩
      refine ⟨rfl, _, rfl, _, rfl, _, _, rfl, rfl, .inl ⟨by decide, by decide⟩, _, _, rfl, rfl, ?_, _, _, rfl, rfl, _, e1, ?_, same_set s1 hD, ?_⟩
      · show (0 : Int) ≤ 8 * (((k : Int) - 1) + (i : Int) * -1)
        omega
      · rw [vb_length]
        exact lt_line (Nat.le_trans (List.length_take_le _ _) (by omega))
      · rw [upd_same, vb_more (be_get k n i hi), ← high_item n k i hi]
    · rintro H1 ⟨s1, e1⟩
      refine q H1 D s1 hD ?_
      rw [e1, List.take_of_length_le (by rw [be_length]; exact Nat.le_refl _)]
/-! ### number_of -/
theorem sc_number_of : FnScope ["row", "found", "byte"] ["row"] (defScope s_number_of) := ⟨rfl, rfl, rfl, by decide +kernel, rfl, by decide +kernel, by decide +kernel⟩
def sp_number_of (K : PySem.W.Frag) : Sp := fun vs H Q _ => ∃ (a : Addr) (l : List Nat), vs = [.ref a] ∧ SqL K H a (vb l) ∧ Q (.int (Ql67.num l : Nat)) H
theorem take_snoc {l : List Nat} {i n : Nat} (h : l[i]? = some n) : l.take (i + 1) = l.take i ++ [n] := by
  rw [List.take_add_one, h]
  rfl
theorem ok_number_of {f : Addr} {fd : FuncData} (F : Fun K "number_of" "number_of" s_number_of f fd) (T : Txt K mg) : FnOk P w K mg base CX0 1 f fd ["row"] (sp_number_of K) := by
  refine F.ok sc_number_of (fun vs H Q E h => ?_) (fun cdv A outer s H vs Q E hr h => ?_)
  · obtain ⟨a, l, rfl, _⟩ := h
    rfl
  · obtain ⟨a, l, rfl, hS, q⟩ := h
    refine ⟨_, pss_cons (ps_set (i := 1) sc_number_of.nd rfl (Or.inl rfl) pe_int)
      (pss_cons (ps_for PassesOwn.never rfl (pi_list (pv 0)) (pg_name (i := 2) sc_number_of.nd rfl (Or.inl rfl))
        (pss_one (ps_set (i := 1) sc_number_of.nd rfl (Or.inl rfl) (pe_op op_add (pe_op op_mul pe_int (pv 1)) (pv 2)))))
      (pss_one (ps_ret (pv 1)))), ?_⟩
    refine ⟨_, rfl, a, rfl, ⟨_, hS⟩, for_list (K := K) (a := a) (xs := vb l) (fun i σ H' => H' = H ∧ ∃ v : Option V, σ = [some (.ref a), some (.int (Ql67.num (l.take i) : Nat)), v]) ⟨rfl, none, rfl⟩ (fun i σ H' _ h => by rw [h.1]; exact hS) ?_ ?_⟩
    · rintro i x σ H' hx ⟨rfl, v, rfl⟩
      obtain ⟨n, hn, rfl⟩ := vb_at hx
      refine ⟨_, rfl, _, _, rfl, rfl, .inl ⟨by decide, by decide⟩, _, rfl, _, _, rfl, rfl, rfl, some (.int (n : Int)), ?_⟩
      rw [take_snoc hn, num_snoc]
      show [some (V.ref a), some (V.int (256 * ((Ql67.num (l.take i) : Nat) : Int) + (n : Int))), some (V.int (n : Int))] = _
      rw [Int.natCast_add, Int.natCast_mul]
      rfl
    · rintro σ H' ⟨rfl, v, rfl⟩
      rw [vb_length, List.take_length]
      exact ⟨_, rfl, q⟩
/-! ### spread -/
theorem sc_spread : FnScope ["half"] ["half"] (defScope s_spread) := ⟨rfl, rfl, rfl, by decide +kernel, rfl, by decide +kernel, by decide +kernel⟩
def spr (x : Nat) : Nat := ((((x * 16 % Ql67.W) ^^^ (x / 32)) + x) % Ql67.W)
def sp_spread : Sp := fun vs H Q _ => ∃ x : Nat, vs = [.int (x : Int)] ∧ x < 2 ^ 32 ∧ Q (.int (spr x : Nat)) H
theorem spread_val (x : Nat) : Int.fmod (Builtin.bitXor (Builtin.bitAnd ((x : Int) * 2 ^ (4 : Int).toNat) (4294967296 - 1)) ((x : Int) / 2 ^ (5 : Int).toNat) + (x : Int)) 4294967296 = ((spr x : Nat) : Int) := by
  have e1 : (x : Int) * 2 ^ (4 : Int).toNat = ((x * 2 ^ 4 : Nat) : Int) := i_shl x 4
  have e2 : (x : Int) / 2 ^ (5 : Int).toNat = ((x / 2 ^ 5 : Nat) : Int) := i_shr x 5
  have e3 : (4294967296 - 1 : Int) = ((4294967295 : Nat) : Int) := by decide
  have e4 : (4294967296 : Int) = ((4294967296 : Nat) : Int) := by decide
  have e5 : x * 2 ^ 4 &&& 4294967295 = x * 2 ^ 4 % 2 ^ 32 := Nat.and_two_pow_sub_one_eq_mod _ 32
  rw [e1, e2, e3, i_and, i_xor, ← Int.natCast_add, e4, i_mod _ _ (by decide), e5]
  rfl
theorem z5 : (0 : Int) ≤ 5 := by decide
theorem zW : (4294967296 : Int) ≠ 0 := by decide
theorem ok_spread {f : Addr} {fd : FuncData} (F : Fun K "spread" "spread" s_spread f fd) (T : Txt K mg) : FnOk P w K mg base CX0 1 f fd ["half"] sp_spread := by
  refine F.ok sc_spread (fun vs H Q E h => ?_) (fun cdv A outer s H vs Q E hr h => ?_)
  · obtain ⟨x, rfl, _⟩ := h
    rfl
  · obtain ⟨x, rfl, hx, q⟩ := h
    refine ⟨_, pss_one (ps_ret (pe_op op_modN (pe_op op_add (pe_op op_xor (pe_op op_and (pe_op op_shl (pv 0) pe_int) (pe_op op_sub (pe_gv T.c_WORD) pe_int)) (pe_op op_shr (pv 0) pe_int)) (pv 0)) (pe_gv T.c_WORD))), ?_⟩
    refine ⟨_, rfl, _, _, rfl, rfl, ⟨by decide, by decide, ?_⟩, _, _, rfl, rfl, _, _, rfl, rfl, _, rfl, _, _, rfl, rfl, z5, _, _, rfl, rfl, _, rfl, _, _, rfl, rfl, _, _, rfl, rfl, zW, ?_⟩
    · show x < 2 ^ 64
      omega
    · exact (congrArg (fun z => Q (V.int z) H) (spread_val x)).mpr q
/-! ### enciphered -/
theorem sc_enciphered : FnScope ["words", "block", "a", "b", "s", "k"] ["words", "block"] (defScope s_enciphered) := ⟨rfl, rfl, rfl, by decide +kernel, rfl, by decide +kernel, by decide +kernel⟩
def blk (ks : List Nat) (x : Nat) : Nat := (Ql67.rounds 32 ks 0 (x / Ql67.W) (x % Ql67.W)).1 * Ql67.W + (Ql67.rounds 32 ks 0 (x / Ql67.W) (x % Ql67.W)).2
def sp_enciphered (K : PySem.W.Frag) : Sp := fun vs H Q _ => ∃ (a : Addr) (ks : List Nat) (x : Nat), vs = [.ref a, .int (x : Int)] ∧ SqL K H a (vb ks) ∧ ks.length = 4 ∧ x < 2 ^ 64 ∧ Q (.int (blk ks x : Nat)) H
theorem mix_eq (x s k : Nat) : Ql67.mix x s k = spr x ^^^ ((s + k) % Ql67.W) := rfl
/-- a grows -/
theorem half_val (a b s k : Nat) : Int.fmod ((a : Int) + Builtin.bitXor (spr b : Nat) (Int.fmod ((s : Int) + (k : Int)) 4294967296)) 4294967296 = (((a + Ql67.mix b s k) % Ql67.W : Nat) : Int) := by
  have e4 : (4294967296 : Int) = ((4294967296 : Nat) : Int) := by decide
  rw [e4, ← Int.natCast_add, i_mod _ _ (by decide), i_xor, ← Int.natCast_add, i_mod _ _ (by decide)]
  rfl
theorem step_val (s : Nat) : Int.fmod ((s : Int) + 2654435769) 4294967296 = (((s + 0x9E3779B9) % Ql67.W : Nat) : Int) := by
  have e4 : (4294967296 : Int) = ((4294967296 : Nat) : Int) := by decide
  have e5 : (2654435769 : Int) = ((2654435769 : Nat) : Int) := by decide
  rw [e4, e5, ← Int.natCast_add, i_mod _ _ (by decide)]
  rfl
theorem word_at {ks : List Nat} (h : ks.length = 4) (j : Nat) : atI (vb ks) (Int.fmod (j : Int) 4) = some (.int (ks.getD (j % 4) 0 : Nat)) := by
  have e4 : (4 : Int) = ((4 : Nat) : Int) := rfl
  rw [e4, i_mod _ _ (by decide)]
  refine atI_nat (vb_get ?_)
  have hj : j % 4 < ks.length := by rw [h]; exact Nat.mod_lt _ (by decide)
  rw [List.getD_eq_getElem?_getD, List.getElem?_eq_getElem hj]
  rfl
theorem z32 : (0 : Int) ≤ 32 := by decide
theorem z11 : (0 : Int) ≤ 11 := by decide
theorem z4 : (4 : Int) ≠ 0 := by decide
theorem ok_enciphered {f : Addr} {fd : FuncData} (F : Fun K "enciphered" "enciphered" s_enciphered f fd) (T : Txt K mg) (G1 : Df P w K mg base CX0 1 "spread" ["half"] sp_spread) : FnOk P w K mg base CX0 2 f fd ["words", "block"] (sp_enciphered K) := by
  refine F.ok sc_enciphered (fun vs H Q E h => ?_) (fun cdv A outer s H vs Q E hr h => ?_)
  · obtain ⟨a, ks, x, rfl, _⟩ := h
    rfl
  · obtain ⟨wa, ks, x, rfl, hS, h4, hx, q⟩ := h
    have hr1 : Room 1 _ := hr.mono (by decide)
    refine ⟨_, pss_cons (ps_set (i := 2) sc_enciphered.nd rfl (Or.inl rfl) (pe_op op_shr (pv 1) (pe_gv T.c_WORD_BITS)))
      (pss_cons (ps_set (i := 3) sc_enciphered.nd rfl (Or.inl rfl) (pe_op op_modN (pv 1) (pe_gv T.c_WORD)))
      (pss_cons (ps_set (i := 4) sc_enciphered.nd rfl (Or.inl rfl) pe_int)
      (pss_cons (ps_for PassesOwn.never rfl (pi_range1 rfl T.b_range (pa_cons (pe_gv T.c_ROUNDS) pa_nil)) (pg_name (i := 5) sc_enciphered.nd rfl (Or.inl rfl))
        (pss_cons (ps_set (i := 2) sc_enciphered.nd rfl (Or.inl rfl) (pe_op op_modN (pe_op op_add (pv 2) (pe_op op_xor (pe_callD G1 hr1 pass0 (pa_cons (pv 3) pa_nil))
            (pe_op op_modN (pe_op op_add (pv 4) (pe_ix ix_list (pv 0) (pe_op op_modN (pv 4) pe_int) (fun _ _ => rfl))) (pe_gv T.c_WORD)))) (pe_gv T.c_WORD)))
        (pss_cons (ps_set (i := 4) sc_enciphered.nd rfl (Or.inl rfl) (pe_op op_modN (pe_op op_add (pv 4) (pe_gv T.c_STEP)) (pe_gv T.c_WORD)))
        (pss_one (ps_set (i := 3) sc_enciphered.nd rfl (Or.inl rfl) (pe_op op_modN (pe_op op_add (pv 3) (pe_op op_xor (pe_callD G1 hr1 pass0 (pa_cons (pv 2) pa_nil))
            (pe_op op_modN (pe_op op_add (pv 4) (pe_ix ix_list (pv 0) (pe_op op_modN (pe_op op_shr (pv 4) pe_int) pe_int) (fun _ _ => rfl))) (pe_gv T.c_WORD)))) (pe_gv T.c_WORD)))))))
      (pss_one (ps_ret (pe_op op_add (pe_op op_shl (pv 2) (pe_gv T.c_WORD_BITS)) (pv 3))))))), ?_⟩
    have hW : Ql67.W = 4294967296 := by decide
    have ea : (x : Int) / 2 ^ (32 : Int).toNat = ((x / Ql67.W : Nat) : Int) := i_shr x 32
    have eb : Int.fmod (x : Int) 4294967296 = ((x % Ql67.W : Nat) : Int) := i_mod x 4294967296 (by decide)
    refine ⟨_, rfl, _, _, rfl, rfl, z32, _, rfl, _, _, rfl, rfl, zW, 32, rfl, by decide, by decide, ?_⟩
    refine for_range (lo := 0) (n := 32) (fun i σ H' => H' = H ∧ ∃ (a b s : Nat) (v : Option V), σ = [some (.ref wa), some (.int (x : Int)), some (.int (a : Int)), some (.int (b : Int)), some (.int (s : Int)), v] ∧ a < Ql67.W ∧ b < Ql67.W ∧ s < Ql67.W ∧
      Ql67.rounds (32 - i) ks s a b = Ql67.rounds 32 ks 0 (x / Ql67.W) (x % Ql67.W)) ⟨rfl, x / Ql67.W, x % Ql67.W, 0, none, ?_, ?_, Nat.mod_lt _ (by decide), by decide, rfl⟩ ?_ ?_
    · rw [← ea, ← eb]
      rfl
    · rw [Nat.div_lt_iff_lt_mul (by decide), hW]
      omega
    · rintro i σ H' hi ⟨rfl, a, b, s, v, rfl, la, lb, ls, hq⟩
      have e : 32 - i = (32 - (i + 1)) + 1 := by omega
      rw [e, rounds_more] at hq
      refine ⟨_, rfl, ⟨_, rfl, b, rfl, by rw [hW] at lb; exact lb, _, rfl, _, rfl, _, rfl, _, _, rfl, rfl, z4, wa, _, _, _, rfl, rfl, hS, word_at h4 s, _, _, rfl, rfl, _, _, rfl, rfl, zW, _, _, rfl, rfl, _, _, rfl, rfl, _, _, rfl, rfl, zW, ?_⟩⟩
      dsimp only
      rw [half_val a b s]
      refine ⟨_, rfl, _, _, rfl, rfl, _, _, rfl, rfl, zW, ?_⟩
      dsimp only
      rw [step_val]
      have ec : (((s + 0x9E3779B9) % Ql67.W : Nat) : Int) / 2 ^ (11 : Int).toNat = (((s + 0x9E3779B9) % Ql67.W / 2048 : Nat) : Int) := i_shr _ 11
      refine ⟨_, rfl, ⟨_, rfl, _, rfl, (show _ < Ql67.W from Nat.mod_lt _ (by decide)), _, rfl, _, rfl, _, rfl, _, _, rfl, rfl, z11, _, _, rfl, rfl, z4, wa, _, _, _, rfl, rfl, hS, (by rw [ec]; exact word_at h4 _), _, _, rfl, rfl, _, _, rfl, rfl, zW, _, _, rfl, rfl, _, _, rfl, rfl, _, _, rfl, rfl, zW, ?_⟩⟩
      dsimp only
      rw [half_val b]
      exact ⟨rfl, _, _, _, _, rfl, Nat.mod_lt _ (by decide), Nat.mod_lt _ (by decide), Nat.mod_lt _ (by decide), hq⟩
    · rintro σ H' ⟨rfl, a, b, s, v, rfl, la, lb, ls, hq⟩
      have hq' : (a, b) = Ql67.rounds 32 ks 0 (x / Ql67.W) (x % Ql67.W) := hq
      refine ⟨_, rfl, _, _, rfl, rfl, ⟨by decide, by decide, ?_⟩, _, rfl, _, _, rfl, rfl, ?_⟩
      · show a < 2 ^ 64
        rw [hW] at la
        omega
      · have e : (a : Int) * 2 ^ (32 : Int).toNat + (b : Int) = ((blk ks x : Nat) : Int) := by
          unfold blk
          rw [← hq']
          have e1 : (a : Int) * 2 ^ (32 : Int).toNat = ((a * 2 ^ 32 : Nat) : Int) := i_shl a 32
          rw [e1, ← Int.natCast_add]
          rfl
        exact (congrArg (fun z => Q (V.int z) H') e).mpr q
/-! ### words_of -/
theorem sc_words_of : FnScope ["key", "byte", "changed", "one", "at"] ["key", "byte"] (defScope s_words_of) := ⟨rfl, rfl, rfl, by decide +kernel, rfl, by decide +kernel, by decide +kernel⟩
def sp_words_of (K : PySem.W.Frag) : Sp := fun vs H Q _ => ∃ (a : Addr) (k : List Nat) (x : Nat), vs = [.ref a, .int (x : Int)] ∧ SqL K H a (vb k) ∧ k.length = 16 ∧ outL H Q (words (k.map fun b => b ^^^ x))
theorem rg_words : RgC 0 16 4 4 := ⟨by decide, by decide, by decide, by decide⟩
theorem words_get (k : List Nat) (i : Nat) (h : i < 4) : (words k)[i]? = some (Ql67.num ((k.drop (4 * i)).take 4)) := by
  unfold words
  rw [List.getElem?_map, List.getElem?_range h]
  rfl
theorem ok_words_of {f : Addr} {fd : FuncData} (F : Fun K "words_of" "words_of" s_words_of f fd) (T : Txt K mg) (G1 : Df P w K mg base CX0 1 "number_of" ["row"] (sp_number_of K)) : FnOk P w K mg base CX0 2 f fd ["key", "byte"] (sp_words_of K) := by
  refine F.ok sc_words_of (fun vs H Q E h => ?_) (fun cdv A outer s H vs Q E hr h => ?_)
  · obtain ⟨a, k, x, rfl, _⟩ := h
    rfl
  · obtain ⟨a, k, x, rfl, hS, hk, q⟩ := h
    have hr1 : Room 1 _ := hr.mono (by decide)
    refine ⟨_, pss_cons (ps_set (i := 2) sc_words_of.nd rfl (Or.inr rfl) (pe_lc (own := [("one", 3)]) (g := gName 3) (tt := tYes) rfl sc_words_of.nd (pi_list (pv 0))
        (blkOk_by (own := [("one", 3)]) (N := ["key", "byte", "changed", "one", "at"]) (sc := defScope s_words_of) (by decide +kernel)) (fun _ _ _ _ _ => pg_name (i := 3) sc_words_of.nd rfl (Or.inl rfl)) (fun _ _ _ _ _ => pts_nil)
        (fun _ _ _ _ _ => pe_op op_xor (pv 3) (pv 1))))
      (pss_one (ps_ret (pe_lc (own := [("at", 4)]) (g := gName 4) (tt := tYes) rfl sc_words_of.nd
        (pi_range3 (by rfl) T.b_range (pa_cons pe_int (pa_cons (pe_gv T.c_KEY_BYTES) (pa_cons pe_int pa_nil))))
        (blkOk_by (own := [("at", 4)]) (N := ["key", "byte", "changed", "one", "at"]) (sc := defScope s_words_of) (by decide +kernel)) (fun _ _ _ _ _ => pg_name (i := 4) sc_words_of.nd rfl (Or.inl rfl)) (fun _ _ _ _ _ => pts_nil)
        (fun _ _ _ _ _ => pe_callD G1 hr1 pass0 (pa_cons (pe_slice (show SlR _ (rSlL K) from sl_list) (pv 2) (po_some (pv 4)) (po_some (pe_op op_add (pv 4) pe_int))) pa_nil))))), ?_⟩
    have hl : (vb k).length = k.length := vb_length k
    refine ⟨_, rfl, a, rfl, ⟨_, hS⟩, fun D hD => ?_⟩
    refine lc_list (K := K) (a := a) (xs := vb k) (fun i H' => Same H H' ∧ H' D = some (.lst (vb ((k.map fun b => b ^^^ x).take i)))) ⟨same_upd hD, upd_same⟩ (fun i H' _ h => h.1.seq hS) ?_ ?_
    · rintro i y H1 hy ⟨s1, e1⟩
      obtain ⟨n, hn, rfl⟩ := vb_at hy
      have hn' : (k.map fun b => b ^^^ x)[i]? = some (n ^^^ x) := by rw [List.getElem?_map, hn]; rfl
      refine ⟨rfl, _, rfl, _, rfl, _, _, rfl, rfl, _, e1, ?_, same_set s1 hD, ?_⟩
      · rw [vb_length]
        exact lt_line (Nat.le_trans (List.length_take_le _ _) (by have := (List.getElem?_eq_some_iff.mp hn).1; omega))
      · rw [upd_same, vb_more hn', ← i_xor]
    · rintro H1 ⟨s1, e1⟩
      rw [hl, List.take_of_length_le (by rw [List.length_map]; exact Nat.le_refl _)] at e1
      refine ⟨_, _, _, 4, rfl, rg_words, fun D2 hD2 => ?_⟩
      refine lc_it walk_rangeC (fun i H' => Same H1 H' ∧ H' D2 = some (.lst (vb ((words (k.map fun b => b ^^^ x)).take i)))) ⟨same_upd hD2, upd_same⟩ (fun _ _ _ _ => trivial) ?_ ?_
      · rintro i y H2 H3 hi ⟨s2, e2⟩ ⟨rfl, rfl⟩
        have ei : (0 : Int) + (i : Int) * 4 = ((4 * i : Nat) : Int) := by omega
        have ej : (0 : Int) + (i : Int) * 4 + 4 = ((4 * i + 4 : Nat) : Int) := by omega
        refine ⟨rfl, _, rfl, _, rfl, _, rfl, _, rfl, _, _, rfl, rfl, _, rfl, D, _, rfl, lst_of (s2 _ _ e1), fun p hp => ?_⟩
        have ec : cutV (vb (k.map fun b => b ^^^ x)) (some ((0 : Int) + (i : Int) * 4)) (some ((0 : Int) + (i : Int) * 4 + 4)) = vb (((k.map fun b => b ^^^ x).drop (4 * i)).take 4) := cut_vb _ ei ej
        refine ⟨p, _, rfl, lst_of (upd_same.trans (congrArg (fun z => some (HO.lst z)) ec)), _, same_upd hp _ _ e2, ?_, same_set (same_new s2 hp) hD2, ?_⟩
        · rw [vb_length]
          exact lt_line (Nat.le_trans (List.length_take_le _ _) (by omega))
        · rw [upd_same, vb_more (words_get _ i hi)]
      · rintro H2 ⟨s2, e2⟩
        refine q H2 D2 (s1.trans s2) (s1.free hD2) ?_
        rw [e2, List.take_of_length_le (by rw [words_len]; exact Nat.le_refl _)]
/-! ### sum_of -/
theorem sc_sum_of : FnScope ["key", "text", "words", "row", "found", "at"] ["key", "text"] (defScope s_sum_of) := ⟨rfl, rfl, rfl, by decide +kernel, rfl, by decide +kernel, by decide +kernel⟩
def sp_sum_of (K : PySem.W.Frag) : Sp := fun vs H Q _ => ∃ (a b : Addr) (k m : List Nat), vs = [.ref a, .ref b] ∧ SqL K H a (vb k) ∧ k.length = 16 ∧ SqL K H b (vb m) ∧ Ql67.Bytes m ∧ m.length ≤ 10000 ∧ outV H Q (.int (Ql67.sum k m : Nat))
theorem z8 : (8 : Int) ≠ 0 := by decide
theorem pad_val (n L : Nat) (h : L = 8 + n) : Int.fmod (-(L : Int)) 8 = ((padOf n : Nat) : Int) := by
  rw [PySem.W.os_fmod_pos (by decide)]
  unfold padOf
  omega
theorem row_val (m : List Nat) (j : Int) (h : j = ((padOf m.length : Nat) : Int)) : (vb (Ql67.be 8 m.length) ++ vb m) ++ (List.replicate j.toNat [V.int 0]).flatten = vb (rowOf m) := by
  rw [h, Int.toNat_natCast, List.flatten_replicate_singleton]
  unfold rowOf
  rw [vb_append, vb_append]
  have e : List.replicate (padOf m.length) (V.int 0) = vb (List.replicate (padOf m.length) 0) := by
    unfold vb
    rw [List.map_replicate]
    rfl
  rw [e]
theorem rowOf_bytes {m : List Nat} (h : Ql67.Bytes m) : Ql67.Bytes (rowOf m) := by
  intro b hb
  unfold rowOf at hb
  rcases List.mem_append.mp hb with hb | hb
  · rcases List.mem_append.mp hb with hb | hb
    · exact be_lt _ _ _ hb
    · exact h b hb
  · rw [List.eq_of_mem_replicate hb]
    decide
theorem chunk_lt {l : List Nat} (h : Ql67.Bytes l) (i : Nat) : chunk l i < 2 ^ 64 := by
  have h1 := num_lt ((l.drop (8 * i)).take 8) (fun b hb => h b (List.mem_of_mem_drop (List.mem_of_mem_take hb)))
  refine Nat.lt_of_lt_of_le h1 (Nat.pow_le_pow_right (by decide) ?_)
  rw [List.length_take]
  omega
theorem ok_sum_of {f : Addr} {fd : FuncData} (F : Fun K "sum_of" "sum_of" s_sum_of f fd) (T : Txt K mg) (G1 : Df P w K mg base CX0 2 "words_of" ["key", "byte"] (sp_words_of K)) (G2 : Df P w K mg base CX0 1 "high_first" ["number", "many"] sp_high_first)
    (G3 : Df P w K mg base CX0 2 "enciphered" ["words", "block"] (sp_enciphered K)) (G4 : Df P w K mg base CX0 1 "number_of" ["row"] (sp_number_of K)) : FnOk P w K mg base CX0 3 f fd ["key", "text"] (sp_sum_of K) := by
  refine F.ok sc_sum_of (fun vs H Q E h => ?_) (fun cdv A outer s H vs Q E hr h => ?_)
  · obtain ⟨a, b, k, m, rfl, _⟩ := h
    rfl
  · obtain ⟨a, b, k, m, rfl, hK, hk, hM, hB, hlen, q⟩ := h
    refine ⟨_, pss_cons (ps_set (i := 2) sc_sum_of.nd rfl (Or.inl rfl) (pe_callD G1 (hr.mono (by decide)) pass0 (pa_cons (pv 0) (pa_cons (pe_gv T.c_FOR_SUM) pa_nil))))
      (pss_cons (ps_set (i := 3) sc_sum_of.nd rfl (Or.inl rfl) (pe_op op_cat (pe_callD G2 (hr.mono (by decide)) pass0 (pa_cons (pe_callB call_len_seq (by rfl) T.b_len PySem.boot_len (pa_cons (pv 1) pa_nil)) (pa_cons (pe_gv T.c_BLOCK_BYTES) pa_nil)))
          (pe_callTy call_list_of (by rfl) T.b_list (by decide +kernel) (pa_cons (pv 1) pa_nil))))
      (pss_cons (ps_set (i := 3) sc_sum_of.nd rfl (Or.inl rfl) (pe_op op_cat (pv 3) (pe_op op_rep (pe_lst (pa_cons pe_int pa_nil)) (pe_op op_modN (pe_un un_neg (pe_callB call_len_seq (by rfl) T.b_len PySem.boot_len (pa_cons (pv 3) pa_nil))) (pe_gv T.c_BLOCK_BYTES)))))
      (pss_cons (ps_set (i := 4) sc_sum_of.nd rfl (Or.inl rfl) pe_int)
      (pss_cons (ps_for PassesOwn.never rfl (pi_range3 (by rfl) T.b_range (pa_cons pe_int (pa_cons (pe_callB call_len_seq (by rfl) T.b_len PySem.boot_len (pa_cons (pv 3) pa_nil)) (pa_cons (pe_gv T.c_BLOCK_BYTES) pa_nil)))) (pg_name (i := 5) sc_sum_of.nd rfl (Or.inl rfl))
        (pss_one (ps_set (i := 4) sc_sum_of.nd rfl (Or.inl rfl) (pe_callD G3 (hr.mono (by decide)) pass0 (pa_cons (pv 2) (pa_cons (pe_op op_xor (pv 4) (pe_callD G4 (hr.mono (by decide)) pass0
          (pa_cons (pe_slice sl_list (pv 3) (po_some (pv 5)) (po_some (pe_op op_add (pv 5) (pe_gv T.c_BLOCK_BYTES)))) pa_nil))) pa_nil))))))
      (pss_one (ps_ret (pv 4))))))), ?_⟩
    have hl : (vb m).length = m.length := vb_length m
    -- words
    refine ⟨_, rfl, a, k, 54, rfl, hK, hk, fun H1 pw s1 n1 e1 => ?_⟩
    -- row
    refine ⟨_, rfl, b, _, rfl, .inl (s1.seq hM), (vb m).length, 8, rfl, by decide, fun H2 p2 s2 n2 e2 => ?_⟩
    rw [hl] at e2
    refine ⟨_, rfl, b, _, rfl, .inl (s2.seq (s1.seq hM)), fun p3 n3 => ?_⟩
    generalize hE : upd _ p3 _ = H3
    obtain ⟨s3, e3⟩ := gen_new hE n3
    clear hE
    refine ⟨p2, p3, _, _, rfl, rfl, s3 _ _ e2, e3, ?_, fun p4 n4 => ?_⟩
    · rw [vb_length, vb_length, be_length]
      exact le_line (by omega)
    generalize hE : upd _ p4 _ = H4
    obtain ⟨s4, e4⟩ := gen_new hE n4
    clear hE
    have h4 : (vb (Ql67.be 8 m.length) ++ vb m).length = 8 + m.length := by rw [List.length_append, vb_length, vb_length, be_length]
    refine ⟨_, rfl, (by show 1 ≤ sizeLine; decide), fun p5 n5 => ?_⟩
    generalize hE : upd _ p5 _ = H5
    obtain ⟨s5, e5⟩ := gen_new hE n5
    clear hE
    have hpad := pad_val m.length _ h4
    have hp8 : padOf m.length < 8 := Nat.mod_lt _ (by decide)
    refine ⟨_, rfl, p4, _, rfl, .inl (lst_of (s5 _ _ e4)), _, rfl, _, _, rfl, rfl, z8, p5, _, _, rfl, rfl, e5, ?_, ?_, ?_, fun p6 n6 => ?_⟩
    · rw [hpad]
      omega
    · rw [hpad]
      omega
    · rw [hpad, Int.toNat_natCast]
      exact le_line (by show 1 * _ ≤ 100000; omega)
    generalize hE : upd _ p6 _ = H6
    obtain ⟨s6, e6⟩ := gen_new hE n6
    clear hE
    refine ⟨p4, p6, _, _, rfl, rfl, s6 _ _ (s5 _ _ e4), e6, ?_, fun p7 n7 => ?_⟩
    · rw [List.flatten_replicate_singleton, List.length_replicate, hpad, h4, Int.toNat_natCast]
      exact le_line (by omega)
    generalize hE : upd _ p7 _ = H7
    obtain ⟨s7, e7⟩ := gen_new hE n7
    clear hE
    rw [row_val m _ hpad] at e7
    have sA : Same H1 H7 := s2.trans (s3.trans (s4.trans (s5.trans (s6.trans s7))))
    have hrow : (vb (rowOf m)).length = (rowOf m).length := vb_length _
    have hr8 := rowOf_length m
    have hB2 := rowOf_bytes hB
    have hrl : (rowOf m).length ≤ 100000 := by
      rw [hr8]
      omega
    -- the loop
    refine ⟨_, rfl, p7, _, rfl, .inl (lst_of e7), _, _, _, (rowOf m).length / 8, rfl, ?_, ?_⟩
    · rw [hrow]
      exact rg8 _ _ (.inl (by rw [hr8, Nat.mul_div_cancel_left _ (by decide)])) hrl
    refine for_it walk_rangeC (fun i σ H' => Same H7 H' ∧ ∃ v : Option V, σ = [some (.ref a), some (.ref b), some (.ref pw), some (.ref p7), some (.int (sumTo k m i : Nat)), v]) ⟨Same.refl _, none, rfl⟩ (fun _ _ _ _ _ => trivial) ?_ ?_
    · rintro i x σ H' H'' hi ⟨s8, v, rfl⟩ ⟨rfl, rfl⟩
      have ei : (0 : Int) + (i : Int) * 8 = ((8 * i : Nat) : Int) := by omega
      have ej : (0 : Int) + (i : Int) * 8 + 8 = ((8 * i + 8 : Nat) : Int) := by omega
      refine ⟨_, rfl, _, rfl, _, rfl, _, rfl, _, rfl, _, rfl, _, _, rfl, rfl, _, rfl, p7, _, rfl, lst_of (s8 _ _ e7), fun p9 n9 => ?_⟩
      generalize hE : upd _ p9 _ = H9
      obtain ⟨s9, e9⟩ := gen_new hE n9
      clear hE
      rw [cut_vb (rowOf m) ei ej] at e9
      refine ⟨p9, _, rfl, lst_of e9, _, _, rfl, rfl, pw, words (Ql67.key1 k), sumTo k m i ^^^ chunk (rowOf m) i, ?_, lst_of (s9 _ _ (s8 _ _ (sA _ _ e1))), words_len _, ?_, s8.trans s9, ?_⟩
      · exact congrArg (fun z => [V.ref pw, V.int z]) (i_xor _ _)
      · exact xor_lt (sumTo_lt k m i) (chunk_lt hB2 i)
      · refine ⟨some (.int ((0 : Int) + (i : Int) * 8)), ?_⟩
        rw [sumTo_succ, block_eq _ (xor_lt (sumTo_lt k m i) (chunk_lt hB2 i))]
        rfl
    · rintro σ H' ⟨s8, v, rfl⟩
      rw [sum_eq k m (by omega)]
      exact ⟨_, rfl, q _ (s1.trans (sA.trans s8))⟩
/-! ### streamed -/
theorem sc_streamed : FnScope ["key", "begin", "text", "words", "found", "at", "stream", "one", "other"] ["key", "begin", "text"] (defScope s_streamed) := ⟨rfl, rfl, rfl, by decide +kernel, rfl, by decide +kernel, by decide +kernel⟩
def sp_streamed (K : PySem.W.Frag) : Sp := fun vs H Q _ => ∃ (a b : Addr) (k m : List Nat) (g : Nat), vs = [.ref a, .int (g : Int), .ref b] ∧ SqL K H a (vb k) ∧ k.length = 16 ∧ SqL K H b (vb m) ∧ m.length ≤ 10000 ∧ outL H Q (Ql67.veiled k g m)
theorem zB : (18446744073709551616 : Int) ≠ 0 := by decide
theorem zD8 : (8 : Int) ≠ 0 ∧ (8 : Int).natAbs < 1073741824 := by decide
theorem block_no (g i : Nat) : Int.fmod ((g : Int) + Int.fdiv ((0 : Int) + (i : Int) * 8) 8) 18446744073709551616 = (((g + i) % 2 ^ 64 : Nat) : Int) := by
  have e1 : (0 : Int) + (i : Int) * 8 = ((8 * i : Nat) : Int) := by omega
  have e2 : (8 : Int) = ((8 : Nat) : Int) := rfl
  have e3 : (18446744073709551616 : Int) = ((18446744073709551616 : Nat) : Int) := rfl
  have e4 : 8 * i / 8 = i := Nat.mul_div_cancel_left _ (by decide)
  rw [e1, e2, i_div _ _ (by decide), e4, ← Int.natCast_add, e3, i_mod _ _ (by decide)]
theorem zip_get {X Y : List Nat} {i a b : Nat} (h1 : X[i]? = some a) (h2 : Y[i]? = some b) : (List.zipWith (fun (a b : Nat) => a ^^^ b) X Y)[i]? = some (a ^^^ b) := by
  rw [List.getElem?_zipWith, h1, h2]
theorem ok_streamed {f : Addr} {fd : FuncData} (F : Fun K "streamed" "streamed" s_streamed f fd) (T : Txt K mg) (G1 : Df P w K mg base CX0 2 "words_of" ["key", "byte"] (sp_words_of K)) (G2 : Df P w K mg base CX0 1 "high_first" ["number", "many"] sp_high_first)
    (G3 : Df P w K mg base CX0 2 "enciphered" ["words", "block"] (sp_enciphered K)) : FnOk P w K mg base CX0 3 f fd ["key", "begin", "text"] (sp_streamed K) := by
  refine F.ok sc_streamed (fun vs H Q E h => ?_) (fun cdv A outer s H vs Q E hr h => ?_)
  · obtain ⟨a, b, k, m, g, rfl, _⟩ := h
    rfl
  · obtain ⟨a, b, k, m, g, rfl, hK, hk, hM, hlen, q⟩ := h
    refine ⟨_, pss_cons (ps_set (i := 3) sc_streamed.nd rfl (Or.inl rfl) (pe_callD G1 (hr.mono (by decide)) pass0 (pa_cons (pv 0) (pa_cons (pe_gv T.c_FOR_STREAM) pa_nil))))
      (pss_cons (ps_set (i := 4) sc_streamed.nd rfl (Or.inl rfl) (pe_lst pa_nil))
      (pss_cons (ps_for PassesOwn.never rfl (pi_range3 (by rfl) T.b_range (pa_cons pe_int (pa_cons (pe_callB call_len_seq (by rfl) T.b_len PySem.boot_len (pa_cons (pv 2) pa_nil)) (pa_cons (pe_gv T.c_BLOCK_BYTES) pa_nil)))) (pg_name (i := 5) sc_streamed.nd rfl (Or.inl rfl))
        (pss_cons (ps_set (i := 6) sc_streamed.nd rfl (Or.inl rfl) (pe_callD G2 (hr.mono (by decide)) pass0 (pa_cons (pe_callD G3 (hr.mono (by decide)) pass0 (pa_cons (pv 3) (pa_cons
            (pe_op op_modN (pe_op op_add (pv 1) (pe_op op_fdivN (pv 5) (pe_gv T.c_BLOCK_BYTES))) (pe_gv T.c_BLOCK)) pa_nil))) (pa_cons (pe_gv T.c_BLOCK_BYTES) pa_nil))))
        (pss_one (ps_expr (pe_bm PySem.F.plainAttrs_list PySem.F.slot_list_extend PySem.F.type_list_extend mt_extend (pv 4) (pa_cons
          (pe_lc (own := [("one", 7), ("other", 8)]) (g := gTup K 2 (gCons (gName 7) (gCons (gName 8) gNil))) (tt := tYes) rfl sc_streamed.nd
            (pi_zip (by rfl) T.b_zip (pa_cons (pe_slice sl_list (pv 2) (po_some (pv 5)) (po_some (pe_op op_add (pv 5) (pe_gv T.c_BLOCK_BYTES)))) (pa_cons (pv 6) pa_nil)))
            (blkOk_by (own := [("one", 7), ("other", 8)]) (N := ["key", "begin", "text", "words", "found", "at", "stream", "one", "other"]) (sc := defScope s_streamed) (by decide +kernel))
            (fun _ _ _ _ _ => pg_tup rfl (pgs_cons (pg_name (i := 7) sc_streamed.nd rfl (Or.inl rfl)) (pgs_cons (pg_name (i := 8) sc_streamed.nd rfl (Or.inl rfl)) pgs_nil))) (fun _ _ _ _ _ => pts_nil)
            (fun _ _ _ _ _ => pe_op op_xor (pv 7) (pv 8))) pa_nil))))))
      (pss_one (ps_ret (pv 4))))), ?_⟩
    have hl : (vb m).length = m.length := vb_length m
    -- words, found
    refine ⟨_, rfl, a, k, 92, rfl, hK, hk, fun H1 pw s1 n1 e1 => ?_⟩
    refine ⟨(by show 0 ≤ sizeLine; decide), fun pf nf => ?_⟩
    generalize hE : upd _ pf _ = H2
    obtain ⟨s2, e2⟩ := gen_new hE nf
    clear hE
    -- the loop
    refine ⟨_, rfl, b, _, rfl, .inl (s2.seq (s1.seq hM)), _, _, _, (m.length + 7) / 8, rfl, ?_, ?_⟩
    · rw [hl]
      exact rg8 _ _ (by omega) (by omega)
    refine for_it walk_rangeC (fun i σ H' => Same H1 H' ∧ H' pf = some (.lst (vb ((Ql67.veiled k g m).take (8 * i)))) ∧ ∃ v v2 : Option V, σ = [some (.ref a), some (.int (g : Int)), some (.ref b), some (.ref pw), some (.ref pf), v, v2, none, none]) ⟨s2, e2, none, none, rfl⟩ (fun _ _ _ _ _ => trivial) ?_ ?_
    · rintro i x σ H' H'' hi ⟨s3, e3, v, v2, rfl⟩ ⟨rfl, rfl⟩
      have ei : (0 : Int) + (i : Int) * 8 = ((8 * i : Nat) : Int) := by omega
      have ej : (0 : Int) + (i : Int) * 8 + 8 = ((8 * i + 8 : Nat) : Int) := by omega
      have hx : (g + i) % 2 ^ 64 < 2 ^ 64 := Nat.mod_lt _ (by decide)
      -- stream
      refine ⟨_, rfl, _, rfl, _, rfl, _, _, rfl, rfl, zD8, _, _, rfl, rfl, _, _, rfl, rfl, zB, pw, words (Ql67.key2 k), (g + i) % 2 ^ 64, ?_, lst_of (s3 _ _ e1), words_len _, hx, blk (words (Ql67.key2 k)) ((g + i) % 2 ^ 64), 8, rfl, by decide, fun H4 p4 s4 n4 e4 => ?_⟩
      · exact congrArg (fun z => [V.ref pw, V.int z]) (block_no g i)
      have e4' : H4 p4 = some (.lst (vb (eightAt k g i))) := by
        have e := block_eq (Ql67.key2 k) hx
        unfold eightAt
        rw [e]
        exact e4
      -- the comprehension
      refine ⟨_, rfl, .inl ⟨rfl, _, lst_of (s4 _ _ e3)⟩, ?_⟩
      refine ⟨_, rfl, _, rfl, _, rfl, _, rfl, _, _, rfl, rfl, _, rfl, b, _, rfl, s4.seq (s3.seq (s1.seq hM)), fun p5 n5 => ?_⟩
      generalize hE : upd _ p5 _ = H5
      obtain ⟨s5, e5⟩ := gen_new hE n5
      clear hE
      rw [cut_vb m ei ej] at e5
      refine ⟨_, rfl, p5, p4, _, _, rfl, lst_of e5, lst_of (s5 _ _ e4'), fun D hD => ?_⟩
      refine lc_it (walk_zip rfl) (fun j H6 => Same H5 H6 ∧ H6 D = some (.lst (vb ((List.zipWith (fun (a b : Nat) => a ^^^ b) ((m.drop (8 * i)).take 8) (eightAt k g i)).take j)))) ⟨same_upd hD, upd_same⟩ (fun j H6 _ h => ⟨lst_of (h.1 _ _ e5), lst_of (h.1 _ _ (s5 _ _ e4'))⟩) ?_ ?_
      · rintro j y H6 H7 hj ⟨s6, e6⟩ ⟨t, x1, y1, rfl, nt, rfl, h1, h2⟩
        obtain ⟨n1, hn1, rfl⟩ := vb_at h1
        obtain ⟨n2, hn2, rfl⟩ := vb_at h2
        have hz := zip_get hn1 hn2
        refine ⟨t, _, rfl, tup_of upd_same, rfl, _, _, rfl, _, _, rfl, rfl, rfl, _, rfl, _, rfl, _, _, rfl, rfl, _, same_upd nt _ _ e6, ?_, same_set (same_new s6 nt) hD, ?_⟩
        · rw [vb_length]
          exact lt_line (Nat.le_trans (List.length_take_le _ _) (by have := (List.getElem?_eq_some_iff.mp hn1).1; rw [List.length_take] at this; omega))
        · rw [upd_same, vb_more hz, ← i_xor]
      · rintro H6 ⟨s6, e6⟩
        rw [List.take_of_length_le (by rw [List.length_zipWith, vb_length, vb_length]; exact Nat.le_refl _)] at e6
        have e7 := s6 _ _ (s5 _ _ (s4 _ _ e3))
        refine ⟨pf, D, _, _, rfl, rfl, e7, e6, ?_, same_set (s3.trans (s4.trans (s5.trans s6))) nf, ?_, _, _, rfl⟩
        · rw [vb_length, vb_length]
          exact le_line (by
            have h1 := List.length_take_le (8 * i) (Ql67.veiled k g m)
            have h2 : (List.zipWith (fun (a b : Nat) => a ^^^ b) ((m.drop (8 * i)).take 8) (eightAt k g i)).length ≤ 8 := by
              rw [List.length_zipWith, List.length_take]
              omega
            omega)
        · rw [upd_same, veiled_more k g m i (by omega), vb_append]
    · rintro σ H' ⟨s3, e3, v, v2, rfl⟩
      rw [List.take_of_length_le (by rw [veiled_length]; omega)] at e3
      exact ⟨_, rfl, q _ pf (s1.trans s3) (s1.free nf) e3⟩
/-! ### opened -/
theorem sc_opened : FnScope ["key", "row", "begin", "text"] ["key", "row"] (defScope s_opened) := ⟨rfl, rfl, rfl, by decide +kernel, rfl, by decide +kernel, by decide +kernel⟩
def sp_opened (K : PySem.W.Frag) : Sp := fun vs H Q _ => ∃ (a b : Addr) (k c : List Nat), vs = [.ref a, .ref b] ∧ SqL K H a (vb k) ∧ k.length = 16 ∧ SqL K H b (vb c) ∧ Ql67.Bytes c ∧ c.length ≤ 5000 ∧
  (Ql67.open_ k c = none → outV H Q .non) ∧ (∀ m, Ql67.open_ k c = some m → outL H Q m)
theorem open_short {k c : List Nat} (h : c.length < 8) : Ql67.open_ k c = none := if_pos h
theorem open_long {k c : List Nat} (h : ¬ c.length < 8) : Ql67.open_ k c = if Ql67.sum k (Ql67.veiled k (Ql67.num (c.take 8)) (c.drop 8)) = Ql67.num (c.take 8) then some (Ql67.veiled k (Ql67.num (c.take 8)) (c.drop 8)) else none := if_neg h
theorem open_len {k c m : List Nat} (h : Ql67.open_ k c = some m) : m.length ≤ c.length := by
  by_cases q : c.length < 8
  · rw [open_short q] at h
    cases h
  · rw [open_long q] at h
    by_cases e : Ql67.sum k (Ql67.veiled k (Ql67.num (c.take 8)) (c.drop 8)) = Ql67.num (c.take 8)
    · rw [if_pos e] at h
      injection h with h
      rw [← h, veiled_length, List.length_drop]
      omega
    · rw [if_neg e] at h
      cases h
theorem ok_opened {f : Addr} {fd : FuncData} (F : Fun K "opened" "opened" s_opened f fd) (T : Txt K mg) (G1 : Df P w K mg base CX0 3 "sum_of" ["key", "text"] (sp_sum_of K)) (G2 : Df P w K mg base CX0 1 "number_of" ["row"] (sp_number_of K))
    (G3 : Df P w K mg base CX0 3 "streamed" ["key", "begin", "text"] (sp_streamed K)) : FnOk P w K mg base CX0 4 f fd ["key", "row"] (sp_opened K) := by
  refine F.ok sc_opened (fun vs H Q E h => ?_) (fun cdv A outer s H vs Q E hr h => ?_)
  · obtain ⟨a, b, k, c, rfl, _⟩ := h
    rfl
  · obtain ⟨a, b, k, c, rfl, hK, hk, hC, hB, hlen, qN, qS⟩ := h
    refine ⟨_, pss_cons (ps_if (pt_cmpR op_lt (pe_callB call_len_seq (by rfl) T.b_len PySem.boot_len (pa_cons (pv 1) pa_nil)) (pe_gv T.c_BLOCK_BYTES) (nomark _)) (pss_one (ps_ret pe_non)) pss_nil)
      (pss_cons (ps_set (i := 2) sc_opened.nd rfl (Or.inl rfl) (pe_callD G2 (hr.mono (by decide)) pass0 (pa_cons (pe_slice sl_list (pv 1) po_none (po_some (pe_gv T.c_BLOCK_BYTES))) pa_nil)))
      (pss_cons (ps_set (i := 3) sc_opened.nd rfl (Or.inl rfl) (pe_callD G3 (hr.mono (by decide)) pass0 (pa_cons (pv 0) (pa_cons (pv 2) (pa_cons (pe_slice sl_list (pv 1) (po_some (pe_gv T.c_BLOCK_BYTES)) po_none) pa_nil)))))
      (pss_cons (ps_if (pt_cmpR op_ne (pe_callD G1 (hr.mono (by decide)) pass0 (pa_cons (pv 0) (pa_cons (pv 3) pa_nil))) (pv 2) (nomark _)) (pss_one (ps_ret pe_non)) pss_nil)
      (pss_one (ps_ret (pv 3)))))), ?_⟩
    have hl : (vb c).length = c.length := vb_length c
    refine ⟨_, rfl, b, _, rfl, .inl hC, _, _, rfl, rfl, _, rfl, ifB (fun c1 => ?_) (fun c1 => ?_)⟩
    · have c1' := of_decide_eq_true c1
      rw [hl] at c1'
      exact qN (open_short (by omega)) H (Same.refl H)
    have c1' := of_decide_eq_false c1
    rw [hl] at c1'
    have ho := open_long (k := k) (c := c) (by omega)
    -- begin
    refine ⟨_, rfl, _, rfl, b, _, rfl, hC, fun p1 n1 => ?_⟩
    generalize hE : upd _ p1 _ = H1
    obtain ⟨s1, e1⟩ := gen_new hE n1
    clear hE
    have ec : cutV (vb c) none (some 8) = vb (c.take 8) := (cut_to (vb c) 8).trans (vb_take c 8).symm
    rw [ec] at e1
    refine ⟨p1, _, rfl, lst_of e1, ?_⟩
    -- text
    refine ⟨_, rfl, _, rfl, _, rfl, _, rfl, b, _, rfl, s1.seq hC, fun p2 n2 => ?_⟩
    generalize hE : upd _ p2 _ = H2
    obtain ⟨s2, e2⟩ := gen_new hE n2
    clear hE
    have ec2 : cutV (vb c) (some 8) none = vb (c.drop 8) := (cut_from (vb c) 8).trans (vb_drop c 8).symm
    rw [ec2] at e2
    have s12 := s1.trans s2
    have hd : (c.drop 8).length ≤ 5000 := by rw [List.length_drop]; omega
    have hB2 : Ql67.Bytes (c.drop 8) := fun x hx => hB x (List.mem_of_mem_drop hx)
    refine ⟨a, p2, k, c.drop 8, Ql67.num (c.take 8), rfl, s12.seq hK, hk, lst_of e2, by omega, fun H3 p3 s3 n3 e3 => ?_⟩
    have s13 := s12.trans s3
    -- the sum
    refine ⟨_, rfl, _, rfl, a, p3, k, _, rfl, s13.seq hK, hk, lst_of e3, veiled_lt _ _ _ hB2, by rw [veiled_length]; omega, fun H4 s4 => ?_⟩
    have s14 := s13.trans s4
    refine ⟨_, rfl, rfl, _, rfl, ifB (fun c2 => ?_) (fun c2 => ?_)⟩
    · refine qN ?_ H4 s14
      rw [ho, if_neg]
      intro e
      rw [e] at c2
      simp at c2
    · have e : Ql67.sum k (Ql67.veiled k (Ql67.num (c.take 8)) (c.drop 8)) = Ql67.num (c.take 8) := by
        have c2' := of_decide_eq_true (Bool.not_eq_false' .. ▸ c2 : decide _ = true)
        injection c2' with c2'
        omega
      rw [if_pos e] at ho
      exact ⟨_, rfl, qS _ ho H4 p3 s14 (s12.free n3) (s4 _ _ e3)⟩
/-! ### is_name_byte -/
theorem sc_is_name_byte : FnScope ["byte"] ["byte"] (defScope s_is_name_byte) := ⟨rfl, rfl, rfl, by decide +kernel, rfl, by decide +kernel, by decide +kernel⟩
def sp_is_name_byte : Sp := fun vs H Q _ => ∃ n : Nat, vs = [.int (n : Int)] ∧ Q (.bl (Ql67.sign n)) H
theorem sign_eq (n : Nat) : Ql67.sign n = ((decide ((97 : Int) ≤ n) && decide ((n : Int) ≤ 122)) || ((decide ((48 : Int) ≤ n) && decide ((n : Int) ≤ 57)) || (decide (V.int (n : Int) = V.int 46) || decide (V.int (n : Int) = V.int 45)))) := by
  have h1 : decide (V.int (n : Int) = V.int 46) = (n == 46) := by
    rw [dec_int, Bool.eq_iff_iff, beq_iff_eq, beq_iff_eq]
    omega
  have h2 : decide (V.int (n : Int) = V.int 45) = (n == 45) := by
    rw [dec_int, Bool.eq_iff_iff, beq_iff_eq, beq_iff_eq]
    omega
  have h3 : decide ((97 : Int) ≤ n) = decide (97 ≤ n) := by
    rw [Bool.eq_iff_iff, decide_eq_true_iff, decide_eq_true_iff]
    omega
  have h4 : decide ((n : Int) ≤ 122) = decide (n ≤ 122) := by
    rw [Bool.eq_iff_iff, decide_eq_true_iff, decide_eq_true_iff]
    omega
  have h5 : decide ((48 : Int) ≤ n) = decide (48 ≤ n) := by
    rw [Bool.eq_iff_iff, decide_eq_true_iff, decide_eq_true_iff]
    omega
  have h6 : decide ((n : Int) ≤ 57) = decide (n ≤ 57) := by
    rw [Bool.eq_iff_iff, decide_eq_true_iff, decide_eq_true_iff]
    omega
  unfold Ql67.sign
  rw [h1, h2, h3, h4, h5, h6, Bool.decide_and, Bool.decide_and]
theorem ok_is_name_byte {f : Addr} {fd : FuncData} (F : Fun K "is_name_byte" "is_name_byte" s_is_name_byte f fd) (T : Txt K mg) : FnOk P w K mg base CX0 1 f fd ["byte"] sp_is_name_byte := by
  refine F.ok sc_is_name_byte (fun vs H Q E h => ?_) (fun cdv A outer s H vs Q E hr h => ?_)
  · obtain ⟨n, rfl, _⟩ := h
    rfl
  · obtain ⟨n, rfl, q⟩ := h
    refine ⟨_, pss_one (ps_ret (pe_or (pe_and (pe_cmpR op_le pe_int (pv 0) (nomark _)) (pe_one (pe_cmpR op_le (pv 0) pe_int (nomark _))))
      (pe_or (pe_and (pe_cmpR op_le pe_int (pv 0) (nomark _)) (pe_one (pe_cmpR op_le (pv 0) pe_int (nomark _))))
      (pe_or (pe_cmpR op_eq (pv 0) (pe_gv T.c_POINT) (nomark _)) (pe_one (pe_cmpR op_eq (pv 0) (pe_gv T.c_HYPHEN) (nomark _))))))), ?_⟩
    refine ev_or (ev_and (a := decide ((97 : Int) ≤ n)) (b := decide ((n : Int) ≤ 122)) ?_ ?_) (ev_or (ev_and (a := decide ((48 : Int) ≤ n)) (b := decide ((n : Int) ≤ 57)) ?_ ?_) (ev_or (a := decide (V.int (n : Int) = V.int 46)) (b := decide (V.int (n : Int) = V.int 45)) ?_ ?_)) _ ?_
    · exact fun Q' q' => ⟨_, rfl, _, _, rfl, rfl, q'⟩
    · exact fun Q' q' => ⟨_, rfl, _, _, rfl, rfl, q'⟩
    · exact fun Q' q' => ⟨_, rfl, _, _, rfl, rfl, q'⟩
    · exact fun Q' q' => ⟨_, rfl, _, _, rfl, rfl, q'⟩
    · exact fun Q' q' => ⟨_, rfl, rfl, q'⟩
    · exact fun Q' q' => ⟨_, rfl, rfl, q'⟩
    · rw [← sign_eq]
      exact q
/-! ### is_name -/
theorem sc_is_name : FnScope ["row", "byte"] ["row"] (defScope s_is_name) := ⟨rfl, rfl, rfl, by decide +kernel, rfl, by decide +kernel, by decide +kernel⟩
def sp_is_name (K : PySem.W.Frag) : Sp := fun vs H Q _ => ∃ (a : Addr) (l : List Nat), vs = [.ref a] ∧ SqL K H a (vb l) ∧ outV H Q (.bl (Ql67.isName l))
theorem ok_is_name {f : Addr} {fd : FuncData} (F : Fun K "is_name" "is_name" s_is_name f fd) (T : Txt K mg) (G1 : Df P w K mg base CX0 1 "is_name_byte" ["byte"] sp_is_name_byte) : FnOk P w K mg base CX0 2 f fd ["row"] (sp_is_name K) := by
  refine F.ok sc_is_name (fun vs H Q E h => ?_) (fun cdv A outer s H vs Q E hr h => ?_)
  · obtain ⟨a, l, rfl, _⟩ := h
    rfl
  · obtain ⟨a, l, rfl, hS, q⟩ := h
    refine ⟨_, pss_one (ps_ret (pe_and (pe_cmpR op_le pe_int (pe_callB call_len_seq (by rfl) T.b_len PySem.boot_len (pa_cons (pv 0) pa_nil)) (nomark _))
      (pe_and (pe_cmpR op_le (pe_callB call_len_seq (by rfl) T.b_len PySem.boot_len (pa_cons (pv 0) pa_nil)) (pe_gv T.c_MOST_NAME) (nomark _))
      (pe_one (pe_callB (cr_all rfl) (by rfl) T.b_all (by decide +kernel) (pa_cons (pe_lc (own := [("byte", 1)]) (g := gName 1) (tt := tYes) rfl sc_is_name.nd (pi_list (pv 0))
        (blkOk_by (own := [("byte", 1)]) (N := ["row", "byte"]) (sc := defScope s_is_name) (by decide +kernel)) (fun _ _ _ _ _ => pg_name (i := 1) sc_is_name.nd rfl (Or.inl rfl)) (fun _ _ _ _ _ => pts_nil)
        (fun _ _ _ _ _ => pe_callD G1 (hr.mono (by decide)) pass0 (pa_cons (pv 1) pa_nil))) pa_nil)))))), ?_⟩
    have hl : (vb l).length = l.length := vb_length l
    refine ⟨_, rfl, a, _, rfl, .inl hS, _, _, rfl, rfl, _, rfl, ifB (fun c1 => ?_) (fun c1 => ?_)⟩
    · have c1' := of_decide_eq_true c1
      rw [hl] at c1'
      refine ⟨_, rfl, a, _, rfl, .inl hS, _, _, rfl, rfl, _, rfl, ifB (fun c2 => ?_) (fun c2 => ?_)⟩
      · have c2' := of_decide_eq_true c2
        rw [hl] at c2'
        refine ⟨_, rfl, a, rfl, ⟨_, hS⟩, fun D hD => ?_⟩
        refine lc_list (K := K) (a := a) (xs := vb l) (fun i H' => Same H H' ∧ H' D = some (.lst (((l.take i).map Ql67.sign).map V.bl))) ⟨same_upd hD, upd_same⟩ (fun i H' _ h => h.1.seq hS) ?_ ?_
        · rintro i x H1 hx ⟨s1, e1⟩
          obtain ⟨n, hn, rfl⟩ := vb_at hx
          refine ⟨rfl, _, rfl, n, rfl, _, e1, ?_, same_set s1 hD, ?_⟩
          · rw [List.length_map, List.length_map]
            exact lt_line (Nat.le_trans (List.length_take_le _ _) (by have := (List.getElem?_eq_some_iff.mp hn).1; omega))
          · rw [upd_same, List.take_add_one, hn, List.map_append, List.map_append]
            rfl
        · rintro H1 ⟨s1, e1⟩
          rw [hl, List.take_length] at e1
          refine ⟨D, l.map Ql67.sign, rfl, lst_of e1, ?_⟩
          have e : Ql67.isName l = (l.map Ql67.sign).all id := by
            unfold Ql67.isName
            rw [decide_eq_true (show 1 ≤ l.length ∧ l.length ≤ 32 from ⟨by omega, by omega⟩), Bool.true_and, List.all_map]
            rfl
          have q' := q H1 s1
          rw [e] at q'
          exact q'
      · have c2' := of_decide_eq_false c2
        rw [hl] at c2'
        have e : Ql67.isName l = false := by
          unfold Ql67.isName
          rw [decide_eq_false (fun h => by omega), Bool.false_and]
        have q' := q H (Same.refl H)
        rw [e] at q'
        exact q'
    · have c1' := of_decide_eq_false c1
      rw [hl] at c1'
      have e : Ql67.isName l = false := by
        unfold Ql67.isName
        rw [decide_eq_false (fun h => by omega), Bool.false_and]
      have q' := q H (Same.refl H)
      rw [e] at q'
      exact q'
/-! ### time_told -/
theorem sc_time_told : FnScope ["number"] ["number"] (defScope s_time_told) := ⟨rfl, rfl, rfl, by decide +kernel, rfl, by decide +kernel, by decide +kernel⟩
def sp_time_told : Sp := fun vs H Q _ => ∃ n : Nat, vs = [.int (n : Int)] ∧ outL H Q (Ql67.be 8 n)
theorem ok_time_told {f : Addr} {fd : FuncData} (F : Fun K "time_told" "time_told" s_time_told f fd) (T : Txt K mg) (G1 : Df P w K mg base CX0 1 "high_first" ["number", "many"] sp_high_first) : FnOk P w K mg base CX0 2 f fd ["number"] sp_time_told := by
  refine F.ok sc_time_told (fun vs H Q E h => ?_) (fun cdv A outer s H vs Q E hr h => ?_)
  · obtain ⟨n, rfl, _⟩ := h
    rfl
  · obtain ⟨n, rfl, q⟩ := h
    refine ⟨_, pss_one (ps_ret (pe_callD G1 (hr.mono (by decide)) pass0 (pa_cons (pv 0) (pa_cons (pe_gv T.c_TIME_BYTES) pa_nil)))), ?_⟩
    exact ⟨_, rfl, n, 8, rfl, by decide, q⟩
/-! ### Reader.__init__ -/
theorem sc_Reader___init__ : FnScope ["self", "data"] ["self", "data"] (defScope s_Reader___init__) := ⟨rfl, rfl, rfl, by decide +kernel, rfl, by decide +kernel, by decide +kernel⟩
def rdF (d : Addr) (n : Int) : List (Str × V) := [("data", .ref d), ("at", .int n)]
/-- a reader at a: r is what is still to be read -/
def RdAt (K : PySem.W.Frag) (C : Addr) (H : Hp) (a : Addr) (r : List Nat) : Prop := ∃ (dx d : Addr) (l : List Nat) (n : Nat), H a = some (.ins C dx (rdF d (n : Int))) ∧ SqL K H d (vb l) ∧ n ≤ l.length ∧ l.drop n = r ∧ l.length ≤ 5000
theorem rd_data (d : Addr) (n : Int) : (rdF d n).lookup ("data" : Str) = some (.ref d) := lk_here
theorem rd_at (d : Addr) (n : Int) : (rdF d n).lookup ("at" : Str) = some (.int n) := (lk_past (by decide +kernel)).trans lk_here
theorem rd_no (d : Addr) (n : Int) (m : Str) (h1 : (m == ("data" : Str)) = false) (h2 : (m == ("at" : Str)) = false) : (rdF d n).lookup m = none := (lk_past h1).trans ((lk_past h2).trans rfl)
theorem rd_put (d : Addr) (n m : Int) : putF "at" (.int m) (rdF d n) = rdF d m := (put_past (by decide +kernel)).trans (congrArg _ put_here)
theorem rd_new (d : Addr) : putF "at" (.int 0) (putF "data" (.ref d) []) = rdF d 0 := (put_past (by decide +kernel)).trans rfl
theorem KeepB.rd {K : PySem.W.Frag} {C : Addr} {H H' : Hp} {a b : Addr} {xs : List V} {dx : Addr} {fs : List (Str × V)} (k : KeepB H H' a) (h : H a = some (.ins C dx fs)) (hs : SqL K H b xs) : SqL K H' b xs :=
  k.seq (fun ys e => by rw [h] at e; cases e) (fun o u e => by rw [h] at e; cases e) hs
theorem RdAt.same {K : PySem.W.Frag} {C : Addr} {H H' : Hp} {a : Addr} {r : List Nat} (s : Same H H') (h : RdAt K C H a r) : RdAt K C H' a r := by
  obtain ⟨dx, d, l, n, h1, h2, h3, h4, h5⟩ := h
  exact ⟨dx, d, l, n, s _ _ h1, s.seq h2, h3, h4, h5⟩
theorem RdAt.meth {K : PySem.W.Frag} {C : Addr} {H : Hp} {a : Addr} {r : List Nat} (h : RdAt K C H a r) : ∃ dx fs, H a = some (.ins C dx fs) ∧ ∀ m : Str, (m == ("data" : Str)) = false → (m == ("at" : Str)) = false → fs.lookup m = none := by
  obtain ⟨dx, d, l, n, h1, _⟩ := h
  exact ⟨dx, _, h1, fun m => rd_no d _ m⟩
def sp_Reader___init__ (K : PySem.W.Frag) (C : Addr) : Sp := fun vs H Q _ => ∃ (x dx d : Addr) (l : List Nat), vs = [.ref x, .ref d] ∧ H x = some (.ins C dx []) ∧ SqL K H d (vb l) ∧ l.length ≤ 5000 ∧ ∀ H' : Hp, KeepB H H' x → RdAt K C H' x l → Q .non H'
theorem ok_Reader___init__ {C : Cs} {f : Addr} {fd : FuncData} (F : Fun K "__init__" "Reader.__init__" s_Reader___init__ f fd) (T : Txt K mg) (TC : TxtC K mg C) : FnOk P w K mg base CX0 1 f fd ["self", "data"] (sp_Reader___init__ K C.Reader) := by
  refine F.ok sc_Reader___init__ (fun vs H Q E h => ?_) (fun cdv A outer s H vs Q E hr h => ?_)
  · obtain ⟨x, dx, d, l, rfl, _⟩ := h
    rfl
  · obtain ⟨x, dx, d, l, rfl, hx, hS, hl, q⟩ := h
    refine ⟨_, pss_cons (ps_fld (pv 0) (pv 1) rfl) (pss_one (ps_fld (pv 0) pe_int rfl)), ?_⟩
    refine ⟨_, rfl, _, rfl, x, C.Reader, dx, [], rfl, hx, TC.Reader_cl, TC.Reader_no_data, (by show 0 < 1000; decide), ?_⟩
    refine ⟨_, rfl, x, C.Reader, dx, _, rfl, upd_same, TC.Reader_cl, TC.Reader_no_at, (by show 1 < 1000; decide), ?_⟩
    have kp : KeepB H (upd (upd H x (.ins C.Reader dx (putF "data" (.ref d) []))) x (.ins C.Reader dx (putF "at" (.int 0) (putF "data" (.ref d) [])))) x := keepB_set.trans keepB_set
    exact q _ kp ⟨dx, d, l, 0, upd_same.trans (congrArg (fun z => some (HO.ins C.Reader dx z)) (rd_new d)), kp.rd hx hS, Nat.zero_le _, rfl, hl⟩
/-! ### Reader.some -/
theorem sc_Reader_some : FnScope ["self", "many"] ["self", "many"] (defScope s_Reader_some) := ⟨rfl, rfl, rfl, by decide +kernel, rfl, by decide +kernel, by decide +kernel⟩
def sp_Reader_some (K : PySem.W.Frag) (C CN : Addr) : Sp := fun vs H Q E => ∃ (a : Addr) (r : List Nat) (n : Nat), vs = [.ref a, .int (n : Int)] ∧ RdAt K C H a r ∧
  (Ql67.takeBytes n r = none → ∀ H' : Hp, KeepB H H' a → E (.ref CN) none H') ∧
  (∀ x s, Ql67.takeBytes n r = some (x, s) → ∀ (H' : Hp) (p : Addr), KeepB H H' a → H p = none → H' p = some (.lst (vb x)) → RdAt K C H' a s → Q (.ref p) H')
theorem take_no {n : Nat} {r : List Nat} (h : r.length < n) : Ql67.takeBytes n r = none := if_neg (by omega)
theorem take_yes {n : Nat} {r : List Nat} (h : n ≤ r.length) : Ql67.takeBytes n r = some (r.take n, r.drop n) := if_pos h
theorem ok_Reader_some {C : Cs} {f : Addr} {fd : FuncData} (F : Fun K "some" "Reader.some" s_Reader_some f fd) (T : Txt K mg) (TC : TxtC K mg C) : FnOk P w K mg base (L2.CX P w) 1 f fd ["self", "many"] (sp_Reader_some K C.Reader C.NoMessage) := by
  refine F.okX sc_Reader_some (fun vs H Q E h => ?_) (fun cdv A outer s H vs Q E hr h => ?_)
  · obtain ⟨a, r, n, rfl, _⟩ := h
    rfl
  · obtain ⟨a, r, n, rfl, ⟨dx, d, l, m, h1, hS, hm, hd, hl⟩, kN, kS⟩ := h
    refine ⟨_, pss_cons (ps_if (pt_cmpR op_gt (pe_op op_add (pe_fld (pv 0) rfl) (pv 1)) (pe_callB call_len_seq (by rfl) T.b_len PySem.boot_len (pa_cons (pe_fld (pv 0) rfl) pa_nil)) (nomark _))
        (pss_one (ps_raise rfl (takes_of rfl rfl rfl rfl) (pmk_own PySem.F.excBase_ValueError TC.NoMessage_x TC.NoMessage_g TC.NoMessage_k (raises_own TC.NoMessage_b TC.NoMessage_t) (by exact rfl)))) pss_nil)
      (pss_cons (ps_fldaug (pv 0) (pv 1) in_add)
      (pss_one (ps_ret (pe_slice sl_list (pe_fld (pv 0) rfl) (po_some (pe_op op_sub (pe_fld (pv 0) rfl) (pv 1))) (po_some (pe_fld (pv 0) rfl)))))), ?_⟩
    have hlen : (vb l).length = l.length := vb_length l
    have hr' : r.length = l.length - m := by rw [← hd, List.length_drop]
    refine ⟨_, rfl, a, C.Reader, dx, _, _, rfl, h1, TC.Reader_cl, TC.Reader_no_at, rd_at d m, _, rfl, _, _, rfl, rfl, _, rfl, a, C.Reader, dx, _, _, rfl, h1, TC.Reader_cl, TC.Reader_no_data, rd_data d m, d, _, rfl, .inl hS, _, _, rfl, rfl, _, rfl, ifB (fun c1 => ?_) (fun c1 => ?_)⟩
    · have c1' := of_decide_eq_true c1
      rw [hlen] at c1'
      exact kN (take_no (by omega)) H (KeepB.refl H a)
    · have c1' := of_decide_eq_false c1
      rw [hlen] at c1'
      refine ⟨_, rfl, a, C.Reader, dx, _, _, rfl, h1, TC.Reader_cl, TC.Reader_no_at, rd_at d m, _, rfl, _, _, rfl, rfl, dx, _, h1, (by show 2 < 1000; decide), ?_⟩
      generalize hE : upd H a _ = H1
      have k1 : KeepB H H1 a := by
        rw [← hE]
        exact keepB_set
      have h2 : H1 a = some (.ins C.Reader dx (rdF d ((m + n : Nat) : Int))) := by
        rw [← hE, upd_same, rd_put, Int.natCast_add]
      clear hE
      have hS1 : SqL K H1 d (vb l) := k1.rd h1 hS
      refine ⟨_, rfl, a, C.Reader, dx, _, _, rfl, h2, TC.Reader_cl, TC.Reader_no_data, rd_data d _, _, rfl, a, C.Reader, dx, _, _, rfl, h2, TC.Reader_cl, TC.Reader_no_at, rd_at d _, _, rfl, _, _, rfl, rfl, _, rfl, _, rfl, a, C.Reader, dx, _, _, rfl, h2, TC.Reader_cl, TC.Reader_no_at, rd_at d _, _, rfl, d, _, rfl, hS1, fun p np => ?_⟩
      generalize hE : upd _ p _ = H2
      obtain ⟨s2, e2⟩ := gen_new hE np
      clear hE
      rw [cut_vb l (a := m) (n := n) (by omega) rfl, hd] at e2
      have k2 : KeepB H H2 a := k1.trans (KeepB.of s2)
      refine kS _ _ (take_yes (by omega)) H2 p k2 ?_ e2 ⟨dx, d, l, m + n, s2 _ _ h2, s2.seq hS1, by omega, ?_, hl⟩
      · cases e : H p with
        | none => rfl
        | some o =>
          by_cases ep : p = a
          · rw [ep, h2] at np
            cases np
          · rw [k1 p o ep e] at np
            cases np
      · rw [← hd, List.drop_drop]
/-! ### Reader.number -/
theorem sc_Reader_number : FnScope ["self", "many"] ["self", "many"] (defScope s_Reader_number) := ⟨rfl, rfl, rfl, by decide +kernel, rfl, by decide +kernel, by decide +kernel⟩
def sp_Reader_number (K : PySem.W.Frag) (C CN : Addr) : Sp := fun vs H Q E => ∃ (a : Addr) (r : List Nat) (n : Nat), vs = [.ref a, .int (n : Int)] ∧ RdAt K C H a r ∧
  (Ql67.takeNum n r = none → ∀ H' : Hp, KeepB H H' a → E (.ref CN) none H') ∧
  (∀ x s, Ql67.takeNum n r = some (x, s) → ∀ (H' : Hp), KeepB H H' a → RdAt K C H' a s → Q (.int (x : Nat)) H')
theorem num_no {n : Nat} {r : List Nat} (h : Ql67.takeBytes n r = none) : Ql67.takeNum n r = none := by
  unfold Ql67.takeNum
  rw [h]
  rfl
theorem num_yes {n : Nat} {r x s : List Nat} (h : Ql67.takeBytes n r = some (x, s)) : Ql67.takeNum n r = some (Ql67.num x, s) := by
  unfold Ql67.takeNum
  rw [h]
  rfl
theorem ok_Reader_number {C : Cs} {f : Addr} {fd : FuncData} (F : Fun K "number" "Reader.number" s_Reader_number f fd) (T : Txt K mg) (TC : TxtC K mg C) (G1 : Mt P w K mg base (L2.CX P w) 1 C.Reader "some" ["self", "many"] (sp_Reader_some K C.Reader C.NoMessage))
    (G2 : Df P w K mg base CX0 1 "number_of" ["row"] (sp_number_of K)) : FnOk P w K mg base (L2.CX P w) 2 f fd ["self", "many"] (sp_Reader_number K C.Reader C.NoMessage) := by
  refine F.okX sc_Reader_number (fun vs H Q E h => ?_) (fun cdv A outer s H vs Q E hr h => ?_)
  · obtain ⟨a, r, n, rfl, _⟩ := h
    rfl
  · obtain ⟨a, r, n, rfl, hR, kN, kS⟩ := h
    refine ⟨_, pss_one (ps_ret (pe_callD G2 (hr.mono (by decide)) pass0 (pa_cons (pe_methD G1 (pv 0) TC.Reader_cl (hr.mono (by decide)) passX (pa_cons (pv 1) pa_nil)) pa_nil))), ?_⟩
    obtain ⟨dx, d, l, m, h1, h2⟩ := id hR
    refine ⟨_, rfl, a, dx, _, rfl, h1, rd_no d _ _ (by decide +kernel) (by decide +kernel), _, rfl, a, r, n, rfl, hR, fun e H1 k1 => kN (num_no e) H1 k1, fun x s e H1 p k1 n1 e1 r1 => ?_⟩
    exact ⟨p, x, rfl, lst_of e1, kS _ _ (num_yes e) H1 k1 r1⟩
/-! ### Reader.take_name -/
theorem sc_Reader_take_name : FnScope ["self", "found"] ["self"] (defScope s_Reader_take_name) := ⟨rfl, rfl, rfl, by decide +kernel, rfl, by decide +kernel, by decide +kernel⟩
def sp_Reader_take_name (K : PySem.W.Frag) (C CN : Addr) : Sp := fun vs H Q E => ∃ (a : Addr) (r : List Nat), vs = [.ref a] ∧ RdAt K C H a r ∧
  (Ql67.takeName r = none → ∀ H' : Hp, KeepB H H' a → E (.ref CN) none H') ∧
  (∀ x s, Ql67.takeName r = some (x, s) → ∀ (H' : Hp) (p : Addr), KeepB H H' a → H p = none → H' p = some (.tup (vb x)) → RdAt K C H' a s → Q (.ref p) H')
theorem name_nil : Ql67.takeName [] = none := rfl
theorem one_nil : Ql67.takeNum 1 [] = none := rfl
theorem one_cons (c : Nat) (r : List Nat) : Ql67.takeNum 1 (c :: r) = some (c, r) := by
  have e : Ql67.takeBytes 1 (c :: r) = some ([c], r) := if_pos (by show 1 ≤ r.length + 1; omega)
  rw [num_yes e]
  show some (256 * 0 + c, r) = some (c, r)
  rw [Nat.mul_zero, Nat.zero_add]
theorem name_short {c : Nat} {r : List Nat} (h : Ql67.takeBytes c r = none) : Ql67.takeName (c :: r) = none := by
  have h' : ¬ c ≤ r.length := fun q => by
    rw [take_yes q] at h
    cases h
  exact if_neg fun q => h' q.1
theorem name_bad {c : Nat} {r x s : List Nat} (h : Ql67.takeBytes c r = some (x, s)) (b : Ql67.isName x = false) : Ql67.takeName (c :: r) = none := by
  by_cases q : c ≤ r.length
  · rw [take_yes q] at h
    injection h with h
    injection h with h1 h2
    subst h1
    exact if_neg fun z => by
      rw [b] at z
      cases z.2
  · rw [take_no (by omega)] at h
    cases h
theorem name_good {c : Nat} {r x s : List Nat} (h : Ql67.takeBytes c r = some (x, s)) (b : Ql67.isName x = true) : Ql67.takeName (c :: r) = some (x, s) := by
  by_cases q : c ≤ r.length
  · rw [take_yes q] at h
    injection h with h
    injection h with h1 h2
    subst h1 h2
    exact if_pos ⟨q, b⟩
  · rw [take_no (by omega)] at h
    cases h
theorem ok_Reader_take_name {C : Cs} {f : Addr} {fd : FuncData} (F : Fun K "take_name" "Reader.take_name" s_Reader_take_name f fd) (T : Txt K mg) (TC : TxtC K mg C) (G1 : Mt P w K mg base (L2.CX P w) 1 C.Reader "some" ["self", "many"] (sp_Reader_some K C.Reader C.NoMessage))
    (G2 : Mt P w K mg base (L2.CX P w) 2 C.Reader "number" ["self", "many"] (sp_Reader_number K C.Reader C.NoMessage)) (G3 : Df P w K mg base CX0 2 "is_name" ["row"] (sp_is_name K)) :
    FnOk P w K mg base (L2.CX P w) 3 f fd ["self"] (sp_Reader_take_name K C.Reader C.NoMessage) := by
  refine F.okX sc_Reader_take_name (fun vs H Q E h => ?_) (fun cdv A outer s H vs Q E hr h => ?_)
  · obtain ⟨a, r, rfl, _⟩ := h
    rfl
  · obtain ⟨a, r, rfl, hR, kN, kS⟩ := h
    refine ⟨_, pss_cons (ps_set (i := 1) sc_Reader_take_name.nd rfl (Or.inl rfl) (pe_methD G1 (pv 0) TC.Reader_cl (hr.mono (by decide)) passX (pa_cons (pe_methD G2 (pv 0) TC.Reader_cl (hr.mono (by decide)) passX (pa_cons pe_int pa_nil)) pa_nil)))
      (pss_cons (ps_if (pt_not (pt_val (pe_callD G3 (hr.mono (by decide)) pass0 (pa_cons (pv 1) pa_nil))))
        (pss_one (ps_raise rfl (takes_of rfl rfl rfl rfl) (pmk_own PySem.F.excBase_ValueError TC.NoMessage_x TC.NoMessage_g TC.NoMessage_k (raises_own TC.NoMessage_b TC.NoMessage_t) (by exact rfl)))) pss_nil)
      (pss_one (ps_ret (pe_callTy call_tuple_of (by rfl) T.b_tuple (by decide +kernel) (pa_cons (pv 1) pa_nil))))), ?_⟩
    obtain ⟨dx, d, l, m, h1, h2⟩ := id hR
    refine ⟨_, rfl, a, dx, _, rfl, h1, rd_no d _ _ (by decide +kernel) (by decide +kernel), ?_⟩
    refine ⟨_, rfl, a, dx, _, rfl, h1, rd_no d _ _ (by decide +kernel) (by decide +kernel), a, r, 1, rfl, hR, fun e H1 k1 => ?_, fun c s e H1 k1 r1 => ?_⟩
    · cases r with
      | nil => exact kN name_nil H1 k1
      | cons c r =>
        rw [one_cons] at e
        cases e
    · cases r with
      | nil => cases e
      | cons c' r =>
        rw [one_cons] at e
        injection e with e
        injection e with e1 e2
        subst e1 e2
        refine ⟨a, r, c', rfl, r1, fun e H2 k2 => kN (name_short e) H2 (k1.trans k2), fun x s e H2 p k2 n2 e2 r2 => ?_⟩
        have np : H p = none := by
          cases q : H p with
          | none => rfl
          | some o =>
            by_cases ep : p = a
            · obtain ⟨dx', d', l', m', h1', _⟩ := r1
              rw [ep, h1'] at n2
              cases n2
            · rw [k1 p o ep q] at n2
              cases n2
        refine ⟨_, rfl, p, x, rfl, lst_of e2, fun H3 s3 => ⟨_, rfl, ifB (fun c1 => ?_) (fun c1 => ?_)⟩⟩
        · exact kN (name_bad e (by simpa using c1)) H3 ((k1.trans k2).trans (KeepB.of s3))
        · have hn : Ql67.isName x = true := by simpa using c1
          refine ⟨_, rfl, p, _, rfl, .inl ⟨lst_of (s3 _ _ e2), fun q nq => ?_⟩⟩
          have k3 := (k1.trans k2).trans (KeepB.of s3)
          refine kS _ _ (name_good e hn) _ q (k3.trans (KeepB.of (same_upd nq))) ?_ upd_same (RdAt.same (same_upd nq) (RdAt.same s3 r2))
          cases z : H q with
          | none => rfl
          | some o =>
            by_cases ep : q = a
            · obtain ⟨dx', d', l', m', h1', _⟩ := RdAt.same s3 r2
              rw [ep, h1'] at nq
              cases nq
            · rw [k3 q o ep z] at nq
              cases nq
/-! ### Reader.row -/
theorem sc_Reader_row : FnScope ["self"] ["self"] (defScope s_Reader_row) := ⟨rfl, rfl, rfl, by decide +kernel, rfl, by decide +kernel, by decide +kernel⟩
def sp_Reader_row (K : PySem.W.Frag) (C CN : Addr) : Sp := fun vs H Q E => ∃ (a : Addr) (r : List Nat), vs = [.ref a] ∧ RdAt K C H a r ∧
  (Ql67.takeCounted r = none → ∀ H' : Hp, KeepB H H' a → E (.ref CN) none H') ∧
  (∀ x s, Ql67.takeCounted r = some (x, s) → ∀ (H' : Hp) (p : Addr), KeepB H H' a → H p = none → H' p = some (.lst (vb x)) → RdAt K C H' a s → Q (.ref p) H')
/-- new over the heap behind is new over the heap ahead -/
theorem new_of {K : PySem.W.Frag} {C : Addr} {H H1 : Hp} {a p : Addr} {r : List Nat} (k : KeepB H H1 a) (h : RdAt K C H1 a r) (n : H1 p = none) : H p = none := by
  cases q : H p with
  | none => rfl
  | some o =>
    by_cases ep : p = a
    · obtain ⟨dx', d', l', m', h1', _⟩ := h
      rw [ep, h1'] at n
      cases n
    · rw [k p o ep q] at n
      cases n
theorem ok_Reader_row {C : Cs} {f : Addr} {fd : FuncData} (F : Fun K "row" "Reader.row" s_Reader_row f fd) (T : Txt K mg) (TC : TxtC K mg C) (G1 : Mt P w K mg base (L2.CX P w) 1 C.Reader "some" ["self", "many"] (sp_Reader_some K C.Reader C.NoMessage))
    (G2 : Mt P w K mg base (L2.CX P w) 2 C.Reader "number" ["self", "many"] (sp_Reader_number K C.Reader C.NoMessage)) :
    FnOk P w K mg base (L2.CX P w) 3 f fd ["self"] (sp_Reader_row K C.Reader C.NoMessage) := by
  refine F.okX sc_Reader_row (fun vs H Q E h => ?_) (fun cdv A outer s H vs Q E hr h => ?_)
  · obtain ⟨a, r, rfl, _⟩ := h
    rfl
  · obtain ⟨a, r, rfl, hR, kN, kS⟩ := h
    refine ⟨_, pss_one (ps_ret (pe_methD G1 (pv 0) TC.Reader_cl (hr.mono (by decide)) passX (pa_cons (pe_methD G2 (pv 0) TC.Reader_cl (hr.mono (by decide)) passX (pa_cons (pe_gv T.c_LENGTH_BYTES) pa_nil)) pa_nil))), ?_⟩
    obtain ⟨dx, d, l, m, h1, h2⟩ := id hR
    refine ⟨_, rfl, a, dx, _, rfl, h1, rd_no d _ _ (by decide +kernel) (by decide +kernel), ?_⟩
    refine ⟨_, rfl, a, dx, _, rfl, h1, rd_no d _ _ (by decide +kernel) (by decide +kernel), a, r, 2, rfl, hR, fun e H1 k1 => ?_, fun c s e H1 k1 r1 => ?_⟩
    · refine kN ?_ H1 k1
      unfold Ql67.takeCounted
      rw [e]
      rfl
    · have ec : Ql67.takeCounted r = Ql67.takeBytes c s := by
        unfold Ql67.takeCounted
        rw [e]
        rfl
      exact ⟨a, s, c, rfl, r1, fun e2 H2 k2 => kN (ec.trans e2) H2 (k1.trans k2), fun x s' e2 H2 p k2 n2 o2 r2 => kS x s' (ec.trans e2) H2 p (k1.trans k2) (new_of k1 r1 n2) o2 r2⟩
/-! ### Reader.time -/
theorem sc_Reader_time : FnScope ["self"] ["self"] (defScope s_Reader_time) := ⟨rfl, rfl, rfl, by decide +kernel, rfl, by decide +kernel, by decide +kernel⟩
def sp_Reader_time (K : PySem.W.Frag) (C CN : Addr) : Sp := fun vs H Q E => ∃ (a : Addr) (r : List Nat), vs = [.ref a] ∧ RdAt K C H a r ∧
  (Ql67.takeNum 8 r = none → ∀ H' : Hp, KeepB H H' a → E (.ref CN) none H') ∧
  (∀ x s, Ql67.takeNum 8 r = some (x, s) → ∀ (H' : Hp), KeepB H H' a → RdAt K C H' a s → Q (.int (x : Nat)) H')
theorem ok_Reader_time {C : Cs} {f : Addr} {fd : FuncData} (F : Fun K "time" "Reader.time" s_Reader_time f fd) (T : Txt K mg) (TC : TxtC K mg C) (G2 : Mt P w K mg base (L2.CX P w) 2 C.Reader "number" ["self", "many"] (sp_Reader_number K C.Reader C.NoMessage)) :
    FnOk P w K mg base (L2.CX P w) 3 f fd ["self"] (sp_Reader_time K C.Reader C.NoMessage) := by
  refine F.okX sc_Reader_time (fun vs H Q E h => ?_) (fun cdv A outer s H vs Q E hr h => ?_)
  · obtain ⟨a, r, rfl, _⟩ := h
    rfl
  · obtain ⟨a, r, rfl, hR, kN, kS⟩ := h
    refine ⟨_, pss_one (ps_ret (pe_methD G2 (pv 0) TC.Reader_cl (hr.mono (by decide)) passX (pa_cons (pe_gv T.c_TIME_BYTES) pa_nil))), ?_⟩
    obtain ⟨dx, d, l, m, h1, h2⟩ := id hR
    exact ⟨_, rfl, a, dx, _, rfl, h1, rd_no d _ _ (by decide +kernel) (by decide +kernel), a, r, 8, rfl, hR, kN, kS⟩
/-! ### Reader.want_end -/
theorem sc_Reader_want_end : FnScope ["self"] ["self"] (defScope s_Reader_want_end) := ⟨rfl, rfl, rfl, by decide +kernel, rfl, by decide +kernel, by decide +kernel⟩
def sp_Reader_want_end (K : PySem.W.Frag) (C CN : Addr) : Sp := fun vs H Q E => ∃ (a : Addr) (r : List Nat), vs = [.ref a] ∧ RdAt K C H a r ∧ (r ≠ [] → E (.ref CN) none H) ∧ (r = [] → Q .non H)
theorem ok_Reader_want_end {C : Cs} {f : Addr} {fd : FuncData} (F : Fun K "want_end" "Reader.want_end" s_Reader_want_end f fd) (T : Txt K mg) (TC : TxtC K mg C) : FnOk P w K mg base (L2.CX P w) 1 f fd ["self"] (sp_Reader_want_end K C.Reader C.NoMessage) := by
  refine F.okX sc_Reader_want_end (fun vs H Q E h => ?_) (fun cdv A outer s H vs Q E hr h => ?_)
  · obtain ⟨a, r, rfl, _⟩ := h
    rfl
  · obtain ⟨a, r, rfl, ⟨dx, d, l, m, h1, hS, hm, hd, hl⟩, kN, kS⟩ := h
    refine ⟨_, pss_one (ps_if (pt_cmpR op_lt (pe_fld (pv 0) rfl) (pe_callB call_len_seq (by rfl) T.b_len PySem.boot_len (pa_cons (pe_fld (pv 0) rfl) pa_nil)) (nomark _))
        (pss_one (ps_raise rfl (takes_of rfl rfl rfl rfl) (pmk_own PySem.F.excBase_ValueError TC.NoMessage_x TC.NoMessage_g TC.NoMessage_k (raises_own TC.NoMessage_b TC.NoMessage_t) (by exact rfl)))) pss_nil), ?_⟩
    have hlen : (vb l).length = l.length := vb_length l
    have hr' : r.length = l.length - m := by rw [← hd, List.length_drop]
    refine ⟨_, rfl, a, C.Reader, dx, _, _, rfl, h1, TC.Reader_cl, TC.Reader_no_at, rd_at d m, _, rfl, a, C.Reader, dx, _, _, rfl, h1, TC.Reader_cl, TC.Reader_no_data, rd_data d m, d, _, rfl, .inl hS, _, _, rfl, rfl, _, rfl, ifB (fun c1 => ?_) (fun c1 => ?_)⟩
    · have c1' := of_decide_eq_true c1
      rw [hlen] at c1'
      refine kN fun e => ?_
      rw [e] at hr'
      have h0 : (0 : Nat) = l.length - m := hr'
      omega
    · have c1' := of_decide_eq_false c1
      rw [hlen] at c1'
      exact kS (List.eq_nil_of_length_eq_zero (by omega))
/-! ### two_rows_in -/
theorem sc_two_rows_in : FnScope ["data", "reader", "found"] ["data"] (defScope s_two_rows_in) := ⟨rfl, rfl, rfl, by decide +kernel, rfl, by decide +kernel, by decide +kernel⟩
def twoRows (l : List Nat) : Option (List Nat × List Nat) := (Ql67.takeCounted l).bind fun t => (Ql67.takeCounted t.2).bind fun p => Ql67.ended ((t.1, p.1), p.2)
def sp_two_rows_in (K : PySem.W.Frag) (CN : Addr) : Sp := fun vs H Q E => ∃ (d : Addr) (l : List Nat), vs = [.ref d] ∧ SqL K H d (vb l) ∧ l.length ≤ 5000 ∧ (twoRows l = none → ∀ H' : Hp, Same H H' → E (.ref CN) none H') ∧
  (∀ v, twoRows l = some v → ∀ (H' : Hp) (q a0 a1 : Addr), Same H H' → H q = none → H' q = some (.tup [.ref a0, .ref a1]) → H' a0 = some (.lst (vb v.1)) → H' a1 = some (.lst (vb v.2)) → Q (.ref q) H')
theorem ok_two_rows_in {C : Cs} {f : Addr} {fd : FuncData} (F : Fun K "two_rows_in" "two_rows_in" s_two_rows_in f fd) (T : Txt K mg) (TC : TxtC K mg C) (G0 : Cn P w K mg base CX0 1 "Reader" C.Reader ["self", "data"] (sp_Reader___init__ K C.Reader))
    (G_row : Mt P w K mg base (L2.CX P w) 3 C.Reader "row" ["self"] (sp_Reader_row K C.Reader C.NoMessage)) (G_want_end : Mt P w K mg base (L2.CX P w) 1 C.Reader "want_end" ["self"] (sp_Reader_want_end K C.Reader C.NoMessage)) : FnOk P w K mg base (L2.CX P w) 4 f fd ["data"] (sp_two_rows_in K C.NoMessage) := by
  -- 
  refine F.okX sc_two_rows_in (fun vs H Q E h => ?_) (fun cdv A outer s H vs Q E hr h => ?_)
  · obtain ⟨d, l, rfl, _⟩ := h
    rfl
  · obtain ⟨d, l, rfl, hS, hl, kN, kS⟩ := h
    refine ⟨_, pss_cons (ps_set (i := 1) sc_two_rows_in.nd rfl (Or.inl rfl) (pe_makeD G0 (hr.mono (by decide)) pass0 (pa_cons (pv 0) pa_nil)))
      (pss_cons (ps_set (i := 2) sc_two_rows_in.nd rfl (Or.inl rfl) (pe_tup (pa_cons (pe_meth0D G_row (pv 1) TC.Reader_cl (hr.mono (by decide)) passX) (pa_cons (pe_meth0D G_row (pv 1) TC.Reader_cl (hr.mono (by decide)) passX) pa_nil))))
      (pss_cons (ps_expr (pe_meth0D G_want_end (pv 1) TC.Reader_cl (hr.mono (by decide)) passX)) (pss_one (ps_ret (pv 2))))), ?_⟩
    refine ⟨_, rfl, fun x dx nx nd ne => ?_⟩
    have nx' : (upd H dx (.own x)) x = none := by
      rw [upd_ne ne.symm]
      exact nx
    refine ⟨x, dx, d, l, rfl, upd_same, (same_new (same_upd nd) nx').seq hS, hl, fun H0 k0 r0 => ⟨rfl, ?_⟩⟩
    have s0 : Same H H0 := Same.made nx nd fun b o h n => k0 b o n h
    obtain ⟨dx0, fs0, g0, no0⟩ := r0.meth
    refine ⟨_, rfl, x, dx0, fs0, rfl, g0, no0 _ (by decide +kernel) (by decide +kernel), x, l, rfl, r0, fun e H' k => kN (by simp [twoRows, e]) H' (KeepB.same s0 k nx), fun y1 t1 e1 H1 a1 k1 n1 o1 r1 => ?_⟩
    have s1 : Same H H1 := KeepB.same s0 k1 nx
    obtain ⟨dx1, fs1, g1, no1⟩ := r1.meth
    refine ⟨_, rfl, x, dx1, fs1, rfl, g1, no1 _ (by decide +kernel) (by decide +kernel), x, t1, rfl, r1, fun e H' k => kN (by simp [twoRows, e1, e]) H' (KeepB.same s1 k nx), fun y2 t2 e2 H2 a2 k2 n2 o2 r2 => ?_⟩
    have s2 : Same H H2 := KeepB.same s1 k2 nx
    obtain ⟨dx2, fs2, g2, no2⟩ := r2.meth
    have o1 := k2 _ _ (ne_of o1 g1 (fun z => by cases z)) o1
    refine ⟨(by show 2 ≤ sizeLine; decide), fun q nq => ?_⟩
    generalize hE : upd _ q _ = H9
    obtain ⟨s9, e9⟩ := gen_new hE nq
    clear hE
    refine ⟨_, rfl, x, dx2, fs2, rfl, s9 _ _ g2, no2 _ (by decide +kernel) (by decide +kernel), x, t2, rfl, r2.same s9, fun e => ?_, fun e => ?_⟩
    · exact kN (by simp [twoRows, e1, e2, Ql67.ended, e]) H9 (s2.trans s9)
    · refine ⟨_, rfl, kS (y1, y2) (by simp [twoRows, e1, e2, Ql67.ended, e]) H9 q a1 a2 (s2.trans s9) (s2.free nq) e9 (s9 _ _ o1) (s9 _ _ o2)⟩
/-! ### grant_within -/
theorem sc_grant_within : FnScope ["text", "reader", "found"] ["text"] (defScope s_grant_within) := ⟨rfl, rfl, rfl, by decide +kernel, rfl, by decide +kernel, by decide +kernel⟩
def sp_grant_within (K : PySem.W.Frag) (CN : Addr) : Sp := fun vs H Q E => ∃ (d : Addr) (l : List Nat), vs = [.ref d] ∧ SqL K H d (vb l) ∧ l.length ≤ 5000 ∧ (Ql67.partOf l = none → ∀ H' : Hp, Same H H' → E (.ref CN) none H') ∧
  (∀ v, Ql67.partOf l = some v → ∀ (H' : Hp) (q a0 a1 : Addr), Same H H' → H q = none → H' q = some (.tup [.ref a0, .ref a1, .int (v.nonce : Nat), .int (v.start : Nat), .int (v.halt_ : Nat)]) → H' a0 = some (.lst (vb v.key)) → H' a1 = some (.tup (vb v.service)) → Q (.ref q) H')
theorem ok_grant_within {C : Cs} {f : Addr} {fd : FuncData} (F : Fun K "grant_within" "grant_within" s_grant_within f fd) (T : Txt K mg) (TC : TxtC K mg C) (G0 : Cn P w K mg base CX0 1 "Reader" C.Reader ["self", "data"] (sp_Reader___init__ K C.Reader))
    (G_some : Mt P w K mg base (L2.CX P w) 1 C.Reader "some" ["self", "many"] (sp_Reader_some K C.Reader C.NoMessage)) (G_take_name : Mt P w K mg base (L2.CX P w) 3 C.Reader "take_name" ["self"] (sp_Reader_take_name K C.Reader C.NoMessage)) (G_time : Mt P w K mg base (L2.CX P w) 3 C.Reader "time" ["self"] (sp_Reader_time K C.Reader C.NoMessage)) (G_want_end : Mt P w K mg base (L2.CX P w) 1 C.Reader "want_end" ["self"] (sp_Reader_want_end K C.Reader C.NoMessage)) : FnOk P w K mg base (L2.CX P w) 4 f fd ["text"] (sp_grant_within K C.NoMessage) := by
  -- 
  refine F.okX sc_grant_within (fun vs H Q E h => ?_) (fun cdv A outer s H vs Q E hr h => ?_)
  · obtain ⟨d, l, rfl, _⟩ := h
    rfl
  · obtain ⟨d, l, rfl, hS, hl, kN, kS⟩ := h
    refine ⟨_, pss_cons (ps_set (i := 1) sc_grant_within.nd rfl (Or.inl rfl) (pe_makeD G0 (hr.mono (by decide)) pass0 (pa_cons (pv 0) pa_nil)))
      (pss_cons (ps_set (i := 2) sc_grant_within.nd rfl (Or.inl rfl) (pe_tup (pa_cons (pe_methD G_some (pv 1) TC.Reader_cl (hr.mono (by decide)) passX (pa_cons (pe_gv T.c_KEY_BYTES) pa_nil)) (pa_cons (pe_meth0D G_take_name (pv 1) TC.Reader_cl (hr.mono (by decide)) passX) (pa_cons (pe_meth0D G_time (pv 1) TC.Reader_cl (hr.mono (by decide)) passX) (pa_cons (pe_meth0D G_time (pv 1) TC.Reader_cl (hr.mono (by decide)) passX) (pa_cons (pe_meth0D G_time (pv 1) TC.Reader_cl (hr.mono (by decide)) passX) pa_nil)))))))
      (pss_cons (ps_expr (pe_meth0D G_want_end (pv 1) TC.Reader_cl (hr.mono (by decide)) passX)) (pss_one (ps_ret (pv 2))))), ?_⟩
    refine ⟨_, rfl, fun x dx nx nd ne => ?_⟩
    have nx' : (upd H dx (.own x)) x = none := by
      rw [upd_ne ne.symm]
      exact nx
    refine ⟨x, dx, d, l, rfl, upd_same, (same_new (same_upd nd) nx').seq hS, hl, fun H0 k0 r0 => ⟨rfl, ?_⟩⟩
    have s0 : Same H H0 := Same.made nx nd fun b o h n => k0 b o n h
    obtain ⟨dx0, fs0, g0, no0⟩ := r0.meth
    refine ⟨_, rfl, x, dx0, fs0, rfl, g0, no0 _ (by decide +kernel) (by decide +kernel), x, l, 16, rfl, r0, fun e H' k => kN (by simp [Ql67.partOf, e]) H' (KeepB.same s0 k nx), fun y1 t1 e1 H1 a1 k1 n1 o1 r1 => ?_⟩
    have s1 : Same H H1 := KeepB.same s0 k1 nx
    obtain ⟨dx1, fs1, g1, no1⟩ := r1.meth
    refine ⟨_, rfl, x, dx1, fs1, rfl, g1, no1 _ (by decide +kernel) (by decide +kernel), x, t1, rfl, r1, fun e H' k => kN (by simp [Ql67.partOf, e1, e]) H' (KeepB.same s1 k nx), fun y2 t2 e2 H2 a2 k2 n2 o2 r2 => ?_⟩
    have s2 : Same H H2 := KeepB.same s1 k2 nx
    obtain ⟨dx2, fs2, g2, no2⟩ := r2.meth
    have o1 := k2 _ _ (ne_of o1 g1 (fun z => by cases z)) o1
    refine ⟨_, rfl, x, dx2, fs2, rfl, g2, no2 _ (by decide +kernel) (by decide +kernel), x, t2, rfl, r2, fun e H' k => kN (by simp [Ql67.partOf, e1, e2, e]) H' (KeepB.same s2 k nx), fun y3 t3 e3 H3 k3 r3 => ?_⟩
    have s3 : Same H H3 := KeepB.same s2 k3 nx
    obtain ⟨dx3, fs3, g3, no3⟩ := r3.meth
    have o1 := k3 _ _ (ne_of o1 g2 (fun z => by cases z)) o1
    have o2 := k3 _ _ (ne_of o2 g2 (fun z => by cases z)) o2
    refine ⟨_, rfl, x, dx3, fs3, rfl, g3, no3 _ (by decide +kernel) (by decide +kernel), x, t3, rfl, r3, fun e H' k => kN (by simp [Ql67.partOf, e1, e2, e3, e]) H' (KeepB.same s3 k nx), fun y4 t4 e4 H4 k4 r4 => ?_⟩
    have s4 : Same H H4 := KeepB.same s3 k4 nx
    obtain ⟨dx4, fs4, g4, no4⟩ := r4.meth
    have o1 := k4 _ _ (ne_of o1 g3 (fun z => by cases z)) o1
    have o2 := k4 _ _ (ne_of o2 g3 (fun z => by cases z)) o2
    refine ⟨_, rfl, x, dx4, fs4, rfl, g4, no4 _ (by decide +kernel) (by decide +kernel), x, t4, rfl, r4, fun e H' k => kN (by simp [Ql67.partOf, e1, e2, e3, e4, e]) H' (KeepB.same s4 k nx), fun y5 t5 e5 H5 k5 r5 => ?_⟩
    have s5 : Same H H5 := KeepB.same s4 k5 nx
    obtain ⟨dx5, fs5, g5, no5⟩ := r5.meth
    have o1 := k5 _ _ (ne_of o1 g4 (fun z => by cases z)) o1
    have o2 := k5 _ _ (ne_of o2 g4 (fun z => by cases z)) o2
    refine ⟨(by show 5 ≤ sizeLine; decide), fun q nq => ?_⟩
    generalize hE : upd _ q _ = H9
    obtain ⟨s9, e9⟩ := gen_new hE nq
    clear hE
    refine ⟨_, rfl, x, dx5, fs5, rfl, s9 _ _ g5, no5 _ (by decide +kernel) (by decide +kernel), x, t5, rfl, r5.same s9, fun e => ?_, fun e => ?_⟩
    · exact kN (by simp [Ql67.partOf, e1, e2, e3, e4, e5, Ql67.ended, e]) H9 (s5.trans s9)
    · refine ⟨_, rfl, kS ⟨y1, y2, y3, y4, y5⟩ (by simp [Ql67.partOf, e1, e2, e3, e4, e5, Ql67.ended, e]) H9 q a1 a2 (s5.trans s9) (s5.free nq) e9 (s9 _ _ o1) (s9 _ _ o2)⟩
/-! ### opened_as -/
theorem sc_opened_as : FnScope ["key", "row", "within", "text"] ["key", "row", "within"] (defScope s_opened_as) := ⟨rfl, rfl, rfl, by decide +kernel, rfl, by decide +kernel, by decide +kernel⟩
/-- the text within is handed to the def at fw, whose promise is spw -/
def sp_opened_as (K : PySem.W.Frag) (CN fw : Addr) (spw : Sp) : Sp := fun vs H Q _ => ∃ (a b : Addr) (k c : List Nat), vs = [.ref a, .ref b, .ref fw] ∧ SqL K H a (vb k) ∧ k.length = 16 ∧ SqL K H b (vb c) ∧ Ql67.Bytes c ∧ c.length ≤ 5000 ∧
  (Ql67.open_ k c = none → outV H Q .non) ∧
  (∀ m, Ql67.open_ k c = some m → ∀ (H' : Hp) (p : Addr), Same H H' → H p = none → H' p = some (.lst (vb m)) → ∀ E : XK, (∀ d H'', Q .non H'' → E (.ref CN) d H'') → spw [.ref p] H' Q E)
theorem ok_opened_as {C : Cs} {f fw : Addr} {fd : FuncData} {xw : Str} {spw : Sp} (F : Fun K "opened_as" "opened_as" s_opened_as f fd) (T : Txt K mg) (TC : TxtC K mg C) (G1 : Df P w K mg base CX0 4 "opened" ["key", "row"] (sp_opened K))
    (GW : DfA P w K mg base (L2.CX P w) 4 xw ["text"] spw fw) : FnOk P w K mg base CX0 5 f fd ["key", "row", "within"] (sp_opened_as K C.NoMessage fw spw) := by
  refine F.ok sc_opened_as (fun vs H Q E h => ?_) (fun cdv A outer s H vs Q E hr h => ?_)
  · obtain ⟨a, b, k, c, rfl, _⟩ := h
    rfl
  · obtain ⟨a, b, k, c, rfl, hK, hk, hC, hB, hlen, qN, qS⟩ := h
    obtain ⟨fdw, FW, gW, kW, bW⟩ := GW.ex
    refine ⟨_, pss_cons (ps_set (i := 3) sc_opened_as.nd rfl (Or.inl rfl) (pe_callD G1 (hr.mono (by decide)) pass0 (pa_cons (pv 0) (pa_cons (pv 1) pa_nil))))
      (pss_cons (ps_if (pt_cmpR op_isN (pv 3) pe_non (nomark _)) (pss_one (ps_ret pe_non)) pss_nil)
      (pss_one (ps_try_only (tb := fun W => tRet (tCallL 2 fw spw [] (WA W) (tCons (tVar 3) tNil))) (ts := fun _ _ _ => tRet (tC .non)) (Wout := fun _ _ _ _ => False) rfl rfl ⟨rfl, by decide, Or.inl TC.NoMessage_g⟩ takes0
        (fun W pn xe tk _ => pss_one (ps_ret (pe_callL (i := 2) FW (hr.mono (by decide)) rfl (Or.inl rfl) kW bW .nil (passW tk) (pa_cons (pv 3) pa_nil))))
        (fun _ _ _ _ _ _ _ => pss_one (ps_ret pe_non))))), ?_⟩
    refine ⟨_, rfl, _, rfl, a, b, k, c, rfl, hK, hk, hC, hB, hlen, fun e H1 s1 => ?_, fun m e H1 p1 s1 n1 e1 => ?_⟩
    · exact ⟨_, rfl, rfl, _, rfl, qN e H1 s1⟩
    · refine ⟨_, rfl, rfl, _, rfl, ?_⟩
      refine ⟨rfl, _, rfl, qS m e H1 p1 s1 n1 e1 _ fun d H2 q σ => ?_⟩
      exact ⟨true, TC.NoMessage_e, fun _ _ _ => q, fun z => Bool.noConfusion z⟩
/-! ### with_length -/
theorem sc_with_length : FnScope ["row"] ["row"] (defScope s_with_length) := ⟨rfl, rfl, rfl, by decide +kernel, rfl, by decide +kernel, by decide +kernel⟩
/-- an answer as Python's list -/
def ansV (a : Ql67.Ans) : List V := V.int a.value :: vb a.bytes
def outA (Q : VK) (a : Ql67.Ans) : Prop := ∀ (H' : Hp) (p : Addr), H' p = some (.lst (ansV a)) → Q (.ref p) H'
def sp_with_length (K : PySem.W.Frag) : Sp := fun vs H Q _ => ∃ (a : Addr) (l : List Nat), vs = [.ref a] ∧ SqL K H a (vb l) ∧ l.length ≤ 10000 ∧ outA Q (Ql67.told l)
theorem ok_with_length {f : Addr} {fd : FuncData} (F : Fun K "with_length" "with_length" s_with_length f fd) (T : Txt K mg) : FnOk P w K mg base CX0 1 f fd ["row"] (sp_with_length K) := by
  refine F.ok sc_with_length (fun vs H Q E h => ?_) (fun cdv A outer s H vs Q E hr h => ?_)
  · obtain ⟨a, l, rfl, _⟩ := h
    rfl
  · obtain ⟨a, l, rfl, hS, hlen, q⟩ := h
    refine ⟨_, pss_one (ps_ret (pe_op op_cat (pe_lst (pa_cons (pe_callB call_len_seq (by rfl) T.b_len PySem.boot_len (pa_cons (pv 0) pa_nil)) pa_nil))
      (pe_callTy call_list_of (by rfl) T.b_list (by decide +kernel) (pa_cons (pv 0) pa_nil)))), ?_⟩
    have hl : (vb l).length = l.length := vb_length l
    refine ⟨_, rfl, a, _, rfl, .inl hS, (by show 1 ≤ sizeLine; decide), fun p hp => ?_⟩
    refine ⟨_, rfl, a, _, rfl, .inl ((same_upd hp).seq hS), fun b hb => ?_⟩
    refine ⟨p, b, _, _, rfl, rfl, same_upd hb _ _ upd_same, upd_same, ?_, fun c hc => ?_⟩
    · rw [hl]
      exact le_line (by show 1 + l.length ≤ 100000; omega)
    · refine q _ c ?_
      rw [upd_same, hl]
      rfl
/-! ### grant_in -/
theorem sc_grant_in : FnScope ["key", "message", "ticket", "row", "grant"] ["key", "message"] (defScope s_grant_in) := ⟨rfl, rfl, rfl, by decide +kernel, rfl, by decide +kernel, by decide +kernel⟩
/-- what a message gives: the ticket, what is told with it -/
def giveOf (k l : List Nat) : Option (List Nat × Ql67.Part) := match Ql67.msgOf l with
  | some (.given _ t p) => ((Ql67.open_ k p).bind Ql67.partOf).map fun x => (t, x)
  | _ => none
theorem msg_two {b : Nat} (hb : b = 2 ∨ b = 4) (r : List Nat) : ∃ more, Ql67.msgOf (b :: r) = (twoRows r).map fun v => .given more v.1 v.2 := by
  rcases hb with rfl | rfl
  · refine ⟨false, ?_⟩
    show ((Ql67.takeCounted r).bind fun t => (Ql67.takeCounted t.2).bind fun p => Ql67.ended (Ql67.Msg.given false t.1 p.1, p.2)) = _
    unfold twoRows
    cases Ql67.takeCounted r with
    | none => rfl
    | some t =>
      show ((Ql67.takeCounted t.2).bind fun p => Ql67.ended (Ql67.Msg.given false t.1 p.1, p.2)) = Option.map _ ((Ql67.takeCounted t.2).bind fun p => Ql67.ended ((t.1, p.1), p.2))
      cases Ql67.takeCounted t.2 with
      | none => rfl
      | some p =>
        show Ql67.ended (Ql67.Msg.given false t.1 p.1, p.2) = Option.map _ (Ql67.ended ((t.1, p.1), p.2))
        unfold Ql67.ended
        by_cases e : p.2 = []
        · rw [if_pos e, if_pos e]
          rfl
        · rw [if_neg e, if_neg e]
          rfl
  · refine ⟨true, ?_⟩
    show ((Ql67.takeCounted r).bind fun t => (Ql67.takeCounted t.2).bind fun p => Ql67.ended (Ql67.Msg.given true t.1 p.1, p.2)) = _
    unfold twoRows
    cases Ql67.takeCounted r with
    | none => rfl
    | some t =>
      show ((Ql67.takeCounted t.2).bind fun p => Ql67.ended (Ql67.Msg.given true t.1 p.1, p.2)) = Option.map _ ((Ql67.takeCounted t.2).bind fun p => Ql67.ended ((t.1, p.1), p.2))
      cases Ql67.takeCounted t.2 with
      | none => rfl
      | some p =>
        show Ql67.ended (Ql67.Msg.given true t.1 p.1, p.2) = Option.map _ (Ql67.ended ((t.1, p.1), p.2))
        unfold Ql67.ended
        by_cases e : p.2 = []
        · rw [if_pos e, if_pos e]
          rfl
        · rw [if_neg e, if_neg e]
          rfl
theorem given_head {l t p : List Nat} {m : Bool} (h : Ql67.msgOf l = some (.given m t p)) : ∃ r, l = 2 :: r ∨ l = 4 :: r := by
  unfold Ql67.msgOf at h
  split at h
  · exfalso
    obtain ⟨_, _, h⟩ := Option.bind_eq_some_iff.mp h
    obtain ⟨_, _, h⟩ := Option.bind_eq_some_iff.mp h
    obtain ⟨_, _, h⟩ := Option.bind_eq_some_iff.mp h
    obtain ⟨_, _, h⟩ := Option.bind_eq_some_iff.mp h
    unfold Ql67.ended at h
    split at h <;> cases h
  · exact ⟨_, .inl rfl⟩
  · exfalso
    obtain ⟨_, _, h⟩ := Option.bind_eq_some_iff.mp h
    obtain ⟨_, _, h⟩ := Option.bind_eq_some_iff.mp h
    obtain ⟨_, _, h⟩ := Option.bind_eq_some_iff.mp h
    obtain ⟨_, _, h⟩ := Option.bind_eq_some_iff.mp h
    obtain ⟨_, _, h⟩ := Option.bind_eq_some_iff.mp h
    unfold Ql67.ended at h
    split at h <;> cases h
  · exact ⟨_, .inr rfl⟩
  · exfalso
    obtain ⟨_, _, h⟩ := Option.bind_eq_some_iff.mp h
    obtain ⟨_, _, h⟩ := Option.bind_eq_some_iff.mp h
    unfold Ql67.ended at h
    split at h <;> cases h
  · cases h
  · cases h
theorem give_other {b : Nat} (h2 : b ≠ 2) (h4 : b ≠ 4) (k r : List Nat) : giveOf k (b :: r) = none := by
  unfold giveOf
  split
  · rename_i m t p e
    obtain ⟨r', e' | e'⟩ := given_head e
    · injection e' with e1 _
      exact absurd e1 h2
    · injection e' with e1 _
      exact absurd e1 h4
  · rfl
theorem give_none {b : Nat} (hb : b = 2 ∨ b = 4) {k r : List Nat} (h : twoRows r = none) : giveOf k (b :: r) = none := by
  obtain ⟨m, e⟩ := msg_two hb r
  unfold giveOf
  rw [e, h]
  rfl
theorem give_some {b : Nat} (hb : b = 2 ∨ b = 4) {k r : List Nat} {v : List Nat × List Nat} (h : twoRows r = some v) : giveOf k (b :: r) = ((Ql67.open_ k v.2).bind Ql67.partOf).map fun x => (v.1, x) := by
  obtain ⟨m, e⟩ := msg_two hb r
  unfold giveOf
  rw [e, h]
  rfl
theorem take_bytes {n : Nat} {l x s : List Nat} (h : Ql67.takeBytes n l = some (x, s)) (hb : Ql67.Bytes l) : (Ql67.Bytes x ∧ Ql67.Bytes s) ∧ x.length ≤ l.length ∧ s.length ≤ l.length := by
  by_cases q : n ≤ l.length
  · rw [take_yes q] at h
    injection h with h
    injection h with h1 h2
    subst h1 h2
    exact ⟨⟨fun b m => hb b (List.mem_of_mem_take m), fun b m => hb b (List.mem_of_mem_drop m)⟩, by rw [List.length_take]; omega, by rw [List.length_drop]; omega⟩
  · rw [take_no (by omega)] at h
    cases h
theorem counted_bytes {l x s : List Nat} (h : Ql67.takeCounted l = some (x, s)) (hb : Ql67.Bytes l) : (Ql67.Bytes x ∧ Ql67.Bytes s) ∧ x.length ≤ l.length ∧ s.length ≤ l.length := by
  unfold Ql67.takeCounted at h
  cases e : Ql67.takeBytes 2 l with
  | none =>
    rw [num_no e] at h
    cases h
  | some v =>
    obtain ⟨y, r⟩ := v
    rw [num_yes e] at h
    obtain ⟨⟨_, b2⟩, _, l2⟩ := take_bytes e hb
    obtain ⟨q1, q2, q3⟩ := take_bytes (show Ql67.takeBytes (Ql67.num y) r = some (x, s) from h) b2
    exact ⟨q1, by omega, by omega⟩
theorem two_bytes {l : List Nat} {v : List Nat × List Nat} (h : twoRows l = some v) (hb : Ql67.Bytes l) : (Ql67.Bytes v.1 ∧ Ql67.Bytes v.2) ∧ v.1.length ≤ l.length ∧ v.2.length ≤ l.length := by
  unfold twoRows at h
  cases e1 : Ql67.takeCounted l with
  | none =>
    rw [e1] at h
    cases h
  | some t =>
    rw [e1] at h
    have h' : ((Ql67.takeCounted t.2).bind fun p => Ql67.ended ((t.1, p.1), p.2)) = some v := h
    obtain ⟨⟨a1, a2⟩, a3, a4⟩ := counted_bytes (x := t.1) (s := t.2) e1 hb
    cases e2 : Ql67.takeCounted t.2 with
    | none =>
      rw [e2] at h'
      cases h'
    | some p =>
      rw [e2] at h'
      have h2 : Ql67.ended ((t.1, p.1), p.2) = some v := h'
      obtain ⟨⟨c1, _⟩, c3, _⟩ := counted_bytes (x := p.1) (s := p.2) e2 a2
      unfold Ql67.ended at h2
      by_cases e : p.2 = []
      · rw [if_pos e] at h2
        injection h2 with h2
        subst h2
        exact ⟨⟨a1, c1⟩, a3, by show p.1.length ≤ l.length; omega⟩
      · rw [if_neg e] at h2
        cases h2
def sp_grant_in (K : PySem.W.Frag) : Sp := fun vs H Q _ => ∃ (a b : Addr) (k l : List Nat), vs = [.ref a, .ref b] ∧ SqL K H a (vb k) ∧ k.length = 16 ∧ SqL K H b (vb l) ∧ Ql67.Bytes l ∧ l.length ≤ 5000 ∧ (giveOf k l = none → outV H Q .non) ∧
  (∀ t x, giveOf k l = some (t, x) → ∀ (H' : Hp) (q g a1 a2 a3 : Addr), Same H H' → H' q = some (.tup [.ref a1, .ref g]) → H' a1 = some (.lst (vb t)) → t.length ≤ l.length → H' g = some (.tup [.ref a2, .ref a3, .int (x.nonce : Nat), .int (x.start : Nat), .int (x.halt_ : Nat)]) →
    H' a2 = some (.lst (vb x.key)) → H' a3 = some (.tup (vb x.service)) → Q (.ref q) H')
theorem ok_grant_in {C : Cs} {f fg : Addr} {fd : FuncData} (F : Fun K "grant_in" "grant_in" s_grant_in f fd) (T : Txt K mg) (TC : TxtC K mg C) (G1 : Df P w K mg base (L2.CX P w) 4 "two_rows_in" ["data"] (sp_two_rows_in K C.NoMessage))
    (G2 : Df P w K mg base CX0 5 "opened_as" ["key", "row", "within"] (sp_opened_as K C.NoMessage fg (sp_grant_within K C.NoMessage))) (G3 : DfA P w K mg base (L2.CX P w) 4 "grant_within" ["text"] (sp_grant_within K C.NoMessage) fg) :
    FnOk P w K mg base CX0 6 f fd ["key", "message"] (sp_grant_in K) := by
  refine F.ok sc_grant_in (fun vs H Q E h => ?_) (fun cdv A outer s H vs Q E hr h => ?_)
  · obtain ⟨a, b, k, l, rfl, _⟩ := h
    rfl
  · obtain ⟨a, b, k, l, rfl, hK, hk, hL, hB, hlen, qN, qS⟩ := h
    refine ⟨_, pss_cons (ps_if (PW.pt (pw_or (pt_cmpR (op_eqD hr.units) (pv 1) (pe_lst pa_nil) (nomark _)) (pw_or1 (pt_cmpR op_notIn_seq (pe_ix ix_list (pv 1) pe_int (fun _ _ => rfl)) (pe_tup (pa_cons (pe_gv T.c_GIVEN) (pa_cons (pe_gv T.c_MORE_GIVEN) pa_nil))) (by rfl)))))
        (pss_one (ps_ret pe_non)) pss_nil)
      (pss_cons (ps_try_only (tb := fun W => tAsg (tCall (sp_two_rows_in K C.NoMessage) [] (WA W) (tCons (tSl (rSlL K) (tVar 1) (tPart (tC (.int 1))) tNoPart) tNil)) (gTup K 2 (gCons (gName 2) (gCons (gName 3) gNil)))) (ts := fun _ _ _ => tRet (tC .non)) (Wout := fun _ _ _ _ => False) rfl rfl ⟨rfl, by decide, Or.inl TC.NoMessage_g⟩ takes0
        (fun W pn xe tk _ => pss_one (ps_asg (pe_callD G1 (hr.mono (by decide)) (passW tk) (pa_cons (pe_slice (show SlR _ (rSlL K) from sl_list) (pv 1) (po_some pe_int) po_none) pa_nil)) (pg_tup rfl (pgs_cons (pg_name (i := 2) sc_grant_in.nd rfl (Or.inl rfl)) (pgs_cons (pg_name (i := 3) sc_grant_in.nd rfl (Or.inl rfl)) pgs_nil)))))
        (fun _ _ _ _ _ _ _ => pss_one (ps_ret pe_non)))
      (pss_cons (ps_set (i := 4) sc_grant_in.nd rfl (Or.inl rfl) (pe_callD G2 (hr.mono (by decide)) pass0 (pa_cons (pv 0) (pa_cons (pv 3) (pa_cons (pe_fn G3) pa_nil)))))
      (pss_cons (ps_if (pt_cmpR op_isN (pv 4) pe_non (nomark _)) (pss_one (ps_ret pe_non)) pss_nil)
      (pss_one (ps_ret (pe_tup (pa_cons (pv 2) (pa_cons (pv 4) pa_nil)))))))), ?_⟩
    refine ⟨_, rfl, (by show 0 ≤ sizeLine; decide), fun p0 n0 => ?_⟩
    generalize hE : upd _ p0 _ = H0
    obtain ⟨s0, e0⟩ := gen_new hE n0
    clear hE
    refine ⟨.list (dB l), .list (dB []), .lst (s0.seq hL) (dp_all l), .lst (lst_of e0) .nil, shaped_list l, shaped_list [], _, rfl, ?_⟩
    rw [eqv_list]
    refine ifB (fun c1 => iteT ?_) (fun c1 => ?_)
    · have c1' := of_decide_eq_true c1
      exact qN (by rw [c1']; rfl) H0 s0
    have c1' := of_decide_eq_false c1
    obtain ⟨b0, r, rfl⟩ : ∃ b0 r, l = b0 :: r := by
      cases l with
      | nil => exact absurd rfl c1'
      | cons b0 r => exact ⟨b0, r, rfl⟩
    have hB1 : Ql67.Bytes r := fun x hx => hB x (List.mem_cons_of_mem _ hx)
    have lr : r.length ≤ 5000 := by
      have : r.length + 1 ≤ 5000 := hlen
      omega
    refine ⟨_, rfl, b, _, 0, .int (b0 : Int), rfl, rfl, s0.seq hL, atI_nat (j := 0) (vb_get rfl), (by show 2 ≤ sizeLine; decide), fun p1 n1 => ?_⟩
    generalize hE : upd _ p1 _ = H1
    obtain ⟨s1, e1⟩ := gen_new hE n1
    clear hE
    have s01 := s0.trans s1
    refine ⟨p1, _, rfl, .inr (tup_of e1), rfl, rfl, _, rfl, ifB (fun c2 => ?_) (fun c2 => ?_)⟩
    · refine qN (give_other ?_ ?_ k r) H1 s01
      · intro e
        subst e
        exact Bool.noConfusion c2
      · intro e
        subst e
        exact Bool.noConfusion c2
    have hb0 : b0 = 2 ∨ b0 = 4 := by
      have e : inV (.int (b0 : Int)) [.int 2, .int 4] = (((2 : Int) == (b0 : Int)) || (((4 : Int) == (b0 : Int)) || false)) := rfl
      have c2' : (!inV (.int (b0 : Int)) [.int 2, .int 4]) = false := c2
      rw [e] at c2'
      simp at c2'
      omega
    -- the two rows
    refine ⟨_, rfl, _, rfl, b, _, rfl, s01.seq hL, fun p2 n2 => ?_⟩
    generalize hE : upd _ p2 _ = H2
    obtain ⟨s2, e2⟩ := gen_new hE n2
    clear hE
    have ec : cutV (vb (b0 :: r)) (some 1) none = vb r := (cut_from (vb (b0 :: r)) 1).trans rfl
    rw [ec] at e2
    have s02 := s01.trans s2
    refine ⟨p2, r, rfl, lst_of e2, lr, fun e H3 s3 σ => ?_, fun v e H3 q a1 a2 s3 n3 o3 o1 o2 => ?_⟩
    · exact ⟨true, TC.NoMessage_e, fun _ _ _ => qN (give_none hb0 e) H3 (s02.trans s3), fun z => Bool.noConfusion z⟩
    obtain ⟨⟨bt, bp⟩, l1, l2⟩ := two_bytes e hB1
    refine ⟨q, _, rfl, tup_of o3, rfl, _, _, rfl, _, _, rfl, rfl, ?_⟩
    have s03 := s02.trans s3
    have eg := give_some (k := k) hb0 e
    -- what is told with it
    refine ⟨_, rfl, _, rfl, a, a2, k, v.2, rfl, s03.seq hK, hk, lst_of o2, bp, by omega, fun eo H4 s4 => ?_, fun m eo H4 p4 s4 n4 e4 E2 hE2 => ?_⟩
    · refine ⟨_, rfl, rfl, _, rfl, qN ?_ H4 (s03.trans s4)⟩
      rw [eg, eo]
      rfl
    have lm : m.length ≤ 5000 := by
      have e := open_len eo
      omega
    refine ⟨p4, m, rfl, lst_of e4, lm, fun e H5 s5 => hE2 _ _ ?_, fun x e H5 q5 a3 a4 s5 n5 o5 o6 o7 => ?_⟩
    · refine ⟨_, rfl, rfl, _, rfl, qN ?_ H5 (s03.trans (s4.trans s5))⟩
      rw [eg, eo]
      show Option.map _ (Ql67.partOf m) = none
      rw [e]
      rfl
    · have eg2 : giveOf k (b0 :: r) = some (v.1, x) := by
        rw [eg, eo]
        show Option.map _ (Ql67.partOf m) = _
        rw [e]
        rfl
      have s05 := s03.trans (s4.trans s5)
      refine ⟨_, rfl, rfl, _, rfl, ?_⟩
      refine ⟨_, rfl, _, rfl, (by show 2 ≤ sizeLine; decide), fun p6 n6 => ?_⟩
      have s6 := same_upd n6 (o := .tup [.ref a1, .ref q5])
      exact qS v.1 x eg2 _ p6 q5 a1 a3 a4 (s05.trans s6) upd_same (s6 _ _ (s5 _ _ (s4 _ _ o1))) (by show v.1.length ≤ r.length + 1; omega) (s6 _ _ o5) (s6 _ _ o6) (s6 _ _ o7)
/-! ### tk_open -/
theorem sc_tk_open : FnScope ["nonce", "key", "message", "service", "found", "ticket", "grant", "fresh", "of_service", "of_nonce", "start", "end"] ["nonce", "key", "message", "service"] (defScope s_tk_open) := ⟨rfl, rfl, rfl, by decide +kernel, rfl, by decide +kernel, by decide +kernel⟩
def sp_tk_open (K : PySem.W.Frag) : Sp := fun vs H Q _ => ∃ (n : Nat) (a b e : Addr) (k l s : List Nat), vs = [.int (n : Int), .ref a, .ref b, .ref e] ∧ SqL K H a (vb k) ∧ k.length = 16 ∧ SqL K H b (vb l) ∧ Ql67.Bytes l ∧ l.length ≤ 5000 ∧ SqL K H e (vb s) ∧ s.length ≤ 64 ∧
  outA Q (Ql67.spec Ql67.empty (.open_ k l l.length s n)).2
theorem open_no {k l s : List Nat} {n : Nat} (h : Ql67.TEXT < l.length ∨ Ql67.isName s = false) : (Ql67.spec Ql67.empty (.open_ k l l.length s n)).2 = Ql67.only (-2) := by
  show (if Ql67.TEXT < l.length ∨ Ql67.isName s = false then (Ql67.empty, Ql67.only (-2)) else _).2 = _
  rw [if_pos h]
/-- what is told of what is given -/
def toldOf (v : List Nat × Ql67.Part) : List Nat := v.2.key ++ (Ql67.be 8 v.2.start ++ (Ql67.be 8 v.2.halt_ ++ v.1))
theorem opened_give (k l s : List Nat) (n : Nat) : Ql67.opened k l s n = (giveOf k l).bind fun v => if v.2.service = s ∧ v.2.nonce = n then some (toldOf v) else none := by
  unfold Ql67.opened giveOf
  cases em : Ql67.msgOf l with
  | none => rfl
  | some m =>
    cases m with
    | given mo t p =>
      show ((Ql67.open_ k p).bind Ql67.partOf).bind _ = (((Ql67.open_ k p).bind Ql67.partOf).map fun x => (t, x)).bind _
      cases e2 : (Ql67.open_ k p).bind Ql67.partOf with
      | none => rfl
      | some x => rfl
    | asked => rfl
    | more => rfl
    | shown => rfl
    | refused => rfl
theorem open_yes {k l s : List Nat} {n : Nat} (h : ¬ (Ql67.TEXT < l.length ∨ Ql67.isName s = false)) : (Ql67.spec Ql67.empty (.open_ k l l.length s n)).2 = (match Ql67.opened k l s n with
    | some x => Ql67.told x
    | none => Ql67.only (-1)) := by
  show (if Ql67.TEXT < l.length ∨ Ql67.isName s = false then (Ql67.empty, Ql67.only (-2)) else (match Ql67.opened k l s n with
    | some x => (Ql67.empty, Ql67.told x)
    | none => (Ql67.empty, Ql67.only (-1)))).2 = _
  rw [if_neg h]
  cases Ql67.opened k l s n with
  | none => rfl
  | some x => rfl
theorem part_len {m : List Nat} {x : Ql67.Part} (h : Ql67.partOf m = some x) : x.key.length ≤ 16 := by
  unfold Ql67.partOf at h
  obtain ⟨k, h1, h⟩ := Option.bind_eq_some_iff.mp h
  obtain ⟨_, _, h⟩ := Option.bind_eq_some_iff.mp h
  obtain ⟨_, _, h⟩ := Option.bind_eq_some_iff.mp h
  obtain ⟨_, _, h⟩ := Option.bind_eq_some_iff.mp h
  obtain ⟨_, _, h⟩ := Option.bind_eq_some_iff.mp h
  have hk : k.1.length ≤ 16 := by
    unfold Ql67.takeBytes at h1
    split at h1
    · injection h1 with h1
      subst h1
      show (List.take 16 m).length ≤ 16
      rw [List.length_take]
      omega
    · cases h1
  unfold Ql67.ended at h
  split at h
  · injection h with h
    subst h
    exact hk
  · cases h
theorem give_len {k l : List Nat} {t : List Nat} {x : Ql67.Part} (h : giveOf k l = some (t, x)) : x.key.length ≤ 16 := by
  unfold giveOf at h
  split at h
  · rename_i m t' p e
    cases e2 : (Ql67.open_ k p).bind Ql67.partOf with
    | none =>
      rw [e2] at h
      cases h
    | some y =>
      rw [e2] at h
      injection h with h
      injection h with h1 h2
      subst h2
      obtain ⟨_, _, e3⟩ := Option.bind_eq_some_iff.mp e2
      exact part_len e3
  · cases h
theorem ok_tk_open {C : Cs} {f : Addr} {fd : FuncData} (F : Fun K "tk_open" "tk_open" s_tk_open f fd) (T : Txt K mg) (TC : TxtC K mg C) (G1 : Df P w K mg base CX0 2 "is_name" ["row"] (sp_is_name K)) (G2 : Df P w K mg base CX0 6 "grant_in" ["key", "message"] (sp_grant_in K))
    (G3 : Df P w K mg base CX0 2 "time_told" ["number"] sp_time_told) (G5 : Df P w K mg base CX0 1 "with_length" ["row"] (sp_with_length K)) :
    FnOk P w K mg base CX0 7 f fd ["nonce", "key", "message", "service"] (sp_tk_open K) := by
  refine F.ok sc_tk_open (fun vs H Q E h => ?_) (fun cdv A outer s H vs Q E hr h => ?_)
  · obtain ⟨n, a, b, e, k, l, s, rfl, _⟩ := h
    rfl
  · obtain ⟨n, a, b, e, k, l, s, rfl, hK, hk, hL, hB, ll, hS, ls, q⟩ := h
    refine ⟨_, pss_cons (ps_if (PW.pt (pw_or (pt_cmpR op_gt (pe_callB call_len_seq (by rfl) T.b_len PySem.boot_len (pa_cons (pv 2) pa_nil)) (pe_gv T.c_MOST_MESSAGE) (nomark _)) (pw_or1 (pt_not (pt_val (pe_callD G1 (hr.mono (by decide)) pass0 (pa_cons (pv 3) pa_nil)))))))
        (pss_one (ps_ret (pe_lst (pa_cons (pe_gv T.c_NOT_AS_TOLD) pa_nil)))) pss_nil)
      (pss_cons (ps_set (i := 4) sc_tk_open.nd rfl (Or.inl rfl) (pe_callD G2 (hr.mono (by decide)) pass0 (pa_cons (pv 1) (pa_cons (pv 2) pa_nil))))
      (pss_cons (ps_if (pt_cmpR op_isN (pv 4) pe_non (nomark _)) (pss_one (ps_ret (pe_lst (pa_cons (pe_gv T.c_NOT_OPEN) pa_nil)))) pss_nil)
      (pss_cons (ps_asg (pv 4) (pg_tup rfl (pgs_cons (pg_name (i := 5) sc_tk_open.nd rfl (Or.inl rfl)) (pgs_cons (pg_name (i := 6) sc_tk_open.nd rfl (Or.inl rfl)) pgs_nil))))
      (pss_cons (ps_asg (pv 6) (pg_tup rfl (pgs_cons (pg_name (i := 7) sc_tk_open.nd rfl (Or.inl rfl)) (pgs_cons (pg_name (i := 8) sc_tk_open.nd rfl (Or.inl rfl)) (pgs_cons (pg_name (i := 9) sc_tk_open.nd rfl (Or.inl rfl)) (pgs_cons (pg_name (i := 10) sc_tk_open.nd rfl (Or.inl rfl)) (pgs_cons (pg_name (i := 11) sc_tk_open.nd rfl (Or.inl rfl)) pgs_nil)))))))
      (pss_cons (ps_if (PW.pt (pw_or (pt_cmpR (op_neD hr.units) (pv 8) (pe_callTy call_tuple_of (by rfl) T.b_tuple (by decide +kernel) (pa_cons (pv 3) pa_nil)) (nomark _)) (pw_or1 (pt_cmpR op_ne (pv 9) (pv 0) (nomark _)))))
        (pss_one (ps_ret (pe_lst (pa_cons (pe_gv T.c_NOT_OPEN) pa_nil)))) pss_nil)
      (pss_one (ps_ret (pe_callD G5 (hr.mono (by decide)) pass0 (pa_cons (pe_op op_cat (pe_op op_cat (pe_op op_cat (pv 7) (pe_callD G3 (hr.mono (by decide)) pass0 (pa_cons (pv 10) pa_nil))) (pe_callD G3 (hr.mono (by decide)) pass0 (pa_cons (pv 11) pa_nil))) (pv 5)) pa_nil))))))))), ?_⟩
    have hl : (vb l).length = l.length := vb_length l
    refine ⟨_, rfl, b, _, rfl, .inl hL, _, _, rfl, rfl, _, rfl, ifB (fun c1 => iteT ?_) (fun c1 => ?_)⟩
    · have c1' := of_decide_eq_true c1
      rw [hl] at c1'
      refine ⟨(by show 1 ≤ sizeLine; decide), fun p hp => q _ p ?_⟩
      rw [upd_same, open_no (.inl (by show 512 < _; omega))]
      rfl
    have c1' := of_decide_eq_false c1
    rw [hl] at c1'
    refine ⟨_, rfl, e, s, rfl, hS, fun H1 s1 => ⟨_, rfl, ifB (fun c2 => ?_) (fun c2 => ?_)⟩⟩
    · have c2' : Ql67.isName s = false := by simpa using c2
      refine ⟨(by show 1 ≤ sizeLine; decide), fun p hp => q _ p ?_⟩
      rw [upd_same, open_no (.inr c2')]
      rfl
    have c2' : Ql67.isName s = true := by simpa using c2
    have hno : ¬ (Ql67.TEXT < l.length ∨ Ql67.isName s = false) := by
      intro h
      rcases h with h | h
      · have h' : 512 < l.length := h
        omega
      · rw [c2'] at h
        cases h
    rw [open_yes hno, opened_give] at q
    refine ⟨_, rfl, _, rfl, a, b, k, l, rfl, s1.seq hK, hk, s1.seq hL, hB, ll, fun eg H2 s2 => ?_, fun t x eg H2 q2 g a1 a2 a3 s2 o1 o2 lt o3 o4 o5 => ?_⟩
    · rw [eg] at q
      refine ⟨_, rfl, rfl, _, rfl, ?_⟩
      refine ⟨(by show 1 ≤ sizeLine; decide), fun p hp => q _ p ?_⟩
      rw [upd_same]
      rfl
    have lk := give_len eg
    rw [eg] at q
    have q' : outA Q (match (if x.service = s ∧ x.nonce = n then some (toldOf (t, x)) else none) with
      | some x => Ql67.told x
      | none => Ql67.only (-1)) := q
    have s12 := s1.trans s2
    refine ⟨_, rfl, rfl, _, rfl, ?_⟩
    refine ⟨_, rfl, q2, _, rfl, tup_of o1, rfl, _, _, rfl, _, _, rfl, rfl, ?_⟩
    refine ⟨_, rfl, g, _, rfl, tup_of o3, rfl, _, _, rfl, _, _, rfl, _, _, rfl, _, _, rfl, _, _, rfl, rfl, ?_⟩
    refine ⟨_, rfl, _, rfl, e, _, rfl, .inl ⟨s12.seq hS, fun p3 n3 => ?_⟩⟩
    generalize hE : upd _ p3 _ = H3
    obtain ⟨s3, e3⟩ := gen_new hE n3
    clear hE
    refine ⟨.tuple (dB x.service), .tuple (dB s), .tup (Same.tup s3 (tup_of o5)) (dp_all _), .tup (tup_of e3) (dp_all _), shaped_tup _, shaped_tup _, _, rfl, ?_⟩
    rw [eqv_tup]
    refine ifB (fun c3 => iteT ?_) (fun c3 => ?_)
    · have hne : ¬ (x.service = s ∧ x.nonce = n) := by
        intro h
        rw [decide_eq_true h.1] at c3
        exact Bool.noConfusion c3
      rw [if_neg hne] at q'
      refine ⟨(by show 1 ≤ sizeLine; decide), fun p hp => q' _ p ?_⟩
      rw [upd_same]
      rfl
    have es : x.service = s := by
      by_cases h : x.service = s
      · exact h
      · rw [decide_eq_false h] at c3
        exact Bool.noConfusion c3
    refine ⟨_, rfl, _, rfl, rfl, _, rfl, ifB (fun c4 => ?_) (fun c4 => ?_)⟩
    · have hne : ¬ (x.service = s ∧ x.nonce = n) := by
        intro h
        rw [h.2, decide_eq_true rfl] at c4
        exact Bool.noConfusion c4
      rw [if_neg hne] at q'
      refine ⟨(by show 1 ≤ sizeLine; decide), fun p hp => q' _ p ?_⟩
      rw [upd_same]
      rfl
    have en : x.nonce = n := by
      by_cases h : x.nonce = n
      · exact h
      · rw [decide_eq_false (by intro z; injection z with z; exact h (by omega))] at c4
        exact Bool.noConfusion c4
    rw [if_pos ⟨es, en⟩] at q'
    -- fresh + time_told(start) + time_told(end) + ticket
    refine ⟨_, rfl, _, rfl, x.start, rfl, fun H4 p4 s4 n4 e4 => ?_⟩
    refine ⟨a2, p4, _, _, rfl, rfl, s4 _ _ (s3 _ _ o4), e4, ?_, fun p5 n5 => ?_⟩
    · rw [vb_length, vb_length, be_length]
      exact le_line (by omega)
    generalize hE : upd _ p5 _ = H5
    obtain ⟨s5, e5⟩ := gen_new hE n5
    clear hE
    refine ⟨_, rfl, x.halt_, rfl, fun H6 p6 s6 n6 e6 => ?_⟩
    refine ⟨p5, p6, _, _, rfl, rfl, s6 _ _ e5, e6, ?_, fun p7 n7 => ?_⟩
    · rw [List.length_append, vb_length, vb_length, vb_length, be_length, be_length]
      exact le_line (by omega)
    generalize hE : upd _ p7 _ = H7
    obtain ⟨s7, e7⟩ := gen_new hE n7
    clear hE
    refine ⟨_, rfl, p7, a1, _, _, rfl, rfl, e7, s7 _ _ (s6 _ _ (s5 _ _ (s4 _ _ (s3 _ _ o2)))), ?_, fun p8 n8 => ?_⟩
    · rw [List.length_append, List.length_append, vb_length, vb_length, vb_length, vb_length, be_length, be_length]
      exact le_line (by omega)
    refine ⟨p8, toldOf (t, x), rfl, lst_of (upd_same.trans ?_), ?_, q'⟩
    · have et : toldOf (t, x) = x.key ++ Ql67.be 8 x.start ++ Ql67.be 8 x.halt_ ++ t := by
        unfold toldOf
        simp only [List.append_assoc]
      rw [et]
      simp only [vb_append]
    · unfold toldOf
      rw [List.length_append, List.length_append, List.length_append, be_length, be_length]
      show x.key.length + (8 + (8 + t.length)) ≤ 10000
      omega
end
end Th
namespace Th
open PySem PySem.Spec PyProof.Rows L2
open PySem.W (Codec WData)
/-! ### the request -/
theorem and2 {a b : Bool} (h : (a && b) = true) : a = true ∧ b = true := by
  rw [Bool.and_eq_true] at h
  exact h
theorem w_int {lo hi z : Int} (h : Codec.inInt lo hi z = true) : lo ≤ z ∧ z ≤ hi := by
  have h' : (decide (lo ≤ z) && decide (z ≤ hi)) = true := h
  rw [Bool.and_eq_true] at h'
  exact ⟨of_decide_eq_true h'.1, of_decide_eq_true h'.2⟩
theorem w_list {least most : Nat} {lo hi : Int} {l : List Int} (h : (Codec.inLen least most l && l.all (Codec.inInt lo hi)) = true) : (least ≤ l.length ∧ l.length ≤ most) ∧ ∀ x ∈ l, lo ≤ x ∧ x ≤ hi := by
  rw [Bool.and_eq_true] at h
  exact ⟨Codec.inNat_iff.mp h.1, fun x hx => w_int (List.all_eq_true.mp h.2 x hx)⟩
theorem w_bytes {least most : Nat} {l : List Int} (h : (Codec.inLen least most l && l.all (Codec.inInt 0 255)) = true) : l.map V.int = vb (Ql67Neutral.nats l) ∧ (Ql67Neutral.nats l).length = l.length ∧ (least ≤ l.length ∧ l.length ≤ most) ∧ ∀ b, b ∈ Ql67Neutral.nats l → b < 256 := by
  obtain ⟨h1, h2⟩ := w_list h
  refine ⟨vb_of l fun x hx => (h2 x hx).1, List.length_map _, h1, fun b hb => ?_⟩
  obtain ⟨x, hx, rfl⟩ := List.mem_map.mp hb
  have := h2 x hx
  omega
theorem nat_int {z hi : Int} (h : Codec.inInt 0 hi z = true) : V.int z = V.int ((z.toNat : Nat) : Int) := by
  rw [Int.toNat_of_nonneg (w_int h).1]
theorem ansV_dw {K : PySem.W.Frag} {H : Hp} (a : Ql67.Ans) : DwAll K H (ansV a) ((a.value :: Ql67Neutral.ints a.bytes).map WData.int) := by
  have e : ansV a = (a.value :: Ql67Neutral.ints a.bytes).map V.int := by
    unfold ansV
    rw [vb_ints, List.map_cons]
    rfl
  rw [e]
  exact dw_ints _
end Th
namespace Th
open PySem PySem.Spec PyProof.Rows L2
theorem all_mk {P : Program} {w : World} {K : PySem.W.Frag} {h : Heap} {mg : Str → Option Value} {fa C_NoMessage C_Reader f1 f2 f3 f4 f5 f6 f7 f8 f9 f10 f11 f12 f13 f14 f15 f16 f17 f18 f19 f20 f21 f22 f23 f24 : Addr} (X : K.In h) (G : h.Ns mainGlobals mg) (hfa : mg "tk_open" = some (.ref fa))
    {od1 an1 od2 an2 od3 an3 od4 an4 od5 an5 od6 an6 od7 an7 od8 an8 od9 an9 od10 an10 od11 an11 od12 an12 od13 an13 od14 an14 od15 an15 od16 an16 od17 an17 od18 an18 od19 an19 od20 an20 od21 an21 od22 an22 od23 an23 od24 an24 : Option Addr} {sl1 sl2 sl3 sl4 sl5 sl6 sl7 sl8 sl9 sl10 sl11 sl12 sl13 sl14 sl15 sl16 sl17 sl18 sl19 sl20 sl21 sl22 sl23 sl24 : Array (Option Value)} {oc1 kV1 dc1 pm1 cd1 ct1 oc2 kV2 dc2 pm2 cd2 ct2 oc3 kV3 dc3 pm3 cd3 ct3 oc4 kV4 dc4 pm4 cd4 ct4 oc5 kV5 dc5 pm5 cd5 ct5 oc6 kV6 dc6 pm6 cd6 ct6 oc7 kV7 dc7 pm7 cd7 ct7 oc8 kV8 dc8 pm8 cd8 ct8 oc9 kV9 dc9 pm9 cd9 ct9 oc10 kV10 dc10 pm10 cd10 ct10 oc11 kV11 dc11 pm11 cd11 ct11 oc12 kV12 dc12 pm12 cd12 ct12 oc13 kV13 dc13 pm13 cd13 ct13 oc14 kV14 dc14 pm14 cd14 ct14 oc15 kV15 dc15 pm15 cd15 ct15 oc16 kV16 dc16 pm16 cd16 ct16 oc17 kV17 dc17 pm17 cd17 ct17 oc18 kV18 dc18 pm18 cd18 ct18 oc19 kV19 dc19 pm19 cd19 ct19 oc20 kV20 dc20 pm20 cd20 ct20 oc21 kV21 dc21 pm21 cd21 ct21 oc22 kV22 dc22 pm22 cd22 ct22 oc23 kV23 dc23 pm23 cd23 ct23 oc24 kV24 dc24 pm24 cd24 ct24 : Value}
    {t_WORD t_BLOCK t_WORD_BITS t_BLOCK_BYTES t_KEY_BYTES t_ROUNDS t_STEP t_FOR_SUM t_FOR_STREAM t_GIVEN t_MORE_GIVEN t_MOST_NAME t_LENGTH_BYTES t_TIME_BYTES t_POINT t_HYPHEN t_MOST_MESSAGE t_NOT_AS_TOLD t_NOT_OPEN : Tok}
    (aC_NoMessage : PySem.W.nsIn K mainGlobals "NoMessage" = some (some (.ref C_NoMessage)))
    (aC_Reader : PySem.W.nsIn K mainGlobals "Reader" = some (some (.ref C_Reader)))
    (a1 : PySem.W.nsIn K mainGlobals "high_first" = some (some (.ref f1)))
    (l1 : K.lookup f1 = some ⟨oc1, od1, .func (PySem.W.fnOf "high_first" "high_first" (defArgs s_high_first) (defBody s_high_first) (defScope s_high_first) .none kV1 dc1 pm1 an1 cd1 ct1), sl1⟩) (c1 : PySem.W.codeIn K cd1 "high_first" = true) (k1 : PySem.W.keepIn K (.ref f1) = true)
    (a2 : PySem.W.nsIn K mainGlobals "number_of" = some (some (.ref f2)))
    (l2 : K.lookup f2 = some ⟨oc2, od2, .func (PySem.W.fnOf "number_of" "number_of" (defArgs s_number_of) (defBody s_number_of) (defScope s_number_of) .none kV2 dc2 pm2 an2 cd2 ct2), sl2⟩) (c2 : PySem.W.codeIn K cd2 "number_of" = true) (k2 : PySem.W.keepIn K (.ref f2) = true)
    (a3 : PySem.W.nsIn K mainGlobals "spread" = some (some (.ref f3)))
    (l3 : K.lookup f3 = some ⟨oc3, od3, .func (PySem.W.fnOf "spread" "spread" (defArgs s_spread) (defBody s_spread) (defScope s_spread) .none kV3 dc3 pm3 an3 cd3 ct3), sl3⟩) (c3 : PySem.W.codeIn K cd3 "spread" = true) (k3 : PySem.W.keepIn K (.ref f3) = true)
    (a4 : PySem.W.nsIn K mainGlobals "enciphered" = some (some (.ref f4)))
    (l4 : K.lookup f4 = some ⟨oc4, od4, .func (PySem.W.fnOf "enciphered" "enciphered" (defArgs s_enciphered) (defBody s_enciphered) (defScope s_enciphered) .none kV4 dc4 pm4 an4 cd4 ct4), sl4⟩) (c4 : PySem.W.codeIn K cd4 "enciphered" = true) (k4 : PySem.W.keepIn K (.ref f4) = true)
    (a5 : PySem.W.nsIn K mainGlobals "words_of" = some (some (.ref f5)))
    (l5 : K.lookup f5 = some ⟨oc5, od5, .func (PySem.W.fnOf "words_of" "words_of" (defArgs s_words_of) (defBody s_words_of) (defScope s_words_of) .none kV5 dc5 pm5 an5 cd5 ct5), sl5⟩) (c5 : PySem.W.codeIn K cd5 "words_of" = true) (k5 : PySem.W.keepIn K (.ref f5) = true)
    (a6 : PySem.W.nsIn K mainGlobals "sum_of" = some (some (.ref f6)))
    (l6 : K.lookup f6 = some ⟨oc6, od6, .func (PySem.W.fnOf "sum_of" "sum_of" (defArgs s_sum_of) (defBody s_sum_of) (defScope s_sum_of) .none kV6 dc6 pm6 an6 cd6 ct6), sl6⟩) (c6 : PySem.W.codeIn K cd6 "sum_of" = true) (k6 : PySem.W.keepIn K (.ref f6) = true)
    (a7 : PySem.W.nsIn K mainGlobals "streamed" = some (some (.ref f7)))
    (l7 : K.lookup f7 = some ⟨oc7, od7, .func (PySem.W.fnOf "streamed" "streamed" (defArgs s_streamed) (defBody s_streamed) (defScope s_streamed) .none kV7 dc7 pm7 an7 cd7 ct7), sl7⟩) (c7 : PySem.W.codeIn K cd7 "streamed" = true) (k7 : PySem.W.keepIn K (.ref f7) = true)
    (a8 : PySem.W.nsIn K mainGlobals "opened" = some (some (.ref f8)))
    (l8 : K.lookup f8 = some ⟨oc8, od8, .func (PySem.W.fnOf "opened" "opened" (defArgs s_opened) (defBody s_opened) (defScope s_opened) .none kV8 dc8 pm8 an8 cd8 ct8), sl8⟩) (c8 : PySem.W.codeIn K cd8 "opened" = true) (k8 : PySem.W.keepIn K (.ref f8) = true)
    (a9 : PySem.W.nsIn K mainGlobals "is_name_byte" = some (some (.ref f9)))
    (l9 : K.lookup f9 = some ⟨oc9, od9, .func (PySem.W.fnOf "is_name_byte" "is_name_byte" (defArgs s_is_name_byte) (defBody s_is_name_byte) (defScope s_is_name_byte) .none kV9 dc9 pm9 an9 cd9 ct9), sl9⟩) (c9 : PySem.W.codeIn K cd9 "is_name_byte" = true) (k9 : PySem.W.keepIn K (.ref f9) = true)
    (a10 : PySem.W.nsIn K mainGlobals "is_name" = some (some (.ref f10)))
    (l10 : K.lookup f10 = some ⟨oc10, od10, .func (PySem.W.fnOf "is_name" "is_name" (defArgs s_is_name) (defBody s_is_name) (defScope s_is_name) .none kV10 dc10 pm10 an10 cd10 ct10), sl10⟩) (c10 : PySem.W.codeIn K cd10 "is_name" = true) (k10 : PySem.W.keepIn K (.ref f10) = true)
    (a11 : PySem.W.nsIn K mainGlobals "time_told" = some (some (.ref f11)))
    (l11 : K.lookup f11 = some ⟨oc11, od11, .func (PySem.W.fnOf "time_told" "time_told" (defArgs s_time_told) (defBody s_time_told) (defScope s_time_told) .none kV11 dc11 pm11 an11 cd11 ct11), sl11⟩) (c11 : PySem.W.codeIn K cd11 "time_told" = true) (k11 : PySem.W.keepIn K (.ref f11) = true)
    (a12 : PySem.W.findIn K (.ref C_Reader) "__init__" = some (some (.ref f12))) (i12 : PySem.W.isFn K (.ref f12) = true)
    (l12 : K.lookup f12 = some ⟨oc12, od12, .func (PySem.W.fnOf "__init__" "Reader.__init__" (defArgs s_Reader___init__) (defBody s_Reader___init__) (defScope s_Reader___init__) .none kV12 dc12 pm12 an12 cd12 ct12), sl12⟩) (c12 : PySem.W.codeIn K cd12 "Reader.__init__" = true) (k12 : PySem.W.keepIn K (.ref f12) = true)
    (a13 : PySem.W.findIn K (.ref C_Reader) "some" = some (some (.ref f13))) (i13 : PySem.W.isFn K (.ref f13) = true)
    (l13 : K.lookup f13 = some ⟨oc13, od13, .func (PySem.W.fnOf "some" "Reader.some" (defArgs s_Reader_some) (defBody s_Reader_some) (defScope s_Reader_some) .none kV13 dc13 pm13 an13 cd13 ct13), sl13⟩) (c13 : PySem.W.codeIn K cd13 "Reader.some" = true) (k13 : PySem.W.keepIn K (.ref f13) = true)
    (a14 : PySem.W.findIn K (.ref C_Reader) "number" = some (some (.ref f14))) (i14 : PySem.W.isFn K (.ref f14) = true)
    (l14 : K.lookup f14 = some ⟨oc14, od14, .func (PySem.W.fnOf "number" "Reader.number" (defArgs s_Reader_number) (defBody s_Reader_number) (defScope s_Reader_number) .none kV14 dc14 pm14 an14 cd14 ct14), sl14⟩) (c14 : PySem.W.codeIn K cd14 "Reader.number" = true) (k14 : PySem.W.keepIn K (.ref f14) = true)
    (a15 : PySem.W.findIn K (.ref C_Reader) "take_name" = some (some (.ref f15))) (i15 : PySem.W.isFn K (.ref f15) = true)
    (l15 : K.lookup f15 = some ⟨oc15, od15, .func (PySem.W.fnOf "take_name" "Reader.take_name" (defArgs s_Reader_take_name) (defBody s_Reader_take_name) (defScope s_Reader_take_name) .none kV15 dc15 pm15 an15 cd15 ct15), sl15⟩) (c15 : PySem.W.codeIn K cd15 "Reader.take_name" = true) (k15 : PySem.W.keepIn K (.ref f15) = true)
    (a16 : PySem.W.findIn K (.ref C_Reader) "row" = some (some (.ref f16))) (i16 : PySem.W.isFn K (.ref f16) = true)
    (l16 : K.lookup f16 = some ⟨oc16, od16, .func (PySem.W.fnOf "row" "Reader.row" (defArgs s_Reader_row) (defBody s_Reader_row) (defScope s_Reader_row) .none kV16 dc16 pm16 an16 cd16 ct16), sl16⟩) (c16 : PySem.W.codeIn K cd16 "Reader.row" = true) (k16 : PySem.W.keepIn K (.ref f16) = true)
    (a17 : PySem.W.findIn K (.ref C_Reader) "time" = some (some (.ref f17))) (i17 : PySem.W.isFn K (.ref f17) = true)
    (l17 : K.lookup f17 = some ⟨oc17, od17, .func (PySem.W.fnOf "time" "Reader.time" (defArgs s_Reader_time) (defBody s_Reader_time) (defScope s_Reader_time) .none kV17 dc17 pm17 an17 cd17 ct17), sl17⟩) (c17 : PySem.W.codeIn K cd17 "Reader.time" = true) (k17 : PySem.W.keepIn K (.ref f17) = true)
    (a18 : PySem.W.findIn K (.ref C_Reader) "want_end" = some (some (.ref f18))) (i18 : PySem.W.isFn K (.ref f18) = true)
    (l18 : K.lookup f18 = some ⟨oc18, od18, .func (PySem.W.fnOf "want_end" "Reader.want_end" (defArgs s_Reader_want_end) (defBody s_Reader_want_end) (defScope s_Reader_want_end) .none kV18 dc18 pm18 an18 cd18 ct18), sl18⟩) (c18 : PySem.W.codeIn K cd18 "Reader.want_end" = true) (k18 : PySem.W.keepIn K (.ref f18) = true)
    (a19 : PySem.W.nsIn K mainGlobals "two_rows_in" = some (some (.ref f19)))
    (l19 : K.lookup f19 = some ⟨oc19, od19, .func (PySem.W.fnOf "two_rows_in" "two_rows_in" (defArgs s_two_rows_in) (defBody s_two_rows_in) (defScope s_two_rows_in) .none kV19 dc19 pm19 an19 cd19 ct19), sl19⟩) (c19 : PySem.W.codeIn K cd19 "two_rows_in" = true) (k19 : PySem.W.keepIn K (.ref f19) = true)
    (a20 : PySem.W.nsIn K mainGlobals "grant_within" = some (some (.ref f20)))
    (l20 : K.lookup f20 = some ⟨oc20, od20, .func (PySem.W.fnOf "grant_within" "grant_within" (defArgs s_grant_within) (defBody s_grant_within) (defScope s_grant_within) .none kV20 dc20 pm20 an20 cd20 ct20), sl20⟩) (c20 : PySem.W.codeIn K cd20 "grant_within" = true) (k20 : PySem.W.keepIn K (.ref f20) = true)
    (a21 : PySem.W.nsIn K mainGlobals "opened_as" = some (some (.ref f21)))
    (l21 : K.lookup f21 = some ⟨oc21, od21, .func (PySem.W.fnOf "opened_as" "opened_as" (defArgs s_opened_as) (defBody s_opened_as) (defScope s_opened_as) .none kV21 dc21 pm21 an21 cd21 ct21), sl21⟩) (c21 : PySem.W.codeIn K cd21 "opened_as" = true) (k21 : PySem.W.keepIn K (.ref f21) = true)
    (a22 : PySem.W.nsIn K mainGlobals "with_length" = some (some (.ref f22)))
    (l22 : K.lookup f22 = some ⟨oc22, od22, .func (PySem.W.fnOf "with_length" "with_length" (defArgs s_with_length) (defBody s_with_length) (defScope s_with_length) .none kV22 dc22 pm22 an22 cd22 ct22), sl22⟩) (c22 : PySem.W.codeIn K cd22 "with_length" = true) (k22 : PySem.W.keepIn K (.ref f22) = true)
    (a23 : PySem.W.nsIn K mainGlobals "grant_in" = some (some (.ref f23)))
    (l23 : K.lookup f23 = some ⟨oc23, od23, .func (PySem.W.fnOf "grant_in" "grant_in" (defArgs s_grant_in) (defBody s_grant_in) (defScope s_grant_in) .none kV23 dc23 pm23 an23 cd23 ct23), sl23⟩) (c23 : PySem.W.codeIn K cd23 "grant_in" = true) (k23 : PySem.W.keepIn K (.ref f23) = true)
    (a24 : PySem.W.nsIn K mainGlobals "tk_open" = some (some (.ref f24)))
    (l24 : K.lookup f24 = some ⟨oc24, od24, .func (PySem.W.fnOf "tk_open" "tk_open" (defArgs s_tk_open) (defBody s_tk_open) (defScope s_tk_open) .none kV24 dc24 pm24 an24 cd24 ct24), sl24⟩) (c24 : PySem.W.codeIn K cd24 "tk_open" = true) (k24 : PySem.W.keepIn K (.ref f24) = true)
    (x_NoMessage : PySem.W.excIn K C_NoMessage [.type "ValueError", .type "Exception", .type "BaseException", .type "object"] "ValueError.__new__" = true)
    (k_NoMessage : PySem.W.keepIn K (.ref C_NoMessage) = true)
    (b_NoMessage : PySem.W.subIn K (.ref C_NoMessage) (.type "BaseException") = some true)
    (t_NoMessage : PySem.W.typeIn K (.ref C_NoMessage) = some (.type "type"))
    (i_NoMessage : PySem.W.isClsIn K C_NoMessage = true)
    (s_NoMessage : PySem.W.subIn K (.ref C_NoMessage) (.ref C_NoMessage) = some true)
    (pg_Reader : PySem.W.plainGet K C_Reader Str.empty = true)
    (hd_Reader : PySem.W.hasDictIn K C_Reader = true)
    (po_Reader : PySem.W.plainOver K C_Reader = true)
    (sa_Reader : PySem.W.findIn K (.ref C_Reader) "__setattr__" = some (some (.builtin "object.__setattr__")))
    (mk_Reader : PySem.W.makesIn K C_Reader = true)
    (kc_Reader : PySem.W.keepIn K (.ref C_Reader) = true)
    (n_Reader_data : PySem.W.findIn K (.ref C_Reader) "data" = some none)
    (n_Reader_at : PySem.W.findIn K (.ref C_Reader) "at" = some none)
    (z_ValueError : PySem.W.nsIn K mainGlobals "ValueError" = some none)
    (z_all : PySem.W.nsIn K mainGlobals "all" = some none)
    (z_len : PySem.W.nsIn K mainGlobals "len" = some none)
    (z_list : PySem.W.nsIn K mainGlobals "list" = some none)
    (z_range : PySem.W.nsIn K mainGlobals "range" = some none)
    (z_tuple : PySem.W.nsIn K mainGlobals "tuple" = some none)
    (z_zip : PySem.W.nsIn K mainGlobals "zip" = some none)
    (g_WORD : PySem.W.nsIn K mainGlobals "WORD" = some (some (.int 4294967296 t_WORD)))
    (g_BLOCK : PySem.W.nsIn K mainGlobals "BLOCK" = some (some (.int 18446744073709551616 t_BLOCK)))
    (g_WORD_BITS : PySem.W.nsIn K mainGlobals "WORD_BITS" = some (some (.int 32 t_WORD_BITS)))
    (g_BLOCK_BYTES : PySem.W.nsIn K mainGlobals "BLOCK_BYTES" = some (some (.int 8 t_BLOCK_BYTES)))
    (g_KEY_BYTES : PySem.W.nsIn K mainGlobals "KEY_BYTES" = some (some (.int 16 t_KEY_BYTES)))
    (g_ROUNDS : PySem.W.nsIn K mainGlobals "ROUNDS" = some (some (.int 32 t_ROUNDS)))
    (g_STEP : PySem.W.nsIn K mainGlobals "STEP" = some (some (.int 2654435769 t_STEP)))
    (g_FOR_SUM : PySem.W.nsIn K mainGlobals "FOR_SUM" = some (some (.int 54 t_FOR_SUM)))
    (g_FOR_STREAM : PySem.W.nsIn K mainGlobals "FOR_STREAM" = some (some (.int 92 t_FOR_STREAM)))
    (g_GIVEN : PySem.W.nsIn K mainGlobals "GIVEN" = some (some (.int 2 t_GIVEN)))
    (g_MORE_GIVEN : PySem.W.nsIn K mainGlobals "MORE_GIVEN" = some (some (.int 4 t_MORE_GIVEN)))
    (g_MOST_NAME : PySem.W.nsIn K mainGlobals "MOST_NAME" = some (some (.int 32 t_MOST_NAME)))
    (g_LENGTH_BYTES : PySem.W.nsIn K mainGlobals "LENGTH_BYTES" = some (some (.int 2 t_LENGTH_BYTES)))
    (g_TIME_BYTES : PySem.W.nsIn K mainGlobals "TIME_BYTES" = some (some (.int 8 t_TIME_BYTES)))
    (g_POINT : PySem.W.nsIn K mainGlobals "POINT" = some (some (.int 46 t_POINT)))
    (g_HYPHEN : PySem.W.nsIn K mainGlobals "HYPHEN" = some (some (.int 45 t_HYPHEN)))
    (g_MOST_MESSAGE : PySem.W.nsIn K mainGlobals "MOST_MESSAGE" = some (some (.int 512 t_MOST_MESSAGE)))
    (g_NOT_AS_TOLD : PySem.W.nsIn K mainGlobals "NOT_AS_TOLD" = some (some (.int (-2) t_NOT_AS_TOLD)))
    (g_NOT_OPEN : PySem.W.nsIn K mainGlobals "NOT_OPEN" = some (some (.int (-1) t_NOT_OPEN)))
    : ∃ fd : FuncData, (∀ (s : Shared) (us : List Value), us.length = (["nonce", "key", "message", "service"] : List Str).length → BindsTo s fd ⟨us, []⟩ ((["nonce", "key", "message", "service"] : List Str).zip us)) ∧ ∀ base : Heap, K.In base → base.Ns mainGlobals mg → FnOk P w K mg base CX0 7 fa fd ["nonce", "key", "message", "service"] ((sp_tk_open K)) := by
  have e := hfa.symm.trans (PySem.W.mg_of X G a24)
  cases e
  have T : Txt K mg := ⟨PySem.W.mg_none_of X G z_ValueError, PySem.W.mg_none_of X G z_all, PySem.W.mg_none_of X G z_len, PySem.W.mg_none_of X G z_list, PySem.W.mg_none_of X G z_range, PySem.W.mg_none_of X G z_tuple, PySem.W.mg_none_of X G z_zip, ⟨_, PySem.W.mg_of X G g_WORD, ⟨_, rfl⟩⟩, ⟨_, PySem.W.mg_of X G g_BLOCK, ⟨_, rfl⟩⟩, ⟨_, PySem.W.mg_of X G g_WORD_BITS, ⟨_, rfl⟩⟩, ⟨_, PySem.W.mg_of X G g_BLOCK_BYTES, ⟨_, rfl⟩⟩, ⟨_, PySem.W.mg_of X G g_KEY_BYTES, ⟨_, rfl⟩⟩, ⟨_, PySem.W.mg_of X G g_ROUNDS, ⟨_, rfl⟩⟩, ⟨_, PySem.W.mg_of X G g_STEP, ⟨_, rfl⟩⟩, ⟨_, PySem.W.mg_of X G g_FOR_SUM, ⟨_, rfl⟩⟩, ⟨_, PySem.W.mg_of X G g_FOR_STREAM, ⟨_, rfl⟩⟩, ⟨_, PySem.W.mg_of X G g_GIVEN, ⟨_, rfl⟩⟩, ⟨_, PySem.W.mg_of X G g_MORE_GIVEN, ⟨_, rfl⟩⟩, ⟨_, PySem.W.mg_of X G g_MOST_NAME, ⟨_, rfl⟩⟩, ⟨_, PySem.W.mg_of X G g_LENGTH_BYTES, ⟨_, rfl⟩⟩, ⟨_, PySem.W.mg_of X G g_TIME_BYTES, ⟨_, rfl⟩⟩, ⟨_, PySem.W.mg_of X G g_POINT, ⟨_, rfl⟩⟩, ⟨_, PySem.W.mg_of X G g_HYPHEN, ⟨_, rfl⟩⟩, ⟨_, PySem.W.mg_of X G g_MOST_MESSAGE, ⟨_, rfl⟩⟩, ⟨_, PySem.W.mg_of X G g_NOT_AS_TOLD, ⟨_, rfl⟩⟩, ⟨_, PySem.W.mg_of X G g_NOT_OPEN, ⟨_, rfl⟩⟩⟩
  have TC : TxtC K mg ⟨C_NoMessage, C_Reader⟩ := ⟨PySem.W.mg_of X G aC_NoMessage, x_NoMessage, k_NoMessage, b_NoMessage, t_NoMessage, exm_self b_NoMessage i_NoMessage t_NoMessage s_NoMessage, ⟨pg_Reader, hd_Reader, po_Reader, sa_Reader⟩, PySem.W.mg_of X G aC_Reader, n_Reader_data, n_Reader_at⟩
  have F1 := fun_mk (st := s_high_first) l1 c1 k1
  have F2 := fun_mk (st := s_number_of) l2 c2 k2
  have F3 := fun_mk (st := s_spread) l3 c3 k3
  have F4 := fun_mk (st := s_enciphered) l4 c4 k4
  have F5 := fun_mk (st := s_words_of) l5 c5 k5
  have F6 := fun_mk (st := s_sum_of) l6 c6 k6
  have F7 := fun_mk (st := s_streamed) l7 c7 k7
  have F8 := fun_mk (st := s_opened) l8 c8 k8
  have F9 := fun_mk (st := s_is_name_byte) l9 c9 k9
  have F10 := fun_mk (st := s_is_name) l10 c10 k10
  have F11 := fun_mk (st := s_time_told) l11 c11 k11
  have F12 := fun_mk (st := s_Reader___init__) l12 c12 k12
  have F13 := fun_mk (st := s_Reader_some) l13 c13 k13
  have F14 := fun_mk (st := s_Reader_number) l14 c14 k14
  have F15 := fun_mk (st := s_Reader_take_name) l15 c15 k15
  have F16 := fun_mk (st := s_Reader_row) l16 c16 k16
  have F17 := fun_mk (st := s_Reader_time) l17 c17 k17
  have F18 := fun_mk (st := s_Reader_want_end) l18 c18 k18
  have F19 := fun_mk (st := s_two_rows_in) l19 c19 k19
  have F20 := fun_mk (st := s_grant_within) l20 c20 k20
  have F21 := fun_mk (st := s_opened_as) l21 c21 k21
  have F22 := fun_mk (st := s_with_length) l22 c22 k22
  have F23 := fun_mk (st := s_grant_in) l23 c23 k23
  have F24 := fun_mk (st := s_tk_open) l24 c24 k24
  refine ⟨PySem.W.fnOf "tk_open" "tk_open" (defArgs s_tk_open) (defBody s_tk_open) (defScope s_tk_open) .none kV24 dc24 pm24 an24 cd24 ct24, fun s us hu => match us, hu with | [_, _, _, _], _ => .of_eq rfl, fun base _ _ => ?_⟩
  have b1 := F1.binds (ps := ["number", "many"]) fun _ _ _ _ _ _ us hl => match us, hl with | [_, _], _ => rfl
  have D1 : Df P w K mg base CX0 1 "high_first" ["number", "many"] (sp_high_first) := ⟨⟨_, _, ok_high_first F1 T, PySem.W.mg_of X G a1, k1, b1⟩⟩
  have b2 := F2.binds (ps := ["row"]) fun _ _ _ _ _ _ us hl => match us, hl with | [_], _ => rfl
  have D2 : Df P w K mg base CX0 1 "number_of" ["row"] ((sp_number_of K)) := ⟨⟨_, _, ok_number_of F2 T, PySem.W.mg_of X G a2, k2, b2⟩⟩
  have b3 := F3.binds (ps := ["half"]) fun _ _ _ _ _ _ us hl => match us, hl with | [_], _ => rfl
  have D3 : Df P w K mg base CX0 1 "spread" ["half"] (sp_spread) := ⟨⟨_, _, ok_spread F3 T, PySem.W.mg_of X G a3, k3, b3⟩⟩
  have b4 := F4.binds (ps := ["words", "block"]) fun _ _ _ _ _ _ us hl => match us, hl with | [_, _], _ => rfl
  have D4 : Df P w K mg base CX0 2 "enciphered" ["words", "block"] ((sp_enciphered K)) := ⟨⟨_, _, ok_enciphered F4 T D3, PySem.W.mg_of X G a4, k4, b4⟩⟩
  have b5 := F5.binds (ps := ["key", "byte"]) fun _ _ _ _ _ _ us hl => match us, hl with | [_, _], _ => rfl
  have D5 : Df P w K mg base CX0 2 "words_of" ["key", "byte"] ((sp_words_of K)) := ⟨⟨_, _, ok_words_of F5 T D2, PySem.W.mg_of X G a5, k5, b5⟩⟩
  have b6 := F6.binds (ps := ["key", "text"]) fun _ _ _ _ _ _ us hl => match us, hl with | [_, _], _ => rfl
  have D6 : Df P w K mg base CX0 3 "sum_of" ["key", "text"] ((sp_sum_of K)) := ⟨⟨_, _, ok_sum_of F6 T D5 D1 D4 D2, PySem.W.mg_of X G a6, k6, b6⟩⟩
  have b7 := F7.binds (ps := ["key", "begin", "text"]) fun _ _ _ _ _ _ us hl => match us, hl with | [_, _, _], _ => rfl
  have D7 : Df P w K mg base CX0 3 "streamed" ["key", "begin", "text"] ((sp_streamed K)) := ⟨⟨_, _, ok_streamed F7 T D5 D1 D4, PySem.W.mg_of X G a7, k7, b7⟩⟩
  have b8 := F8.binds (ps := ["key", "row"]) fun _ _ _ _ _ _ us hl => match us, hl with | [_, _], _ => rfl
  have D8 : Df P w K mg base CX0 4 "opened" ["key", "row"] ((sp_opened K)) := ⟨⟨_, _, ok_opened F8 T D6 D2 D7, PySem.W.mg_of X G a8, k8, b8⟩⟩
  have b9 := F9.binds (ps := ["byte"]) fun _ _ _ _ _ _ us hl => match us, hl with | [_], _ => rfl
  have D9 : Df P w K mg base CX0 1 "is_name_byte" ["byte"] (sp_is_name_byte) := ⟨⟨_, _, ok_is_name_byte F9 T, PySem.W.mg_of X G a9, k9, b9⟩⟩
  have b10 := F10.binds (ps := ["row"]) fun _ _ _ _ _ _ us hl => match us, hl with | [_], _ => rfl
  have D10 : Df P w K mg base CX0 2 "is_name" ["row"] ((sp_is_name K)) := ⟨⟨_, _, ok_is_name F10 T D9, PySem.W.mg_of X G a10, k10, b10⟩⟩
  have b11 := F11.binds (ps := ["number"]) fun _ _ _ _ _ _ us hl => match us, hl with | [_], _ => rfl
  have D11 : Df P w K mg base CX0 2 "time_told" ["number"] (sp_time_told) := ⟨⟨_, _, ok_time_told F11 T D1, PySem.W.mg_of X G a11, k11, b11⟩⟩
  have b12 := F12.binds (ps := ["self", "data"]) fun _ _ _ _ _ _ us hl => match us, hl with | [_, _], _ => rfl
  have D12 : Cn P w K mg base CX0 1 "Reader" C_Reader ["self", "data"] ((sp_Reader___init__ K C_Reader)) := ⟨⟨_, _, ok_Reader___init__ F12 T TC, ⟨mk_Reader, a12, i12, kc_Reader⟩, b12, PySem.W.mg_of X G aC_Reader⟩⟩
  have b13 := F13.binds (ps := ["self", "many"]) fun _ _ _ _ _ _ us hl => match us, hl with | [_, _], _ => rfl
  have D13 : Mt P w K mg base (L2.CX P w) 1 C_Reader "some" ["self", "many"] ((sp_Reader_some K C_Reader C_NoMessage)) := ⟨⟨_, _, ok_Reader_some F13 T TC, ⟨a13, i13, k13⟩, b13⟩⟩
  have b14 := F14.binds (ps := ["self", "many"]) fun _ _ _ _ _ _ us hl => match us, hl with | [_, _], _ => rfl
  have D14 : Mt P w K mg base (L2.CX P w) 2 C_Reader "number" ["self", "many"] ((sp_Reader_number K C_Reader C_NoMessage)) := ⟨⟨_, _, ok_Reader_number F14 T TC D13 D2, ⟨a14, i14, k14⟩, b14⟩⟩
  have b15 := F15.binds (ps := ["self"]) fun _ _ _ _ _ _ us hl => match us, hl with | [_], _ => rfl
  have D15 : Mt P w K mg base (L2.CX P w) 3 C_Reader "take_name" ["self"] ((sp_Reader_take_name K C_Reader C_NoMessage)) := ⟨⟨_, _, ok_Reader_take_name F15 T TC D13 D14 D10, ⟨a15, i15, k15⟩, b15⟩⟩
  have b16 := F16.binds (ps := ["self"]) fun _ _ _ _ _ _ us hl => match us, hl with | [_], _ => rfl
  have D16 : Mt P w K mg base (L2.CX P w) 3 C_Reader "row" ["self"] ((sp_Reader_row K C_Reader C_NoMessage)) := ⟨⟨_, _, ok_Reader_row F16 T TC D13 D14, ⟨a16, i16, k16⟩, b16⟩⟩
  have b17 := F17.binds (ps := ["self"]) fun _ _ _ _ _ _ us hl => match us, hl with | [_], _ => rfl
  have D17 : Mt P w K mg base (L2.CX P w) 3 C_Reader "time" ["self"] ((sp_Reader_time K C_Reader C_NoMessage)) := ⟨⟨_, _, ok_Reader_time F17 T TC D14, ⟨a17, i17, k17⟩, b17⟩⟩
  have b18 := F18.binds (ps := ["self"]) fun _ _ _ _ _ _ us hl => match us, hl with | [_], _ => rfl
  have D18 : Mt P w K mg base (L2.CX P w) 1 C_Reader "want_end" ["self"] ((sp_Reader_want_end K C_Reader C_NoMessage)) := ⟨⟨_, _, ok_Reader_want_end F18 T TC, ⟨a18, i18, k18⟩, b18⟩⟩
  have b19 := F19.binds (ps := ["data"]) fun _ _ _ _ _ _ us hl => match us, hl with | [_], _ => rfl
  have D19 : Df P w K mg base (L2.CX P w) 4 "two_rows_in" ["data"] ((sp_two_rows_in K C_NoMessage)) := ⟨⟨_, _, ok_two_rows_in F19 T TC D12 D16 D18, PySem.W.mg_of X G a19, k19, b19⟩⟩
  have b20 := F20.binds (ps := ["text"]) fun _ _ _ _ _ _ us hl => match us, hl with | [_], _ => rfl
  have DA20 : DfA P w K mg base (L2.CX P w) 4 "grant_within" ["text"] ((sp_grant_within K C_NoMessage)) f20 := ⟨⟨_, ok_grant_within F20 T TC D12 D13 D15 D17 D18, PySem.W.mg_of X G a20, k20, b20⟩⟩
  have DW20 : DfA P w K mg base (L2.CX P w) 4 "grant_within" ["text"] ((sp_grant_within K C_NoMessage)) f20 := ⟨⟨_, FnOk.mono (ok_grant_within F20 T TC D12 D13 D15 D17 D18) (by decide), PySem.W.mg_of X G a20, k20, b20⟩⟩
  have b21 := F21.binds (ps := ["key", "row", "within"]) fun _ _ _ _ _ _ us hl => match us, hl with | [_, _, _], _ => rfl
  have Do20 : Df P w K mg base CX0 5 "opened_as" ["key", "row", "within"] (sp_opened_as K C_NoMessage f20 (sp_grant_within K C_NoMessage)) := ⟨⟨_, _, ok_opened_as F21 T TC D8 DW20, PySem.W.mg_of X G a21, k21, b21⟩⟩
  have b22 := F22.binds (ps := ["row"]) fun _ _ _ _ _ _ us hl => match us, hl with | [_], _ => rfl
  have D22 : Df P w K mg base CX0 1 "with_length" ["row"] ((sp_with_length K)) := ⟨⟨_, _, ok_with_length F22 T, PySem.W.mg_of X G a22, k22, b22⟩⟩
  have b23 := F23.binds (ps := ["key", "message"]) fun _ _ _ _ _ _ us hl => match us, hl with | [_, _], _ => rfl
  have D23 : Df P w K mg base CX0 6 "grant_in" ["key", "message"] ((sp_grant_in K)) := ⟨⟨_, _, ok_grant_in F23 T TC D19 Do20 DA20, PySem.W.mg_of X G a23, k23, b23⟩⟩
  exact ok_tk_open F24 T TC D10 D23 D11 D22
end Th
open PySem PySem.W PyProof.Rows
set_option maxRecDepth 100000 in
set_option maxHeartbeats 16000000 in
theorem PySem.Challenge.cw_trusthouse_s03_tk_open_holds : PySem.Challenge.rw_trusthouse_s03_tk_open.Holds := by
  w_on; k_headS; (case hw => exact ⟨[.int 0, .list [.int 0, .int 0, .int 0, .int 0, .int 0, .int 0, .int 0, .int 0, .int 0, .int 0, .int 0, .int 0, .int 0, .int 0, .int 0, .int 0], .list [], .list []], by decide +kernel, by decide +kernel⟩)
  k_fillS
  refine L2.walk_specK (r := PySem.Challenge.rw_trusthouse_s03_tk_open) (k := 7) (CX := L2.CX0) (ps := ["nonce", "key", "message", "service"]) (sp := Th.sp_tk_open) (by decide +kernel) rfl rfl ⟨rfl, by decide, by decide⟩ (fun w h Y => PySem.W.kIn_of Y) ?F ?S (fun _ _ _ _ z => z)
  case F =>
    intro w mg fa h Y KX G hmg
    refine' Th.all_mk KX G hmg ?aC_NoMessage ?aC_Reader ?a1 ?l1 ?c1 ?k1 ?a2 ?l2 ?c2 ?k2 ?a3 ?l3 ?c3 ?k3 ?a4 ?l4 ?c4 ?k4 ?a5 ?l5 ?c5 ?k5 ?a6 ?l6 ?c6 ?k6 ?a7 ?l7 ?c7 ?k7 ?a8 ?l8 ?c8 ?k8 ?a9 ?l9 ?c9 ?k9 ?a10 ?l10 ?c10 ?k10 ?a11 ?l11 ?c11 ?k11 ?a12 ?i12 ?l12 ?c12 ?k12 ?a13 ?i13 ?l13 ?c13 ?k13 ?a14 ?i14 ?l14 ?c14 ?k14 ?a15 ?i15 ?l15 ?c15 ?k15 ?a16 ?i16 ?l16 ?c16 ?k16 ?a17 ?i17 ?l17 ?c17 ?k17 ?a18 ?i18 ?l18 ?c18 ?k18 ?a19 ?l19 ?c19 ?k19 ?a20 ?l20 ?c20 ?k20 ?a21 ?l21 ?c21 ?k21 ?a22 ?l22 ?c22 ?k22 ?a23 ?l23 ?c23 ?k23 ?a24 ?l24 ?c24 ?k24 ?x_NoMessage ?k_NoMessage ?b_NoMessage ?t_NoMessage ?i_NoMessage ?s_NoMessage ?pg_Reader ?hd_Reader ?po_Reader ?sa_Reader ?mk_Reader ?kc_Reader ?n_Reader_data ?n_Reader_at ?z_ValueError ?z_all ?z_len ?z_list ?z_range ?z_tuple ?z_zip ?g_WORD ?g_BLOCK ?g_WORD_BITS ?g_BLOCK_BYTES ?g_KEY_BYTES ?g_ROUNDS ?g_STEP ?g_FOR_SUM ?g_FOR_STREAM ?g_GIVEN ?g_MORE_GIVEN ?g_MOST_NAME ?g_LENGTH_BYTES ?g_TIME_BYTES ?g_POINT ?g_HYPHEN ?g_MOST_MESSAGE ?g_NOT_AS_TOLD ?g_NOT_OPEN
    (case aC_NoMessage => k_is)
    (case aC_Reader => k_is)
    (case a1 => k_is)
    (case l1 => k_is)
    (case c1 => k_is)
    (case k1 => k_is)
    (case a2 => k_is)
    (case l2 => k_is)
    (case c2 => k_is)
    (case k2 => k_is)
    (case a3 => k_is)
    (case l3 => k_is)
    (case c3 => k_is)
    (case k3 => k_is)
    (case a4 => k_is)
    (case l4 => k_is)
    (case c4 => k_is)
    (case k4 => k_is)
    (case a5 => k_is)
    (case l5 => k_is)
    (case c5 => k_is)
    (case k5 => k_is)
    (case a6 => k_is)
    (case l6 => k_is)
    (case c6 => k_is)
    (case k6 => k_is)
    (case a7 => k_is)
    (case l7 => k_is)
    (case c7 => k_is)
    (case k7 => k_is)
    (case a8 => k_is)
    (case l8 => k_is)
    (case c8 => k_is)
    (case k8 => k_is)
    (case a9 => k_is)
    (case l9 => k_is)
    (case c9 => k_is)
    (case k9 => k_is)
    (case a10 => k_is)
    (case l10 => k_is)
    (case c10 => k_is)
    (case k10 => k_is)
    (case a11 => k_is)
    (case l11 => k_is)
    (case c11 => k_is)
    (case k11 => k_is)
    (case a12 => k_is)
    (case i12 => k_is)
    (case l12 => k_is)
    (case c12 => k_is)
    (case k12 => k_is)
    (case a13 => k_is)
    (case i13 => k_is)
    (case l13 => k_is)
    (case c13 => k_is)
    (case k13 => k_is)
    (case a14 => k_is)
    (case i14 => k_is)
    (case l14 => k_is)
    (case c14 => k_is)
    (case k14 => k_is)
    (case a15 => k_is)
    (case i15 => k_is)
    (case l15 => k_is)
    (case c15 => k_is)
    (case k15 => k_is)
    (case a16 => k_is)
    (case i16 => k_is)
    (case l16 => k_is)
    (case c16 => k_is)
    (case k16 => k_is)
    (case a17 => k_is)
    (case i17 => k_is)
    (case l17 => k_is)
    (case c17 => k_is)
    (case k17 => k_is)
    (case a18 => k_is)
    (case i18 => k_is)
    (case l18 => k_is)
    (case c18 => k_is)
    (case k18 => k_is)
    (case a19 => k_is)
    (case l19 => k_is)
    (case c19 => k_is)
    (case k19 => k_is)
    (case a20 => k_is)
    (case l20 => k_is)
    (case c20 => k_is)
    (case k20 => k_is)
    (case a21 => k_is)
    (case l21 => k_is)
    (case c21 => k_is)
    (case k21 => k_is)
    (case a22 => k_is)
    (case l22 => k_is)
    (case c22 => k_is)
    (case k22 => k_is)
    (case a23 => k_is)
    (case l23 => k_is)
    (case c23 => k_is)
    (case k23 => k_is)
    (case a24 => k_is)
    (case l24 => k_is)
    (case c24 => k_is)
    (case k24 => k_is)
    (case x_NoMessage => k_exc)
    (case k_NoMessage => k_is)
    (case b_NoMessage => k_is)
    (case t_NoMessage => k_is)
    (case i_NoMessage => k_is)
    (case s_NoMessage => first | rfl | k_is)
    (case pg_Reader => k_is)
    (case hd_Reader => k_is)
    (case po_Reader => k_is)
    (case sa_Reader => k_is)
    (case mk_Reader => k_is)
    (case kc_Reader => k_is)
    (case n_Reader_data => k_is)
    (case n_Reader_at => k_is)
    (case z_ValueError => k_is)
    (case z_all => k_is)
    (case z_len => k_is)
    (case z_list => k_is)
    (case z_range => k_is)
    (case z_tuple => k_is)
    (case z_zip => k_is)
    (case g_WORD => k_is)
    (case g_BLOCK => k_is)
    (case g_WORD_BITS => k_is)
    (case g_BLOCK_BYTES => k_is)
    (case g_KEY_BYTES => k_is)
    (case g_ROUNDS => k_is)
    (case g_STEP => k_is)
    (case g_FOR_SUM => k_is)
    (case g_FOR_STREAM => k_is)
    (case g_GIVEN => k_is)
    (case g_MORE_GIVEN => k_is)
    (case g_MOST_NAME => k_is)
    (case g_LENGTH_BYTES => k_is)
    (case g_TIME_BYTES => k_is)
    (case g_POINT => k_is)
    (case g_HYPHEN => k_is)
    (case g_MOST_MESSAGE => k_is)
    (case g_NOT_AS_TOLD => k_is)
    (case g_NOT_OPEN => k_is)
  case S =>
    intro K H xs a hO hwi hask hx
    obtain ⟨n, k, l, s, u⟩ := a
    cases hx with
    | cons h1 hx =>
      cases hx with
      | cons h2 hx =>
        cases hx with
        | cons h3 hx =>
          cases hx with
          | cons h4 hx =>
            cases hx
            cases h1
            cases h2 with
            | lst hs2 ha2 =>
              cases h3 with
              | lst hs3 ha3 =>
                cases h4 with
                | lst hs4 ha4 =>
                  have e2 := L2.ints_dw k _ ha2
                  have e3 := L2.ints_dw l _ ha3
                  have e4 := L2.ints_dw s _ ha4
                  subst e2 e3 e4
                  have q : (Codec.inInt 0 18446744073709551615 n && ((Codec.inLen 16 16 k && k.all (Codec.inInt 0 255)) && ((Codec.inLen 0 512 l && l.all (Codec.inInt 0 255)) && ((Codec.inLen 0 64 s && s.all (Codec.inInt 0 255)) && true)))) = true := hwi
                  obtain ⟨q1, q⟩ := Th.and2 q
                  obtain ⟨q2, q⟩ := Th.and2 q
                  obtain ⟨q3, q⟩ := Th.and2 q
                  obtain ⟨q4, _⟩ := Th.and2 q
                  obtain ⟨v2, l2, m2, _⟩ := Th.w_bytes q2
                  obtain ⟨v3, l3, m3, b3⟩ := Th.w_bytes q3
                  obtain ⟨v4, l4, m4, _⟩ := Th.w_bytes q4
                  rw [v2] at hs2
                  rw [v3] at hs3
                  rw [v4] at hs4
                  refine ⟨n.toNat, _, _, _, Ql67Neutral.nats k, Ql67Neutral.nats l, Ql67Neutral.nats s, ?_, hs2, by omega, hs3, b3, by omega, hs4, by omega, fun H' p hp => .lst (Th.lst_of hp) ?_⟩
                  · show [L2.V.int n, _, _, _] = _
                    rw [Th.nat_int q1]
                  · have el : (Ql67Neutral.nats l).length = ((l.length : Nat) : Int).toNat := by rw [l3, Int.toNat_natCast]
                    rw [el]
                    exact Th.ansV_dw _
#print axioms PySem.Challenge.cw_trusthouse_s03_tk_open_holds
