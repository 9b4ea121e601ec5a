import PyProof.Rows.All
import Wide.All
import OpenK.AllK
import Wide.FinOn
import PySem.Challenge.RW_nt0271_01
open PySem PySem.W PyProof.Rows PySem.Calls
set_option Elab.async false
set_option maxRecDepth 100000
set_option maxHeartbeats 8000000
namespace Nt
open_top hd for PySem.Challenge.rw_nt0271_01
noncomputable section
theorem pc_in (n : Int) : 0 ≤ n % 128 ∧ n % 128 < 128 := ⟨Int.emod_nonneg n (by decide), Int.emod_lt_of_pos n (by decide)⟩
theorem pc_in2 (n : Int) : 0 ≤ n % 128 + 128 ∧ n % 128 + 128 < 256 := ⟨Int.add_nonneg (pc_in n).1 (by decide), Int.add_lt_add_right (pc_in n).2 128⟩
theorem pc_in1 (n : Int) : 0 ≤ n % 128 ∧ n % 128 < 256 := ⟨(pc_in n).1, Int.lt_trans (pc_in n).2 (by decide)⟩
theorem pc_down {n P : Int} (h : n < P * 128) : n / 128 < P := Int.ediv_lt_of_lt_mul (by decide) h
theorem pc_pos {n : Int} (h : 0 ≤ n) : 0 ≤ n / 128 := Int.ediv_nonneg h (by decide)
theorem pc_back (n : Int) : n % 128 + n / 128 * 128 = n := by rw [Int.add_comm]; exact Int.ediv_mul_add_emod n 128
theorem down_nat {k i : Nat} (h : i < k) : ((k : Int) - 1 + (i : Int) * -1).toNat = k - 1 - i := by
  obtain ⟨d, rfl⟩ := Nat.exists_eq_add_of_lt h
  rw [Nat.add_sub_cancel, Nat.add_sub_cancel_left, Int.mul_neg, Int.mul_one, show ((i + d + 1 : Nat) : Int) = (i : Int) + d + 1 from rfl, Int.add_sub_cancel, Int.add_comm (i : Int) d, ← Int.sub_eq_add_neg, Int.add_sub_cancel]
  rfl
theorem dn_small {k : Nat} (h : k ≤ 8) : Builtin.Range.small ((k : Int) - 1) (-1) (-1) = true := (by decide +kernel : ∀ k : Nat, k ≤ 8 → Builtin.Range.small ((k : Int) - 1) (-1) (-1) = true) k h
theorem dn_size (k : Nat) : Builtin.Range.rangeSize ((k : Int) - 1) (-1) (-1) = (k : Int) := by
  rw [rangeSize_downNat, Int.sub_neg, Int.sub_add_cancel]; rfl
theorem dn_in {k i : Nat} (h : i < k) (h8 : k ≤ 8) : 0 ≤ (k : Int) - 1 + (i : Int) * -1 ∧ (k : Int) - 1 + (i : Int) * -1 ≤ 8 := by (first | lia | omega)
theorem dn_pow {k i : Nat} (h : i < k) (h8 : k ≤ 8) : 0 ≤ (k : Int) - 1 + (i : Int) * -1 ∧ (k : Int) - 1 + (i : Int) * -1 ≤ 1000 := ⟨(dn_in h h8).1, Int.le_trans (dn_in h h8).2 (by decide)⟩
theorem dn7 {y : Int} (h : y + 1 ≤ 6) : (7 - (y + 1)).toNat < (7 - y).toNat := by (first | lia | omega)
theorem dig_idx {k j : Nat} (h : j < k) : k + 1 - 1 - j = k - 1 - j + 1 := by
  obtain ⟨d, rfl⟩ := Nat.exists_eq_add_of_lt h
  rw [Nat.add_sub_cancel, Nat.add_sub_cancel, Nat.add_assoc, Nat.add_sub_cancel_left, Nat.add_sub_cancel_left]
theorem tail2 {i : Nat} (h : i < 5) : 3 ≤ i → i = 3 ∨ i = 4 := (by decide : ∀ i : Nat, i < 5 → 3 ≤ i → i = 3 ∨ i = 4) i h
theorem up1000 {x : Int} {n : Nat} (h : x < (n : Int)) (hn : n ≤ 1000) : (1000 - (x + 1)).toNat < (1000 - x).toNat := by (first | lia | omega)
theorem off_fits {y : Int} (h3 : -1 ≤ y) (h4 : y < 8796093022208) : (y + 1).natAbs < 2 ^ 64 := by (first | lia | omega)
theorem size_fits (o : Int) : (Builtin.bitAnd o 127).natAbs < 2 ^ 64 := by
  have := bitAnd_range o (y := 127) (by decide)
  first | lia | omega
theorem three {i : Nat} (h : i < 3) : i = 0 ∨ i = 1 ∨ i = 2 := (by decide : ∀ i : Nat, i < 3 → i = 0 ∨ i = 1 ∨ i = 2) i h
theorem five {i : Nat} (h : i < 5) : i = 0 ∨ i = 1 ∨ i = 2 ∨ i = 3 ∨ i = 4 := (by decide : ∀ i : Nat, i < 5 → i = 0 ∨ i = 1 ∨ i = 2 ∨ i = 3 ∨ i = 4) i h
/-- the octets of a number, the highest first -/
noncomputable def bigOf (n : Int) (many : Nat) : List Int := (List.range many).map fun k => n / 256 ^ (many - 1 - k) % 256
theorem in_mod' {l : List Nat} {g : Nat → Int} : KBa.In (l.map fun k => g k % 256) := by
  intro n hn
  obtain ⟨k, _, rfl⟩ := List.mem_map.1 hn
  exact ⟨Int.emod_nonneg _ (by decide), Int.emod_lt_of_pos _ (by decide)⟩
theorem pow8 (k : Nat) : (2 : Int) ^ (8 * k) = 256 ^ k := by
  rw [Int.pow_mul]; rfl
theorem pow256_py {k : Int} (h : k ≤ 8) : ((256 : Int) ^ k.toNat).natAbs.log2 < 9000 := by
  have h1 : k.toNat ≤ 8 := by (first | lia | omega)
  have h2 : ∀ n : Nat, n ≤ 8 → ((256 : Int) ^ n).natAbs.log2 < 9000 := by decide
  exact h2 _ h1
theorem pow128_py {k : Int} (h : k ≤ 8) : ((128 : Int) ^ k.toNat).natAbs.log2 < 9000 := by
  have h1 : k.toNat ≤ 8 := by (first | lia | omega)
  have h2 : ∀ n : Nat, n ≤ 8 → ((128 : Int) ^ n).natAbs.log2 < 9000 := by decide
  exact h2 _ h1
theorem band_nat {k i : Nat} (h : i < k) : (8 * ((k : Int) - 1 - (0 + (i : Int) * 1))).toNat = 8 * (k - 1 - i) := by
  obtain ⟨d, rfl⟩ := Nat.exists_eq_add_of_lt h
  rw [Int.zero_add, Int.mul_one, show ((i + d + 1 : Nat) : Int) = (i : Int) + d + 1 from rfl, Int.add_sub_cancel, Int.add_comm (i : Int) d, Int.add_sub_cancel, Nat.add_sub_cancel, Nat.add_sub_cancel_left]
  rfl
theorem band_at {x : Int} {k i : Nat} (hi : i < k) : Builtin.bitAnd (x.fdiv (2 ^ (8 * ((k : Int) - 1 - (0 + (i : Int) * 1))).toNat)) 255 = x / 256 ^ (k - 1 - i) % 256 := by
  rw [band_nat hi, pow8, bitAnd_m8, Int.fdiv_eq_ediv_of_nonneg _ (Int.le_of_lt (Int.pow_pos (by decide)))]
theorem bitOr_128 (n : Int) : Builtin.bitOr 128 (Builtin.bitAnd n 127) = n % 128 + 128 := by
  have h1 : Builtin.bitAnd n 127 = n % 128 := bitAnd_m7 n
  have h2 : Builtin.bitAnd 128 (n % 128) = 0 := by
    rw [bitAnd_comm]
    have h := kbt_bit (n % 128) 7
    have e : n % 128 / 2 ^ 7 = 0 := by (first | lia | omega)
    rw [e] at h
    simpa using h
  rw [h1, bitOr_and, h2]
  first | lia | omega
theorem fdiv_128 (n : Int) : n.fdiv (2 ^ Int.toNat 7) = n / 128 := by
  rw [Int.fdiv_eq_ediv_of_nonneg _ (by decide)]
  rfl
theorem fdiv_128' (n : Int) : n.fdiv 128 = n / 128 := Int.fdiv_eq_ediv_of_nonneg _ (by decide)
theorem fmod_128 (n : Int) : n.fmod 128 + 128 = n % 128 + 128 := by rw [Int.fmod_eq_emod_of_nonneg _ (by decide)]
/-- a number by sevens, the lowest first -/
noncomputable def piecesN : Nat → Int → List Int
  | 0, _ => []
  | f + 1, n => if n < 128 then [n] else (n % 128 + 128) :: piecesN f (n / 128)
theorem piecesN_last {f : Nat} {n : Int} (h : n < 128) : piecesN (f + 1) n = [n] := by simp [piecesN, h]
theorem piecesN_more {f : Nat} {n : Int} (h : ¬ n < 128) : piecesN (f + 1) n = (n % 128 + 128) :: piecesN f (n / 128) := by simp [piecesN, h]
noncomputable def pieces (x : Int) : List Int := piecesN 6 x
/-- what holds between the turns of the loop that writes a number by sevens -/
noncomputable def PutInv (x : Int) (items : List Int) (n : Int) : Prop :=
  ∃ f : Nat, 0 ≤ n ∧ n < 128 ^ (f + 1) ∧ items.length + f + 1 ≤ 6 ∧ KBa.In items ∧ items ++ piecesN (f + 1) n = pieces x
theorem putInv_start {x : Int} (h0 : 0 ≤ x) (h1 : x < 2199023255552) : PutInv x [] x :=
  ⟨5, h0, by have : (128 : Int) ^ (5 + 1) = 4398046511104 := by decide
             first | lia | omega, Nat.le_refl _, (fun _ h => nomatch h), rfl⟩
theorem putInv_turn {x n v m : Int} {items : List Int} (h : PutInv x items n) (hn : 127 < n) (hv : v = n % 128 + 128) (hm : m = n / 128) : PutInv x (items ++ [v]) m := by
  obtain ⟨f, h0, h1, h2, h3, h4⟩ := h
  subst hv hm
  cases f with
  | zero => exact absurd h1 (Int.not_lt.2 (Int.add_one_le_of_lt hn))
  | succ f =>
    refine ⟨f, pc_pos h0, pc_down ((Int.pow_succ 128 (f + 1)) ▸ h1), by simp only [List.length_append, List.length_cons, List.length_nil]; (first | lia | omega), ?_, ?_⟩
    · intro k hk
      rcases List.mem_append.mp hk with hk | hk
      · exact h3 k hk
      · rw [List.mem_singleton.mp hk]; exact pc_in2 n
    · rw [← h4, piecesN_more (f := f + 1) (n := n) (Int.not_lt.2 (Int.add_one_le_of_lt hn))]; simp
theorem putInv_len {x n : Int} {items : List Int} (h : PutInv x items n) : items.length ≤ 5 := by
  obtain ⟨f, _, _, h2, _⟩ := h
  first | lia | omega
theorem putInv_end {x n : Int} {items : List Int} (h : PutInv x items n) (hn : ¬ 127 < n) : items ++ [n] = pieces x ∧ KBa.In (items ++ [n]) := by
  obtain ⟨f, h0, h1, h2, h3, h4⟩ := h
  refine ⟨by rw [← h4, piecesN_last (by (first | lia | omega))], ?_⟩
  intro k hk
  rcases List.mem_append.mp hk with hk | hk
  · exact h3 k hk
  · rw [List.mem_singleton.mp hk]; (first | lia | omega)
theorem putInv_start' {x : Int} (h0 : 0 ≤ x) (h1 : x < 2199023255552) : PutInv x [] x ∧ ([] : List Int).length ≤ 5 := ⟨putInv_start h0 h1, Nat.zero_le _⟩
theorem putInv_turn' {x n v m : Int} {items : List Int} (h : PutInv x items n) (hn : 127 < n) (hv : v = n % 128 + 128) (hm : m = n / 128) : PutInv x (items ++ [v]) m ∧ (items ++ [v]).length ≤ 5 :=
  ⟨putInv_turn h hn hv hm, putInv_len (putInv_turn h hn hv hm)⟩
theorem down_128 {n : Int} (hn : 127 < n) : (n / 128).toNat < n.toNat := (Int.toNat_lt_toNat (Int.lt_trans (by decide) hn)).2 (Int.ediv_lt_of_lt_mul (by decide) (by (first | lia | omega)))

/-- the pieces of an offset behind the last one, the lowest first -/
noncomputable def offTail : Nat → Int → List Int
  | 0, _ => []
  | f + 1, n => if n ≤ 0 then [] else ((n - 1) % 128 + 128) :: offTail f ((n - 1) / 128)
theorem offTail_last {f : Nat} {n : Int} (h : n ≤ 0) : offTail f n = [] := by
  cases f with
  | zero => rfl
  | succ f => simp [offTail, h]
theorem offTail_more {f : Nat} {n : Int} (h : ¬ n ≤ 0) : offTail (f + 1) n = ((n - 1) % 128 + 128) :: offTail f ((n - 1) / 128) := by simp [offTail, h]
noncomputable def offLow (x : Int) : List Int := (x % 128) :: offTail 5 (x / 128)
noncomputable def offOf (x : Int) : List Int := (offLow x).reverse
noncomputable def OffInv (x : Int) (items : List Int) (n : Int) : Prop :=
  ∃ f : Nat, 0 ≤ n ∧ n < 128 ^ f ∧ items.length + f ≤ 6 ∧ KBa.In items ∧ items ++ offTail f n = offLow x
theorem offInv_start {x v n : Int} (h0 : 0 ≤ x) (h1 : x < 2199023255552) (hv : v = x % 128) (hn : n = x / 128) : OffInv x [v] n ∧ [v].length ≤ 6 := by
  subst hv hn
  refine ⟨⟨5, pc_pos h0, pc_down (Int.lt_trans h1 (by decide)), Nat.le_refl _, ?_, rfl⟩, by simp⟩
  · intro k hk
    rw [List.mem_singleton.mp hk]; exact pc_in1 x
theorem offInv_turn {x n v m : Int} {items : List Int} (h : OffInv x items n) (hn : 0 < n) (hv : v = (n - 1) % 128 + 128) (hm : m = (n - 1) / 128) : OffInv x (items ++ [v]) m ∧ (items ++ [v]).length ≤ 6 := by
  obtain ⟨f, h0, h1, h2, h3, h4⟩ := h
  subst hv hm
  cases f with
  | zero => exact absurd h1 (Int.not_lt.2 (Int.add_one_le_of_lt hn))
  | succ f =>
    refine ⟨⟨f, pc_pos (Int.le_sub_one_of_lt hn), pc_down (Int.lt_trans (Int.sub_lt_self n (by decide)) ((Int.pow_succ 128 f) ▸ h1)), by rw [List.length_append, Nat.add_right_comm, Nat.add_assoc]; exact h2, ?_, ?_⟩, by rw [List.length_append]; exact Nat.le_trans (Nat.add_le_add_left (Nat.le_add_left 1 f) _) h2⟩
    · intro k hk
      rcases List.mem_append.mp hk with hk | hk
      · exact h3 k hk
      · rw [List.mem_singleton.mp hk]; exact pc_in2 (n - 1)
    · rw [← h4, offTail_more (f := f) (n := n) (Int.not_le.2 hn)]; simp
theorem offInv_end {x n : Int} {items : List Int} (h : OffInv x items n) (hn : ¬ 0 < n) : items.reverse = offOf x ∧ KBa.In items.reverse := by
  obtain ⟨f, h0, h1, h2, h3, h4⟩ := h
  rw [offTail_last (Int.not_lt.1 hn), List.append_nil] at h4
  exact ⟨by rw [h4]; rfl, fun k hk => h3 k (List.mem_reverse.mp hk)⟩
theorem down_128' {n : Int} (hn : 0 < n) : ((n - 1) / 128).toNat < n.toNat := (Int.toNat_lt_toNat hn).2 (Int.lt_of_le_of_lt (Int.ediv_le_self _ (Int.le_sub_one_of_lt hn)) (Int.sub_lt_self n (by decide)))

theorem nt_neL {l : List (Addr × Obj)} {L : Addr} (h : ∀ p ∈ l, p.1 < L) : ∀ p ∈ l, p.1 ≠ L + 1 := fun p hp => Nat.ne_of_lt (Nat.lt_succ_of_lt (h p hp))
/-- the first number whose offset is written by n + 1 pieces -/
noncomputable def firstOf : Nat → Int
  | 0 => 0
  | n + 1 => firstOf n + 128 ^ (n + 1)
noncomputable def FarInv (x many first : Int) : Prop := 1 ≤ many ∧ many ≤ 6 ∧ first = firstOf (many - 1).toNat ∧ first ≤ x
theorem farInv_start {x : Int} (h0 : 0 ≤ x) : FarInv x 1 0 := ⟨by decide, by decide, rfl, h0⟩
theorem firstOf_nonneg : ∀ n, 0 ≤ firstOf n
  | 0 => Int.le_refl _
  | n + 1 => by
    unfold firstOf
    exact Int.add_nonneg (firstOf_nonneg n) (Int.le_of_lt (Int.pow_pos (by decide)))
theorem farInv_turn {x many first : Int} (h1 : x < 2199023255552) (h : FarInv x many first) (hn : first + 128 ^ many.toNat ≤ x) : FarInv x (many + 1) (first + 128 ^ many.toNat) := by
  obtain ⟨a, b, c, d⟩ := h
  have hm : many ≠ 6 := by
    intro e
    subst e
    have h2 : (128 : Int) ^ (6 : Int).toNat = 4398046511104 := by decide
    have h3 := firstOf_nonneg ((6 : Int) - 1).toNat
    rw [h2] at hn
    first | lia | omega
  have b' : many + 1 ≤ 6 := Int.add_one_le_of_lt (Int.lt_iff_le_and_ne.2 ⟨b, hm⟩)
  obtain ⟨k, rfl⟩ : ∃ k : Nat, many = (k : Int) + 1 := ⟨(many - 1).toNat, by rw [Int.toNat_of_nonneg (Int.sub_nonneg_of_le a), Int.sub_add_cancel]⟩
  refine ⟨Int.le_add_one a, b', ?_, hn⟩
  rw [Int.add_sub_cancel] at c ⊢
  rw [c]
  rfl

/-- k digits by 128, the lowest first -/
noncomputable def lowDig : Nat → Int → List Int
  | 0, _ => []
  | k + 1, l => (l % 128) :: lowDig k (l / 128)
theorem lowDig_eq : ∀ (k : Nat) (l : Int), lowDig k l = (List.range k).map fun j => l / 128 ^ j % 128
  | 0, _ => rfl
  | k + 1, l => by
    rw [lowDig, lowDig_eq k, List.range_succ_eq_map, List.map_cons, List.map_map]
    congr 1
    · simp
    · refine List.map_congr_left fun j _ => ?_
      simp only [Function.comp, Nat.succ_eq_add_one]
      rw [Int.pow_succ', Int.ediv_ediv_of_nonneg (by decide)]
theorem firstOf_succ (k : Nat) : firstOf (k + 1) = 128 * (firstOf k + 1) := by
  induction k with
  | zero => rfl
  | succ k ih =>
    have e : (128 : Int) ^ (k + 1 + 1) = 128 ^ (k + 1) * 128 := Int.pow_succ ..
    show firstOf (k + 1) + 128 ^ (k + 1 + 1) = _
    have e2 : firstOf (k + 1) = firstOf k + 128 ^ (k + 1) := rfl
    rw [e, show firstOf (k + 1) + 1 = firstOf k + 1 + 128 ^ (k + 1) from by rw [e2, Int.add_right_comm], Int.mul_add, ← ih, Int.mul_comm 128 (128 ^ (k + 1))]
theorem firstOf_mod (k : Nat) (q : Int) : (q - firstOf k) % 128 = q % 128 := by
  cases k with
  | zero => show (q - 0) % 128 = _; rw [Int.sub_zero]
  | succ k => rw [firstOf_succ]; exact Int.sub_mul_emod_self_left q 128 _
theorem offTail_dig : ∀ (k f : Nat) (z : Int), firstOf k ≤ z → z < firstOf k + 128 ^ (k + 1) → k ≤ f → offTail f (z / 128) = (lowDig k ((z - firstOf k) / 128)).map (· + 128)
  | 0, f, z, h1, h2, _ => by
    have e : firstOf 0 = 0 := rfl
    rw [e] at h1 h2
    have e2 : (128 : Int) ^ (0 + 1) = 128 := by decide
    rw [offTail_last (by (first | lia | omega))]
    rfl
  | k + 1, 0, z, h1, h2, h3 => absurd h3 (Nat.not_succ_le_zero k)
  | k + 1, f + 1, z, h1, h2, h3 => by
    have h0 := firstOf_nonneg k
    have e : (128 : Int) ^ (k + 1 + 1) = 128 ^ (k + 1) * 128 := Int.pow_succ ..
    rw [firstOf_succ] at h1 h2 ⊢
    have a1 : firstOf k + 1 ≤ z / 128 := Int.le_ediv_of_mul_le (by decide) (Int.mul_comm 128 _ ▸ h1)
    have a2 : z / 128 < firstOf k + 1 + 128 ^ (k + 1) := Int.ediv_lt_of_lt_mul (by decide) (by rw [Int.add_mul, ← e, Int.mul_comm (firstOf k + 1)]; exact h2)
    rw [Int.sub_mul_ediv_left z _ (by decide)]
    generalize z / 128 = q at *
    rw [offTail_more (Int.not_le.2 (Int.lt_of_lt_of_le (Int.lt_add_one_of_le h0) a1)), offTail_dig k f (q - 1) (Int.le_sub_right_of_add_le a1) (by (first | lia | omega)) (Nat.le_of_succ_le_succ h3), lowDig, List.map_cons, show q - (firstOf k + 1) = q - 1 - firstOf k from by (first | lia | omega), firstOf_mod]
theorem offLow_dig {k : Nat} {x : Int} (h1 : firstOf k ≤ x) (h2 : x < firstOf k + 128 ^ (k + 1)) (hk : k ≤ 5) : offLow x = (x - firstOf k) % 128 :: (lowDig k ((x - firstOf k) / 128)).map (· + 128) := by
  unfold offLow
  rw [offTail_dig k 5 x h1 h2 hk, firstOf_mod]
theorem reverse_map_range {α : Type} (g : Nat → α) (n : Nat) : ((List.range n).map g).reverse = (List.range n).map fun i => g (n - 1 - i) := by
  apply List.ext_getElem
  · simp
  · intro i h1 h2
    simp
theorem farDigits (l : Int) (n : Nat) : (List.range n).map (fun i => l / 128 ^ (n - 1 - i) % 128) = (lowDig n l).reverse := by
  rw [lowDig_eq, reverse_map_range]
theorem lowDig_length : ∀ (k : Nat) (l : Int), (lowDig k l).length = k
  | 0, _ => rfl
  | k + 1, l => by rw [lowDig, List.length_cons, lowDig_length k]
theorem lowDig_in (k : Nat) : ∀ (l d : Int), d ∈ lowDig k l → 0 ≤ d ∧ d < 128 := by
  induction k with
  | zero => exact fun l d h => absurd h List.not_mem_nil
  | succ k ih =>
    intro l d h
    rcases List.mem_cons.mp h with rfl | h
    · exact pc_in l
    · exact ih _ d h
theorem offOf_in {x : Int} : KBa.In (offOf x) := by
  have key : ∀ (f : Nat) (n : Int), KBa.In (offTail f n) := by
    intro f
    induction f with
    | zero => exact fun _ _ h => nomatch h
    | succ f ih =>
      intro n
      unfold offTail
      split
      · exact fun _ h => nomatch h
      · intro k hk
        rcases List.mem_cons.mp hk with rfl | hk
        · exact pc_in2 _
        · exact ih _ k hk
  intro k hk
  have hk := List.mem_reverse.mp hk
  rcases List.mem_cons.mp hk with rfl | hk
  · exact pc_in1 _
  · exact key _ _ k hk
theorem farInv_end {x f : Int} {n : Nat} (h : FarInv x n f) (hn : ¬ f + 128 ^ n ≤ x) :
    (((lowDig n (x - f)).reverse.take ((lowDig n (x - f)).reverse.length - 1)).map fun k => k + 128) ++ (lowDig n (x - f)).reverse.drop ((lowDig n (x - f)).reverse.length - 1) = offOf x := by
  obtain ⟨a, b, c, d⟩ := h
  obtain ⟨k, rfl⟩ : ∃ k : Nat, n = k + 1 := ⟨n - 1, (Nat.sub_add_cancel (Int.ofNat_le.1 a)).symm⟩
  rw [show (((k + 1 : Nat) : Int) - 1).toNat = k from (by rw [show ((k + 1 : Nat) : Int) = (k : Int) + 1 from rfl, Int.add_sub_cancel]; rfl)] at c
  subst c
  rw [List.length_reverse, lowDig_length, lowDig, List.reverse_cons, Nat.add_sub_cancel, List.take_left' (by rw [List.length_reverse, lowDig_length]), List.drop_left' (by rw [List.length_reverse, lowDig_length])]
  unfold offOf
  rw [offLow_dig d (Int.not_le.1 hn) (Nat.le_of_succ_le_succ (Int.ofNat_le.1 b)), List.reverse_cons, List.map_reverse]
/-- the number that octets tell, the highest first -/
noncomputable def beVal (l : List Int) : Int := l.foldl (fun n o => 256 * n + o) 0
theorem beVal_turn {ks : List Int} {i : Nat} {n o : Int} (h : n = beVal (ks.take i)) (ho : ks[i]? = some o) : 256 * n + o = beVal (ks.take (i + 1)) := by
  rw [List.take_add_one, ho, h]
  simp [beVal, List.foldl_append]
end
noncomputable section
theorem and_zero (x : Int) : Builtin.bitAnd x 0 = 0 := by
  have := bitAnd_range x (y := 0) (by decide)
  first | lia | omega
theorem and_apart (b : Int) : ∀ (k : Nat) (a : Int), 0 ≤ a → a < 2 ^ k → Builtin.bitAnd a (b * 2 ^ k) = 0
  | 0, a, h0, h1 => by
    have e : a = 0 := Int.le_antisymm (Int.lt_add_one_iff.1 (show a < 0 + 1 from h1)) h0
    rw [e, bitAnd_comm]; exact and_zero _
  | k + 1, a, h0, h1 => by
    have e : (2 : Int) ^ (k + 1) = 2 ^ k * 2 := Int.pow_succ ..
    have e2 : b * 2 ^ (k + 1) = 2 * (b * 2 ^ k) := by rw [e, ← Int.mul_assoc, Int.mul_comm]
    rw [kbt_halves, e2, Int.mul_ediv_cancel_left _ (by decide), and_apart b k (a / 2) (Int.ediv_nonneg h0 (by decide)) (Int.ediv_lt_of_lt_mul (by decide) (e ▸ h1)), Int.mul_emod_right]
    rw [if_neg fun h => absurd h.2 (by decide)]
    rfl
theorem or_apart {a b : Int} {k : Nat} (h0 : 0 ≤ a) (h1 : a < 2 ^ k) : Builtin.bitOr a (b * 2 ^ k) = a + b * 2 ^ k := by
  rw [bitOr_and, and_apart b k a h0 h1, Int.sub_zero]
theorem pow_seven (n : Nat) : (2 : Int) ^ (7 * n) = 128 ^ n := by
  rw [Int.pow_mul]; rfl
/-- all go on -/
noncomputable def Big (l : List Int) : Prop := ∀ o ∈ l, 128 ≤ o
noncomputable def leVal (l : List Int) : Int := l.foldr (fun o n => o % 128 + 128 * n) 0
theorem leVal_snoc (o : Int) : ∀ l : List Int, leVal (l ++ [o]) = leVal l + o % 128 * 128 ^ l.length
  | [] => by simp [leVal]
  | a :: l => by
    have ih := leVal_snoc o l
    have e : (128 : Int) ^ (l.length + 1) = 128 ^ l.length * 128 := Int.pow_succ ..
    show a % 128 + 128 * leVal (l ++ [o]) = a % 128 + 128 * leVal l + o % 128 * 128 ^ (l.length + 1)
    rw [ih, e, Int.mul_add, Int.add_assoc]
    congr 2
    rw [Int.mul_comm, Int.mul_assoc]
theorem leVal_lt : ∀ l : List Int, 0 ≤ leVal l ∧ leVal l < 128 ^ l.length
  | [] => by simp [leVal]
  | a :: l => by
    have ih := leVal_lt l
    have e : (128 : Int) ^ (l.length + 1) = 128 ^ l.length * 128 := Int.pow_succ ..
    show 0 ≤ a % 128 + 128 * leVal l ∧ a % 128 + 128 * leVal l < 128 ^ (l.length + 1)
    have e2 : 128 + 128 * leVal l = (leVal l + 1) * 128 := by rw [Int.add_mul, Int.one_mul, Int.mul_comm (leVal l), Int.add_comm]
    rw [e]
    exact ⟨Int.add_nonneg (pc_in a).1 (Int.mul_nonneg (by decide) ih.1), Int.lt_of_lt_of_le (Int.add_lt_add_right (pc_in a).2 _) (e2 ▸ Int.mul_le_mul_of_nonneg_right (Int.add_one_le_of_lt ih.2) (by decide))⟩
theorem pow128_6 : ∀ n : Nat, n ≤ 6 → (128 : Int) ^ n ≤ 4398046511104 := by decide
/-- the octets of a number by pieces: only the last one may end it -/
structure Mid (mid post : List Int) : Prop where
  one : ∀ done o rest, mid = done ++ o :: rest → o < 128 → rest = []
  len : mid.length ≤ 6
  tail : Big mid → post = []
noncomputable def TakeSt (val : List Int → Int) (mid : List Int) (start at_ number : Int) : Prop := ∃ done rest, mid = done ++ rest ∧ Big done ∧ at_ = start + done.length ∧ number = val done
theorem take_start {val : List Int → Int} {mid : List Int} {start : Int} : TakeSt val mid start start (val []) := ⟨[], mid, rfl, (fun _ h => nomatch h), by simp, rfl⟩
theorem take_bound {val : List Int → Int} {mid : List Int} {start at_ number : Int} (h : TakeSt val mid start at_ number) : start ≤ at_ ∧ at_ ≤ start + mid.length := by
  obtain ⟨done, rest, rfl, _, rfl, _⟩ := h
  rw [List.length_append]; (first | lia | omega)
theorem take_item {val : List Int → Int} {pre mid post : List Int} {at_ number o : Int} (M : Mid mid post) (h : TakeSt val mid pre.length at_ number) (e : (pre ++ mid ++ post)[at_.toNat]? = some o) : ∃ done rest, mid = done ++ o :: rest ∧ Big done ∧ at_ = pre.length + done.length ∧ number = val done := by
  obtain ⟨done, rest, rfl, hb, rfl, hn⟩ := h
  rw [show ((pre.length : Int) + (done.length : Int)).toNat = pre.length + done.length from rfl, List.append_assoc, List.getElem?_append_right (Nat.le_add_right _ _), Nat.add_sub_cancel_left, List.append_assoc, List.getElem?_append_right (Nat.le_refl _), Nat.sub_self] at e
  cases rest with
  | nil =>
    rw [M.tail (by simpa using hb)] at e
    simp at e
  | cons a rest =>
    simp at e
    subst e
    exact ⟨done, rest, rfl, hb, rfl, hn⟩
theorem take_out {val : List Int → Int} {pre mid post : List Int} {at_ number o : Int} (M : Mid mid post) (h : TakeSt val mid pre.length at_ number) (e : (pre ++ mid ++ post)[at_.toNat]? = some o) (ho : o < 128) : ¬ Big mid ∧ at_ + 1 = pre.length + mid.length ∧ ∃ done, number = val done ∧ mid = done ++ [o] := by
  obtain ⟨done, rest, hm, hb, ha, hn⟩ := take_item M h e
  have := M.one _ _ _ hm ho
  subst this
  refine ⟨fun hB => ?_, ?_, done, hn, hm⟩
  · exact absurd ho (Int.not_lt.2 (hB o (by rw [hm]; exact List.mem_append_right _ (.head _))))
  · rw [ha, hm]; simp; (first | lia | omega)
theorem take_turn {val : List Int → Int} {pre mid post : List Int} {at_ number o n' : Int} (M : Mid mid post) (h : TakeSt val mid pre.length at_ number) (e : (pre ++ mid ++ post)[at_.toNat]? = some o) (ho : ¬ o < 128) (hv : ∀ done rest, mid = done ++ o :: rest → number = val done → at_ = pre.length + done.length → n' = val (done ++ [o])) : TakeSt val mid pre.length (at_ + 1) n' := by
  obtain ⟨done, rest, hm, hb, ha, hn⟩ := take_item M h e
  refine ⟨done ++ [o], rest, by rw [hm]; simp, ?_, by rw [ha]; simp; (first | lia | omega), hv _ _ hm hn ha⟩
  intro k hk
  rcases List.mem_append.mp hk with hk | hk
  · exact hb k hk
  · rw [List.mem_singleton.mp hk]; exact Int.not_lt.1 ho
theorem take_end {val : List Int → Int} {pre mid post : List Int} {at_ number : Int} (h : TakeSt val mid pre.length at_ number) (hl : at_ ≥ ((pre ++ mid ++ post).length : Int)) : Big mid := by
  obtain ⟨done, rest, rfl, hb, rfl, _⟩ := h
  simp only [List.length_append] at hl
  have : rest.length = 0 := by (first | lia | omega)
  rw [List.length_eq_zero_iff.mp this, List.append_nil]
  exact hb
/-- by sevens, the lowest first -/
theorem size_val {done : List Int} {o n s : Int} (hn : n = leVal done) (hs : s = 7 * done.length) : Builtin.bitOr n (Builtin.bitAnd o 127 * 2 ^ s.toNat) = leVal (done ++ [o]) := by
  subst hn hs
  have e : (7 * (done.length : Int)).toNat = 7 * done.length := rfl
  have b := leVal_lt done
  rw [bitAnd_m7, e, or_apart b.1 (by rw [pow_seven]; exact b.2), leVal_snoc, pow_seven]
/-- by sevens, the highest first, each further one plus one -/
noncomputable def offVal (l : List Int) : Int := l.foldl (fun n o => (n + 1) * 128 + o % 128) (-1)
theorem offVal_snoc (l : List Int) (o : Int) : offVal (l ++ [o]) = (offVal l + 1) * 128 + o % 128 := by simp [offVal, List.foldl_append]
theorem off_val {done : List Int} {o n : Int} (hn : n = offVal done) : Builtin.bitOr ((n + 1) * 2 ^ Int.toNat 7) (Builtin.bitAnd o 127) = offVal (done ++ [o]) := by
  subst hn
  rw [offVal_snoc, bitAnd_m7, bitOr_comm, or_apart (pc_in o).1 (pc_in o).2]
  exact Int.add_comm _ _
theorem offVal_lt : ∀ l : List Int, l.length ≤ 6 → -1 ≤ offVal l ∧ offVal l < 2 * 128 ^ l.length := by
  have key : ∀ l : List Int, -1 ≤ offVal l.reverse ∧ offVal l.reverse + 3 ≤ 2 * 128 ^ l.length := by
    intro l
    induction l with
    | nil => simp [offVal]
    | cons a l ih =>
      have e : (128 : Int) ^ (l.length + 1) = 128 ^ l.length * 128 := Int.pow_succ ..
      rw [List.reverse_cons, offVal_snoc, List.length_cons, e]
      first | lia | omega
  intro l _
  have := key l.reverse
  rw [List.reverse_reverse, List.length_reverse] at this
  first | lia | omega
theorem leVal_one {n : Int} (h0 : 0 ≤ n) (h1 : n < 128) : leVal [n] = n := by
  show n % 128 + 128 * 0 = n
  rw [Int.mul_zero, Int.add_zero]; exact Int.emod_eq_of_lt h0 h1
theorem one_rest {n : Int} {done rest : List Int} {o : Int} (e : [n] = done ++ o :: rest) : rest = [] := by
  cases done with
  | nil => exact ((List.cons.inj e).2).symm
  | cons a d => exact absurd (List.cons.inj e).2 (List.append_ne_nil_of_right_ne_nil d (List.cons_ne_nil o rest)).symm
theorem piece_big (n : Int) : 128 ≤ n % 128 + 128 := Int.le_add_of_nonneg_left (pc_in n).1
theorem mid_key : ∀ (f : Nat) (n : Int), 0 ≤ n → n < 128 ^ (f + 1) → (∀ done o rest, piecesN (f + 1) n = done ++ o :: rest → o < 128 → rest = []) ∧ (piecesN (f + 1) n).length ≤ f + 1 ∧ leVal (piecesN (f + 1) n) = n ∧ ∃ o ∈ piecesN (f + 1) n, o < 128
  | 0, n, h0, h1 => by
    rw [piecesN_last h1]
    exact ⟨fun _ _ _ e _ => one_rest e, Nat.le_refl 1, leVal_one h0 h1, n, .head _, h1⟩
  | f + 1, n, h0, h1 => by
    by_cases hn : n < 128
    · rw [piecesN_last hn]
      exact ⟨fun _ _ _ e _ => one_rest e, Nat.le_add_left 1 _, leVal_one h0 hn, n, .head _, hn⟩
    · obtain ⟨i1, i2, i3, o, i4, i5⟩ := mid_key f (n / 128) (pc_pos h0) (pc_down ((Int.pow_succ 128 (f + 1)) ▸ h1))
      rw [piecesN_more hn]
      refine ⟨fun done o rest e ho => ?_, Nat.succ_le_succ i2, ?_, o, .tail _ i4, i5⟩
      · cases done with
        | nil => exact absurd ho (Int.not_lt.2 ((List.cons.inj e).1 ▸ piece_big n))
        | cons a d => exact i1 d o rest (List.cons.inj e).2 ho
      · show (n % 128 + 128) % 128 + 128 * leVal (piecesN (f + 1) (n / 128)) = n
        rw [i3, Int.add_emod_right, Int.emod_emod]; exact Int.emod_add_mul_ediv n 128
theorem mid_pieces {x : Int} (h0 : 0 ≤ x) (h1 : x < 4398046511104) {post : List Int} : Mid (pieces x) post ∧ leVal (pieces x) = x ∧ ¬ Big (pieces x) := by
  obtain ⟨a, b, c, o, d, e⟩ := mid_key 5 x h0 (Int.lt_of_lt_of_le h1 (by decide))
  have nb : ¬ Big (pieces x) := fun h => absurd (h o d) (Int.not_le.2 e)
  exact ⟨⟨a, b, fun h => absurd h nb⟩, c, nb⟩
theorem big_off {n : Int} : ∀ f : Nat, Big (offTail f n) := by
  intro f
  induction f generalizing n with
  | zero => exact fun _ h => nomatch h
  | succ f ih =>
    intro o ho
    unfold offTail at ho
    split at ho
    · cases ho
    · rcases List.mem_cons.mp ho with rfl | ho
      · exact piece_big _
      · exact ih o ho
theorem offTail_len : ∀ (f : Nat) (n : Int), (offTail f n).length ≤ f
  | 0, _ => Nat.le_refl _
  | f + 1, n => by
    unfold offTail
    split
    · exact Nat.zero_le _
    · exact Nat.succ_le_succ (offTail_len f ((n - 1) / 128))
theorem offTail_val : ∀ (f : Nat) (n : Int), 0 ≤ n → n < 128 ^ f → offVal (offTail f n).reverse = n - 1
  | 0, n, h0, h1 => by
    obtain rfl := Int.le_antisymm (Int.lt_add_one_iff.1 (show n < 0 + 1 from h1)) h0
    rfl
  | f + 1, n, h0, h1 => by
    unfold offTail
    split
    · rename_i h
      obtain rfl := Int.le_antisymm h h0
      rfl
    · rename_i h
      rw [List.reverse_cons, offVal_snoc, offTail_val f ((n - 1) / 128) (pc_pos (Int.le_sub_one_of_lt (Int.not_le.1 h))) (pc_down (Int.lt_trans (Int.sub_lt_self n (by decide)) ((Int.pow_succ 128 f) ▸ h1))), Int.sub_add_cancel, Int.add_emod_right, Int.emod_emod]
      exact Int.ediv_mul_add_emod (n - 1) 128
theorem mid_off {x : Int} (h0 : 0 ≤ x) (h1 : x < 4398046511104) {post : List Int} : Mid (offOf x) post ∧ offVal (offOf x) = x ∧ ¬ Big (offOf x) := by
  have hr : offOf x = (offTail 5 (x / 128)).reverse ++ [x % 128] := by simp [offOf, offLow]
  have hb : Big (offTail 5 (x / 128)).reverse := fun o ho => big_off 5 o (List.mem_reverse.mp ho)
  have nb : ¬ Big (offOf x) := fun h => absurd (h (x % 128) (by rw [hr]; exact List.mem_append_right _ (.head _))) (Int.not_le.2 (pc_in x).2)
  refine ⟨⟨?_, ?_, fun h => absurd h nb⟩, ?_, nb⟩
  · intro done o rest e ho
    rw [hr] at e
    rcases List.append_eq_append_iff.mp e with ⟨a, h1, h2⟩ | ⟨c, h1, h2⟩
    · cases a with
      | nil => simp at h2; exact h2.2
      | cons b a => simp at h2
    · cases c with
      | nil => simp at h2; exact h2.2
      | cons b c =>
        simp only [List.cons_append, List.cons.injEq] at h2
        exact absurd ho (Int.not_lt.2 (hb o (by rw [h1, ← h2.1]; simp)))
  · rw [hr, List.length_append, List.length_reverse]
    exact Nat.succ_le_succ (offTail_len 5 (x / 128))
  · rw [hr, offVal_snoc, offTail_val 5 _ (pc_pos h0) (pc_down (Int.lt_of_lt_of_le h1 (by decide))), Int.sub_add_cancel, Int.emod_emod]
    exact Int.ediv_mul_add_emod x 128
theorem mid_cut {mid : List Int} {post : List Int} (M : Mid mid post) : Mid mid.dropLast [] ∧ Big mid.dropLast := by
  have hb : Big mid.dropLast := by
    intro o ho
    rcases List.eq_nil_or_concat mid with rfl | ⟨l, a, rfl⟩
    · cases ho
    · rw [List.concat_eq_append] at ho M
      rw [List.dropLast_concat] at ho
      obtain ⟨d, r, rfl⟩ := List.append_of_mem ho
      have := M.one d o (r ++ [a]) (by simp)
      exact Int.not_lt.1 fun h => absurd (this h) (List.append_ne_nil_of_right_ne_nil r (List.cons_ne_nil a []))
  refine ⟨⟨fun done o rest e ho => ?_, by rw [List.length_dropLast]; exact Nat.le_trans (Nat.sub_le _ _) M.len, fun _ => rfl⟩, hb⟩
  exact absurd ho (Int.not_lt.2 (hb o (by rw [e]; simp)))
theorem offVal_py {mid : List Int} {start at_ number : Int} (hm : mid.length ≤ 6) (h : TakeSt offVal mid start at_ number) : -1 ≤ number ∧ number < 8796093022208 := by
  obtain ⟨done, rest, rfl, _, _, rfl⟩ := h
  have hl : done.length ≤ 6 := Nat.le_trans (Nat.le_add_right _ _) (List.length_append ▸ hm)
  have := offVal_lt done hl
  have := pow128_6 done.length hl
  first | lia | omega
noncomputable def SizeInv (mid : List Int) (start at_ number shift : Int) : Prop := TakeSt leVal mid start at_ number ∧ shift = 7 * (at_ - start)
theorem sizeInv_start {mid : List Int} {start : Int} : SizeInv mid start start 0 0 ∧ start ≤ start ∧ start ≤ start + mid.length ∧ (0 : Int) ≤ 0 ∧ (0 : Int) ≤ 42 := ⟨⟨take_start, by rw [Int.sub_self]; rfl⟩, Int.le_refl _, Int.le_add_of_nonneg_right (Int.natCast_nonneg _), Int.le_refl _, by decide⟩
theorem sizeInv_turn {pre mid post : List Int} {at_ number shift o n' : Int} (M : Mid mid post) (h : SizeInv mid pre.length at_ number shift) (e : (pre ++ mid ++ post)[at_.toNat]? = some o) (ho : ¬ o < 128)
    (hn : n' = Builtin.bitOr number (Builtin.bitAnd o 127 * 2 ^ shift.toNat)) :
    SizeInv mid pre.length (at_ + 1) n' (shift + 7) ∧ (pre.length : Int) ≤ at_ + 1 ∧ at_ + 1 ≤ pre.length + mid.length ∧ 0 ≤ shift + 7 ∧ shift + 7 ≤ 42 := by
  have t := take_turn (n' := n') M h.1 e ho fun done rest hm hv ha => by rw [hn]; exact size_val hv (by rw [h.2, ha]; (first | lia | omega))
  have b := take_bound t
  have l := M.len
  have s := h.2
  exact ⟨⟨t, by (first | lia | omega)⟩, b.1, b.2, by (first | lia | omega), by (first | lia | omega)⟩
theorem sizeInv_out {pre mid post : List Int} {at_ number shift o : Int} (M : Mid mid post) (h : SizeInv mid pre.length at_ number shift) (e : (pre ++ mid ++ post)[at_.toNat]? = some o) (ho : o < 128) :
    ¬ Big mid ∧ at_ + 1 = pre.length + mid.length ∧ Builtin.bitOr number (Builtin.bitAnd o 127 * 2 ^ shift.toNat) = leVal mid := by
  obtain ⟨a, b, done, hn, hm⟩ := take_out M h.1 e ho
  refine ⟨a, b, ?_⟩
  rw [hm]
  refine size_val hn ?_
  have e3 : mid.length = done.length + 1 := by rw [hm]; simp
  have := h.2
  first | lia | omega
theorem offInv_start' {mid post : List Int} {start : Int} (M : Mid mid post) : TakeSt offVal mid start start (-1) ∧ start ≤ start ∧ start ≤ start + mid.length ∧ (-1 : Int) ≤ -1 ∧ (-1 : Int) < 8796093022208 := ⟨take_start, Int.le_refl _, Int.le_add_of_nonneg_right (Int.natCast_nonneg _), Int.le_refl _, by decide⟩
theorem offInv_turn' {pre mid post : List Int} {at_ number o n' : Int} (M : Mid mid post) (h : TakeSt offVal mid pre.length at_ number) (e : (pre ++ mid ++ post)[at_.toNat]? = some o) (ho : ¬ o < 128)
    (hn : n' = Builtin.bitOr ((number + 1) * 2 ^ Int.toNat 7) (Builtin.bitAnd o 127)) :
    TakeSt offVal mid pre.length (at_ + 1) n' ∧ (pre.length : Int) ≤ at_ + 1 ∧ at_ + 1 ≤ pre.length + mid.length ∧ -1 ≤ n' ∧ n' < 8796093022208 := by
  have t := take_turn (n' := n') M h e ho fun done rest hm hv ha => by rw [hn]; exact off_val hv
  have b := take_bound t
  have p := offVal_py M.len t
  exact ⟨t, b.1, b.2, p.1, p.2⟩
theorem offInv_out {pre mid post : List Int} {at_ number o : Int} (M : Mid mid post) (h : TakeSt offVal mid pre.length at_ number) (e : (pre ++ mid ++ post)[at_.toNat]? = some o) (ho : o < 128) :
    ¬ Big mid ∧ at_ + 1 = pre.length + mid.length ∧ Builtin.bitOr ((number + 1) * 2 ^ Int.toNat 7) (Builtin.bitAnd o 127) = offVal mid := by
  obtain ⟨a, b, done, hn, hm⟩ := take_out M h e ho
  refine ⟨a, b, ?_⟩
  rw [hm]
  exact off_val hn
end
noncomputable section
section
variable {prog : Program} {w : World} {A : Around} {E : Value → Shared → Prop} {s : Shared} {h₀ : Heap} {L : Addr} {m : Str → Option Value}
/-- a cut out of bytes whose ints are told in three parts -/
theorem nt_slice {value slice : PySem.Expr} {b : Array UInt8} {t : Tok} {news : List (Addr × Obj)} {l u : Value} {lo hi : Option Int} {Q : Value → Shared → Prop} {ks pre mid post : List Int}
    (hF : Fr h₀ L s.heap m) (hN : News h₀ L s.heap news) (hk : KBw.bInts b = ks) (hl : IsPart l lo) (hu : IsPart u hi) (he : ks = pre ++ mid ++ post) (hlo : lo.elim 0 (clipAt ks.length) = pre.length) (hhi : hi.elim ks.length (clipAt ks.length) = pre.length + mid.length) (hz : ks.length ≤ 16777216)
    (h : ∀ (c : Array UInt8) h' t' k, Fr h₀ L h' m → News h₀ L h' news → KBw.bInts c = mid → Q (.bytes c t') { s with heap := h', toks := k })
    (hs : subscripted slice false (.bytes b t) (.ref s.heap.objs.size) = operate [.ref s.heap.objs.size, .bytes b t] (getItem (.bytes b t) (.ref s.heap.objs.size)) := by with_unfolding_all rfl)
    (ht : ∀ r, letTemporaryGo value (.bytes b t) r = pure () := by intro _; with_unfolding_all rfl) :
    wpAny (model prog w) A (subscriptTail value slice (.bytes b t) (.ref s.heap.objs.size)) Q E { s with heap := s.heap.push { cls := .type "slice", data := .fields #[l, u, .none] } } :=
  KBc.slice_K hF hN hk hl hu hz (fun h' t' k F N e => h _ h' t' k F N (by
    rw [e, hlo, hhi, he, List.append_assoc, List.drop_left, Nat.add_sub_cancel_left, List.take_left])) hs ht
theorem nt_clip_nat (n k : Nat) (h : k ≤ n) : clipAt n (k : Int) = k := by rw [clipAt_nat]; exact Nat.min_eq_left h
end
end
noncomputable section
open Builtin Builtin.ObjectAttr
noncomputable abbrev excObj (C t : Addr) (od : Option Addr) : Obj := { cls := .ref C, dict := od, data := .fields #[.ref t, .none, .none, .none, .bool false, .none] }
/-- what an own exception's class holds beside the shape that all of them share -/
noncomputable abbrev NtD : Type := Str × Str × Addr × List Value × Addr × List Str × List Value × Bool × Option Bool × Option Addr × Option Value × Option Value × Option Value × Option Value × Option Value
noncomputable abbrev ntO (C : Addr) (D : NtD) : Obj := excClassObj D.1 D.2.1 C D.2.2.1 D.2.2.2.1 (.ref D.2.2.2.2.1 :: [.type "Exception", .type "BaseException", .type "object"]) true D.2.2.2.2.2.1 D.2.2.2.2.2.2.1 D.2.2.2.2.2.2.2.1 D.2.2.2.2.2.2.2.2.1 D.2.2.2.2.2.2.2.2.2.1 D.2.2.2.2.2.2.2.2.2.2.1 D.2.2.2.2.2.2.2.2.2.2.2.1 D.2.2.2.2.2.2.2.2.2.2.2.2.1 D.2.2.2.2.2.2.2.2.2.2.2.2.2.1 D.2.2.2.2.2.2.2.2.2.2.2.2.2.2 "Exception.__new__"
noncomputable def NtObj (h : Heap) (C : Addr) : Prop := ∃ D : NtD, h.get? C = some (ntO C D)
structure NtCls (M : Model) (h : Heap) (C fI : Addr) : Prop where
  obj : NtObj h C
  init : Looks M h (typeLookup (.ref C) "__init__") (some (.ref fI))
  fn : Looks M h (typeOf (.ref fI)) (.type "function")
  sets : Looks M h (typeLookup (.ref C) "__setattr__") (some (.builtin "object.__setattr__"))
  told : Looks M h (typeLookup (.ref C) "told") none
theorem ntCls_of {K : Frag} {M : Model} {h : Heap} {C fI : Addr} (X : K.In h)
    (q : ∃ D : NtD, K.lookup C = some (ntO C D))
    (q1 : findIn K (.ref C) "__init__" = some (some (.ref fI))) (q2 : typeIn K (.ref fI) = some (.type "function")) (q3 : findIn K (.ref C) "__setattr__" = some (some (.builtin "object.__setattr__"))) (q4 : findIn K (.ref C) "told" = some none) : NtCls M h C fI :=
  let ⟨D, ho⟩ := q
  ⟨⟨D, X _ _ ho⟩, looks_findIn X q1, looks_typeIn X q2, looks_findIn X q3, looks_findIn X q4⟩
theorem NtCls.keeps {M : Model} {h h' : Heap} {C fI : Addr} (Y : NtCls M h C fI) (k : ∀ b o, h.get? b = some o → h'.get? b = some o) : NtCls M h' C fI :=
  let ⟨⟨D, ho⟩, a, b, c, d⟩ := Y
  ⟨⟨D, k _ _ ho⟩, a.keeps k, b.keeps k, c.keeps k, d.keeps k⟩

section
variable {prog : Program} {w : World} {A : Around} {E : Value → Shared → Prop} {h : Heap} {g : Array GenState} {d : Drawn} {t : Nat} {os : OsState}
variable {nm q : Str} {C N : Addr} {bs bm : List Value} {hdct : Bool} {sn : List Str} {sub : List Value} {ab : Bool} {col : Option Bool} {dd : Option Addr} {k0 k1 k2 k3 k5 : Option Value}

theorem nt_excNew {R : Result → Shared → Prop} {rest : List Value} (hC : h.get? C = some (excClassObj nm q C N bs bm hdct sn sub ab col dd k0 k1 k2 k3 k5 "Exception.__new__"))
    (hb : bm.contains (.type "Exception") = true) (ha : bm.contains (.type "AttributeError") = false) (hn : bm.contains (.type "NameError") = false) (hrest : rest.length ≤ sizeLine)
    (hq : R (.ok (.ret (.ref (h.objs.size + 1)))) ⟨(h.push { cls := .type "tuple", data := .seq rest.toArray }).push (excObj C h.objs.size none), g, d, t, os⟩) :
    codeAny (model prog w) A (.builtin "Exception.__new__" ⟨.ref C :: rest, []⟩) R ⟨h, g, d, t, os⟩ := by
  have F := PySem.F.excBase_Exception
  have hends := F.ends
  have hcB : (Value.ref C :: bm).contains (.type "Exception") = true := by rw [List.contains_cons, hb, Bool.or_true]
  have hcA : (Value.ref C :: bm).contains (.type "AttributeError") = false := by rw [List.contains_cons, ha]; rfl
  have hcN : (Value.ref C :: bm).contains (.type "NameError") = false := by rw [List.contains_cons, hn]; rfl
  refine codeAny_builtinAt F.entry ?_
  unfold Builtin.«BaseException.__new__»
  refine PySem.wpAt_bind ?_
  show PySem.wpAt _ _ _ (stack >>= _) _ _ _
  refine PySem.wpAt_bind (PySem.wpAt_stack fun p below => PySem.wpAt_of_wpAny ?_)
  wp_walk
  refine PySem.wpAt_of_wpAny ?_
  rw [F.owner]
  repeat (first | with_reducible refine wpAny_madeHere_exc F.canon hC ?_ | with_reducible refine wpAny_loadPart_at hC ?_ | (with_reducible refine wpAny_isSubtype_exc hC ?_; first | rw [hcB] | rw [hcA] | rw [hcN]) | wp_step)
  show R _ _
  rw [Heap.size_push]
  exact hq

noncomputable def NtRaisable (C : Addr) (E : Value → Shared → Prop) (v : Value) (s : Shared) : Prop := ∃ e t od, v = .ref e ∧ NtObj s.heap C ∧ s.heap.get? e = some (excObj C t od) ∧ E (.ref e) s
theorem nt_Raise {M : Model} {env : Env} {s : Shared} {x : Expr} {pos : Pos} {Q : Flow → Shared → Prop} (C : Addr) (hh : A.handled = none)
    (hx : wpAny M A (eval x env) (NtRaisable C E) E s) : wpAny M A (exec (.Raise (some x) none pos) env) Q E s := by
  show wpAny M A (do standAt pos; raiseStmt env (some (do let v ← eval x env; standAt pos; pure v)) none) Q E s
  refine wpAny_bind (wpAny_standAt ?_)
  unfold raiseStmt
  refine wpAny_bind (wpAny_bind (wpAny_mono hx (fun v s₁ h₁ => wpAny_bind (wpAny_standAt (wpAny_pure ?_))) fun _ _ x => x))
  obtain ⟨e, t, od, rfl, ⟨D, hC⟩, he, hE⟩ := h₁
  have hcB : (Value.ref C :: (.ref D.2.2.2.2.1 :: [.type "Exception", .type "BaseException", .type "object"])).contains (.type "BaseException") = true := by rw [List.contains_cons]; rfl
  obtain ⟨hp, g, d, tk, os⟩ := s₁
  repeat (first | with_reducible refine wpAny_loadPart_at he ?_ | with_reducible refine wpAny_loadPart_at hC ?_ | (with_reducible refine wpAny_isSubtype_exc hC ?_; rw [hcB]) | wp_step)
  exact wpAny_raiseNew_none hh hE
theorem nt_typeCall {fI : Addr} {rest : List Value} {Q : Fin → Shared → Prop} (Y : NtCls (model prog w) h C fI) (hrest : rest.length ≤ sizeLine)
    (hq : ∀ h' e tp, (∀ b o, h.get? b = some o → h'.get? b = some o) → h.get? e = none → h'.get? e = some (excObj C tp none) →
      wpAny (model prog w) A (call (.ref fI) (.ref e :: rest)) (fun r s' => r = .none ∧ Q (.done (.ret (.ref e))) s') E ⟨h', g, d, t, os⟩) :
    wpAny (model prog w) A (Builtin.«type.__call__» ⟨.ref C :: rest, []⟩) Q E ⟨h, g, d, t, os⟩ := by
  obtain ⟨⟨D, hC⟩, hinit, hfn, -, -⟩ := Y
  have F := PySem.F.excBase_Exception
  repeat (first | with_reducible refine wpAny_loadPart_at hC ?_ | with_reducible refine wpAny_madeBy_exc hC ?_ | wp_step)
  refine codeAny_call_builtin_code (Code.quiet_builtin _ F.quiet) (wpAny_check_new_subU (bmB := .ref D.2.2.2.2.1 :: [.type "Exception", .type "BaseException", .type "object"]) F (by rw [List.contains_cons]; rfl) .base hC ?_)
  refine nt_excNew hC (by rw [List.contains_cons]; rfl) (by rw [List.contains_cons]; rfl) (by rw [List.contains_cons]; rfl) hrest ?_
  show wpAny _ _ _ _ _ _
  have k : ∀ b o, h.get? b = some o → ((h.push { cls := .type "tuple", data := .seq rest.toArray }).push (excObj C h.objs.size none)).get? b = some o := fun b o e => Heap.get?_push_of_some _ (Heap.get?_push_of_some _ e)
  have hC₁ := k _ _ hC
  have hget : ((h.push { cls := .type "tuple", data := .seq rest.toArray }).push (excObj C h.objs.size none)).get? (h.objs.size + 1) = some { cls := .ref C, data := .fields #[.ref h.objs.size, .none, .none, .none, .bool false, .none] } := by heap_get
  have hcC : (Value.ref C :: (.ref D.2.2.2.2.1 :: [.type "Exception", .type "BaseException", .type "object"])).contains (.ref C) = true := by simp
  unfold isInstance
  repeat (first | with_reducible refine wpAny_loadPart_at hget ?_ | (with_reducible refine wpAny_isSubtype_exc hC₁ ?_; rw [hcC]) | wp_step)
  show wpAny _ _ (typeLookup (.ref C) _) _ _ _
  refine (hinit.keeps k).here ?_
  refine wpAny_holding (wpAny_bind ?_)
  unfold bindSpecial
  refine wpAny_bind ((hfn.keeps k).here ?_)
  rw [if_pos (by decide)]
  refine wpAny_pure (wpAny_bind (wpAny_mono (hq _ (h.objs.size + 1) _ k (Heap.get?_none_of_le (Nat.le_succ _)) hget) (fun r s' hr => ?_) fun _ _ x => x))
  obtain ⟨rfl, hQ⟩ := hr
  wp_walk
  exact hQ
/-- own exceptions made: the __init__ of the class is called upon the new object -/
theorem nt_make {fI : Addr} {rest : List Value} {Q : Value → Shared → Prop} (Y : NtCls (model prog w) h C fI) (hrest : rest.length ≤ sizeLine)
    (hq : ∀ h' e tp, (∀ b o, h.get? b = some o → h'.get? b = some o) → h.get? e = none → h'.get? e = some (excObj C tp none) →
      wpAny (model prog w) (A.under (.builtin "type.__call__" ⟨.ref C :: rest, []⟩)) (call (.ref fI) (.ref e :: rest)) (fun r s' => r = .none ∧ Q (.ref e) s') E ⟨h', g, d, t, os⟩) :
    wpAny (model prog w) A (call (.ref C) rest) Q E ⟨h, g, d, t, os⟩ := by
  obtain ⟨⟨D, hC⟩, -, -, -, -⟩ := id Y
  have f1 := tc_lookup
  have f2 := tc_bind (.ref C)
  have hT : (⟨h, g, d, t, os⟩ : Shared).TypeIs (.ref C) "type" := ⟨_, hC, rfl⟩
  refine wpAny_call (codeAny_of_tree ?_)
  show wpAny _ _ (callAny (.ref C) _) _ _ _
  repeat (any_goals (first | assumption | with_reducible refine wpAny_loadPart_at hC ?_ | wp_step))
  refine ⟨rfl, ?_⟩
  refine codeAny_call_builtin_at (Code.quiet_builtin _ (by decide +kernel)) entry_typeCall (wpAny_check_type_call_sub hC (nt_typeCall Y hrest fun h' e tp k1 k2 k3 => ?_))
  exact hq h' e tp k1 k2 k3
end
section
variable {prog : Program} {w : World} {A : Around} {E : Value → Shared → Prop} {h : Heap} {g : Array GenState} {d : Drawn} {t : Nat} {os : OsState} {C x tp fI : Addr} {v : Value}
theorem nt_storeNew {tk : Tok} {Q : Fin → Shared → Prop} (Y : NtCls (model prog w) h C fI) (hx : h.get? x = some (excObj C tp none))
    (hq : ∀ h' tk' dx, (∀ b o, b ≠ x → h.get? b = some o → h'.get? b = some o) → h'.get? x = some (excObj C tp (some dx)) → Q (.done (.ret .none)) ⟨h', g, d, tk', os⟩) :
    wpAny (model prog w) A (Builtin.«object.__setattr__» ⟨[.ref x, .str "told" tk, v], []⟩) Q E ⟨h, g, d, t, os⟩ := by
  obtain ⟨⟨D, hC⟩, -, -, -, ht⟩ := Y
  have hx' : h.get? x = some { cls := .ref C, data := .fields #[.ref tp, .none, .none, .none, .bool false, .none] } := hx
  have ty : Looks (model prog w) h (typeOf (.ref x)) (.ref C) := (Looks.ld hx).andThen .now
  rw [osa_eq, refuse_eq]
  refine wpAny_bind (wpAny_bind (ty.at (wpAny_bind (wpAny_mroOf_exc hC ?_))))
  rw [refuseLoop_ref, refuseLoop_ref, PySem.F.store_Exception.passes]
  refine wpAny_pure (wpAny_bind (ty.at (wpAny_bind (ht.at (wpAny_bind (wpAny_pure ?_))))))
  show wpAny _ _ (storeInOwnDict (.ref x) (.ref C) (.str "told" tk) "told" v false) _ _ _
  unfold storeInOwnDict
  refine wpAny_bind (wpAny_pure ?_)
  refine wpAny_bind ?_
  show wpAny _ _ (instanceDict x true) _ _ _
  unfold instanceDict
  refine wpAny_bind (wpAny_loadPart_at hx' ?_)
  refine wpAny_bind ?_
  unfold classData
  refine wpAny_bind (wpAny_load hC (wpAny_pure ?_))
  simp only [Bool.not_true, Bool.false_eq_true, if_false]
  rw [if_neg (by simp [typeHasDict])]
  have hx₁ : (h.push { cls := .type "dict", data := .dict #[] }).get? x = some (excObj C tp none) := Heap.get?_push_of_some _ hx
  have hxs : x ≠ h.objs.size := Nat.ne_of_lt (Heap.lt_size hx)
  refine wpAny_bind (wpAny_alloc' ?_)
  refine wpAny_bind (wpAny_update' hx₁ ?_)
  refine wpAny_pure ?_
  have hgd : ((h.push { cls := .type "dict", data := .dict #[] }).update x fun o => { cls := o.cls, dict := some h.objs.size, data := o.data, slots := o.slots }).get? h.objs.size
      = some { cls := .type "dict", data := .dict #[] } :=
    (Heap.get?_update_ne _ _ _ _ hxs.symm).trans (Heap.get?_push_at rfl rfl)
  have hnd : ((h.push { cls := .type "dict", data := .dict #[] }).update x fun o => { cls := o.cls, dict := some h.objs.size, data := o.data, slots := o.slots }).Ns h.objs.size (fun _ => none) :=
    ⟨_, #[], _, hgd, rfl, fun e he => absurd he (by simp), fun _ => rfl⟩
  show wpAny _ _ (storeInDict h.objs.size (.str "told" tk) "told" v) _ _ _
  unfold storeInDict newKeyGuard
  refine wpAny_bind (wpAny_pure (wpAny_bind (wpAny_nsSet1 (Heap.Ns1.of_empty hnd) fun h' hn' hs => ?_)))
  obtain ⟨oD, esD, epD, hoD, hdD, hcD⟩ := hn'.count (Within.cons "told" v Within.nil)
  refine wpAny_bind (wpAny_lookBehind hoD (by rw [hdD]; exact pastItsLine_dict (Nat.le_trans hcD (by rw [List.length_cons, List.length_nil, sizeLine_eq]; (first | lia | omega)))) ?_)
  refine wpAny_pure (hq h' _ h.objs.size (fun b ob hbx hb => ?_) ?_)
  · exact (hs.2 b (Nat.ne_of_lt (Heap.lt_size hb))).trans ((Heap.get?_update_ne _ _ _ _ hbx).trans (Heap.get?_push_of_some _ hb))
  · exact (hs.2 x hxs).trans (Heap.get?_update_self _ hx₁ rfl)
theorem nt_set {Q : Unit → Shared → Prop} (Y : NtCls (model prog w) h C fI) (hx : h.get? x = some (excObj C tp none))
    (hq : ∀ h' tk' dx, (∀ b o, b ≠ x → h.get? b = some o → h'.get? b = some o) → h'.get? x = some (excObj C tp (some dx)) → Q () ⟨h', g, d, tk', os⟩) :
    wpAny (model prog w) A (setAttr (.ref x) "told" v) Q E ⟨h, g, d, t, os⟩ := by
  have SF := PySem.F.store_object
  obtain ⟨⟨D, hC⟩, -, -, hs, -⟩ := id Y
  have ty : Looks (model prog w) h (typeOf (.ref x)) (.ref C) := (Looks.ld hx).andThen .now
  have sub : Looks (model prog w) h (isInstance (.ref x) (.type "object")) true := by
    refine ty.andThen fun A Q E s k q => ?_
    obtain ⟨hh, g, d, tk, os⟩ := s
    refine wpAny_isSubtype_exc (k _ _ hC) ?_
    have e : (Value.ref C :: (.ref D.2.2.2.2.1 :: [.type "Exception", .type "BaseException", .type "object"])).contains (.type "object") = true := by rw [List.contains_cons]; rfl
    rw [e]; exact q
  refine wpAny_bind (wpAny_mkText (wpAny_bind (wpAny_bind (wpAny_bind (ty.at (hs.at (wpAny_holding ?_)))))))
  rw [SF.slot.bind]
  refine wpAny_bind (wpAny_pure (wpAny_bind (wpAny_call ?_)))
  refine codeAny_call_builtin SF.slot.plain SF.entry (@check_slot (model prog w) _ _ _ "object.__setattr__" "object" "__setattr__" (.ref x) [.str "told" _, v] [] _ SF.kind SF.split sub (SF.args (.ref x) (.str "told" _) v) ?_)
  refine nt_storeNew Y hx fun h' tk' dx k1 k2 => ?_
  exact wpAny_pure (wpAny_pure (hq h' tk' dx k1 k2))
end
theorem nt_setK {prog : Program} {w : World} {A : Around} {E : Value → Shared → Prop} {s : Shared} {h₀ : Heap} {L C x tp fI : Addr} {m : Str → Option Value} {news : List (Addr × Obj)} {v : Value} {Q : Unit → Shared → Prop}
    (F : Fr h₀ L s.heap m) (N : News h₀ L s.heap ((x, excObj C tp none) :: news)) (Y : NtCls (model prog w) s.heap C fI) (hxn : ∀ p ∈ news, p.1 ≠ x)
    (h : ∀ h' tk' dx, Fr h₀ L h' m → News h₀ L h' ((x, excObj C tp (some dx)) :: news) → Q () { s with heap := h', toks := tk' }) :
    wpAny (model prog w) A (setAttr (.ref x) "told" v) Q E s := by
  obtain ⟨hp, g, d, t, os⟩ := s
  obtain ⟨n1, n2, n3⟩ := N _ (.head _)
  refine nt_set Y n1 fun h' tk' dx k1 k2 => h h' tk' dx ⟨F.ns.at' fun o e => k1 L o (Ne.symm n2) e, fun b o e => k1 b o (fun q => by rw [q] at e; rw [n3] at e; cases e) (F.keep b o e), F.above⟩ fun p hp => ?_
  rcases List.mem_cons.mp hp with rfl | hp
  · exact ⟨k2, n2, n3⟩
  · have z := N p (.tail _ hp)
    exact ⟨k1 _ _ (hxn p hp) z.1, z.2⟩
theorem nt_leave {M : Model} {A : Around} {E : Value → Shared → Prop} {s' : Shared} {base g : Heap} {outer : List Env} {L a e tp C : Addr} {od : Option Addr} {m : Str → Option Value} {name : Str} {scope : Scope} {cd : Value} {Q : Unit → Shared → Prop} {news : List (Addr × Obj)}
    (K : Below A base outer g) (F : Fr g L s'.heap m) (N : News g L s'.heap ((e, excObj C tp od) :: news)) (hn : ∀ p ∈ news, p.1 ≠ e)
    (hQ : ∀ h', RaisedSN base g outer e (.ref C) news h' → g.UpToSlots h' → Q () { s' with heap := h' }) (hk : scope.kind = .function := by rfl) :
    wpAny M (A.deeper (envOf name scope L a cd)) (leaving (envOf name scope L a cd) (.ref e)) Q E s' := by
  have K' := K.push (name := name) (a := a) (cd := cd) F hk
  obtain ⟨he, heL, heg⟩ := N _ (.head _)
  have hfs : ∀ b, b ∈ (envOf name scope L a cd :: outer).filterMap (·.frame) → base.get? b = none ∧ ∃ o, s'.heap.get? b = some o ∧ ∀ vs, o.data ≠ .fields vs := fun b hb => K'.frames.mem hb
  have hin : ∀ env ∈ (envOf name scope L a cd :: outer), ∀ b, env.frame = some b → b ∈ e :: (envOf name scope L a cd :: outer).filterMap (·.frame) := fun env he b hb => .tail _ (List.mem_filterMap.mpr ⟨env, he, hb⟩)
  have st : base.StaysIn (hideAll s'.heap (e :: (envOf name scope L a cd :: outer).filterMap (·.frame))) := fun b o q => hideAll_get _ (K'.stays b o q) fun hm => by
    rcases List.mem_cons.mp hm with rfl | hm
    · have := K.stays _ _ q; rw [heg] at this; cases this
    · rw [(hfs b hm).1] at q; cases q
  have sg : ∀ b o, g.get? b = some o → b ∉ outer.filterMap (·.frame) → (hideAll s'.heap (e :: (envOf name scope L a cd :: outer).filterMap (·.frame))).get? b = some o := fun b o q nm => hideAll_get _ (F.keep b o q) fun hm => by
    rcases List.mem_cons.mp hm with rfl | hm
    · rw [heg] at q; cases q
    · rcases kts_mem hm with z | z
      · rw [z, kts_self F] at q; cases q
      · exact nm z
  have hl : ∀ q ∈ news, (hideAll s'.heap (e :: (envOf name scope L a cd :: outer).filterMap (·.frame))).get? q.1 = some q.2 ∧ g.get? q.1 = none ∧ base.get? q.1 = none := fun q hq => by
    have z := N q (.tail _ hq)
    refine ⟨hideAll_get _ z.1 fun hm => ?_, z.2.2, fresh_of_stays K.stays z.2.2⟩
    rcases List.mem_cons.mp hm with y | hm
    · exact hn q hq y
    · rcases kts_mem hm with y | y
      · exact z.2.1 y
      · obtain ⟨_, o, ho, _⟩ := K.frames.mem y
        rw [z.2.2] at ho; cases ho
  refine wpAny_leaving_firstW (a0 := .ref tp) K'.stack (funFrames_hide K'.frames hin) rfl he (fun b o q => of_hideAll _ q) (hideAll_none _ (.head _)) rfl rfl rfl fun h' hL => ?_
  obtain ⟨k1, ⟨_, _, k2⟩, k3, k4⟩ := hL
  exact hQ h' ⟨_, .ref tp, st, sg, hl, k1, hideAll_none _ (.head _), k2, k3⟩ ((Heap.UpToSlots.of_keeps F.keep).trans k4)
end
noncomputable section
section
local macro_rules | `(tactic| walk_at $s:str) => `(tactic| k_extra $s)
theorem init_spec {C x tp : Addr} {v : Value} {w : World} {mg mb : Str → Option Value} {mean : ExcName → Option Value} {dp un : Nat} {gd : Option (List Code)} {cn : Str} {cs : Scope} {a : Addr} {ccd : Value} {cl : List (Str × Addr)} {outer : List Env} {A₀ : Around} {base h₀ : Heap} {L : Addr} {m : Str → Option Value} {news : List (Addr × Obj)} {s : Shared} {Q E : Value → Shared → Prop}
  (B : Below A₀ base outer h₀) (F : Fr h₀ L s.heap m) (X : (hd.heap_39 w.params).In h₀) (N : News h₀ L s.heap ((x, excObj C tp none) :: news)) (T : Top hd.view_39 (looseW hd.view_39 [PySem.Str.ofString "GitError"]) mean mg mb h₀) (hk : cs.kind = .function) (hdp : dp + 1 < recursionLimit) (hun : un + 8 < cLine)
  (Y : NtCls (model PySem.Challenge.rw_nt0271_01.row.prog w) h₀ C 29) (hxn : ∀ p ∈ news, p.1 ≠ x)
  (hret : ∀ h' tk' dx, Fr h₀ L h' m → News h₀ L h' ((x, excObj C tp (some dx)) :: news) → Q .none { s with heap := h', toks := tk' }) :
  wpAny (model PySem.Challenge.rw_nt0271_01.row.prog w) (ktrTop dp un gd cn cs L a ccd cl outer) (call (.ref 29) [.ref x, v]) Q E s := by
  w_top off; revert X; k_fill; intro X
  k_with_none
  refine wpAny_call ?_
  k_dflt (refine' code_def (binds := [(Str.ofString "self", .ref x), (Str.ofString "told", v)]) ?k1 ?k2 ?k3 ?k4 ?k5 ?kA ?kF ?kK ?k6 ?k7 ?k8 ?k9 ?kB ?_ ?c2 ?c3 ?c4 ?c5; (case kA => exact rfl); (case kF => exact rfl); (case kK => assumption); (case k1 => k_asm); (case k2 => k_asm); (case k3 => k_asm); (case k4 => k_asm); (case k5 => k_asm); (case k6 => k_is); (case k7 => k_is); (case k8 => ktr_room); (case k9 => first | exact BindsTo.of_eq rfl | exact binds_K (by k_in) rfl (by k_is) rfl rfl rfl); (case c5 => decide); (case kB => exact locs rfl); (case c2 => exact rfl); (case c3 => exact rfl); (case c4 => exact rfl); k_whole; intro g' L' h' FG' F' N' B' X' T'; (try dsimp only); (try k_lift B'); (try k_fold))
  (k_with "setAttr ref" => (k_here; (with_reducible rename Fr g' _ _ _ => F'); (with_reducible rename News _ _ _ _ => N'); refine nt_setK F' N' ((Y.keeps FG'.keep).keeps F'.keep) hxn ?_; intro h' tk' dx F' N'))
  k_steps
  exact hret _ _ _ (by k_asm) (by first | k_asm | (refine' cb_drop ?cbN ?cbS; (case cbN => assumption); (case cbS => kcj_all)))
end
theorem cls_45 {w : World} {M : Model} {h : Heap} (X : (hd.heap_39 w.params).In h) : NtCls M h 45 29 := ntCls_of X ⟨(_, _, _, _, _, _, _, _, _, _, _, _, _, _, _), rfl⟩ rfl rfl rfl rfl
theorem cls_57 {w : World} {M : Model} {h : Heap} (X : (hd.heap_39 w.params).In h) : NtCls M h 57 29 := ntCls_of X ⟨(_, _, _, _, _, _, _, _, _, _, _, _, _, _, _), rfl⟩ rfl rfl rfl rfl
theorem cls_69 {w : World} {M : Model} {h : Heap} (X : (hd.heap_39 w.params).In h) : NtCls M h 69 29 := ntCls_of X ⟨(_, _, _, _, _, _, _, _, _, _, _, _, _, _, _), rfl⟩ rfl rfl rfl rfl
/-- an own exception made in a def's frame -/
theorem nt_call {C : Addr} {v : Value} {w : World} {mg mb : Str → Option Value} {mean : ExcName → Option Value} {dp un : Nat} {gd : Option (List Code)} {cn : Str} {cs : Scope} {a : Addr} {ccd : Value} {cl : List (Str × Addr)} {out : List Env} {A₀ : Around} {base g : Heap} {L' : Addr} {m' : Str → Option Value} {news : List (Addr × Obj)} {s : Shared} {E : Value → Shared → Prop}
  (B' : Below A₀ base out g) (F' : Fr g L' s.heap m') (X' : (hd.heap_39 w.params).In g) (N' : News g L' s.heap news) (T' : Top hd.view_39 (looseW hd.view_39 [PySem.Str.ofString "GitError"]) mean mg mb g) (hk' : cs.kind = .function)
  (hdp : dp + 3 < recursionLimit) (hun : un + 24 < cLine) (Y : NtCls (model PySem.Challenge.rw_nt0271_01.row.prog w) g C 29)
  (h : ∀ e h' tk' tp dx, Fr g L' h' m' → News g L' h' ((e, excObj C tp (some dx)) :: news) → (∀ p ∈ news, p.1 ≠ e) → E (.ref e) { s with heap := h', toks := tk' }) :
  wpAny (model PySem.Challenge.rw_nt0271_01.row.prog w) (ktrTop dp un gd cn cs L' a ccd cl out) (call (.ref C) [v]) (NtRaisable C E) E s := by
  obtain ⟨hp, g1, d, t, os⟩ := s
  refine nt_make (Y.keeps F'.keep) (by size_fits) fun h' e tp k1 k2 k3 => ?_
  have F₁ : Fr g L' h' m' := F'.keeps k1
  have hL : e ≠ L' := fun q => by
    obtain ⟨_, _, _, e1, _⟩ := F'.ns
    have e2 : hp.get? L' = some _ := e1
    rw [← q, k2] at e2; cases e2
  have hg : g.get? e = none := by
    cases q : g.get? e with
    | none => rfl
    | some o => have e2 : hp.get? e = some o := F'.keep _ _ q; rw [k2] at e2; cases e2
  have hxn : ∀ p ∈ news, p.1 ≠ e := fun p hp q => by have e2 : _ = some _ := (N' p hp).1; rw [q] at e2; exact absurd (k2.symm.trans e2) (by simp)
  have N₁ : News g L' h' ((e, excObj C tp none) :: news) := fun p hp => by
    rcases List.mem_cons.mp hp with rfl | hp
    · exact ⟨k3, hL, hg⟩
    · exact ⟨k1 _ _ (N' p hp).1, (N' p hp).2⟩
  refine init_spec (dp := dp + 1) (un := un + 1) B' F₁ X' N₁ T' hk' (by (first | lia | omega)) (by (first | lia | omega)) Y hxn fun h₂ tk' dx F₂ N₂ => ⟨rfl, e, tp, some dx, rfl, ((Y.keeps F₂.keep)).obj, (N₂ _ (.head _)).1, h e h₂ tk' tp dx F₂ N₂ hxn⟩
end
noncomputable section
/-- the state but for the heap and the tokens -/
noncomputable def Sm (s s' : Shared) : Prop := s' = { s with heap := s'.heap, toks := s'.toks }
theorem Sm.rfl {s : Shared} : Sm s s := by cases s; exact Eq.refl _
theorem Sm.mk' {s : Shared} {h : Heap} {t : Nat} : Sm s { s with heap := h, toks := t } := Eq.refl _
theorem Sm.trans {a b c : Shared} (h : Sm a b) (k : Sm b c) : Sm a c := by
  unfold Sm at *; rw [h] at k; exact k
theorem room {a b c d : Nat} (h : a + c < d) (e : Nat.ble b c = true) : a + b < d := Nat.lt_of_le_of_lt (Nat.add_le_add_left (Nat.le_of_ble_eq_true e) a) h
theorem room1 {a k d : Nat} (h : a + (k + 1) < d) : a + 1 + k < d := by (first | lia | omega)
theorem room3 {a k d : Nat} (h : a + 8 * (k + 1) < d) : a + 3 + 8 * k < d := by (first | lia | omega)
theorem le_line {n : Nat} (h : n ≤ 1000) : n ≤ sizeLine := by rw [PySem.sizeLine_eq]; exact Nat.le_trans h (by decide)
/-- slots as a list -/
noncomputable def lk (l : List (Str × Option Value)) (y : Str) : Option Value := (l.lookup y).bind id
noncomputable def setL (z : Str) (v : Value) : List (Str × Option Value) → List (Str × Option Value)
  | [] => [(z, some v)]
  | p :: l => if p.1 == z then (z, some v) :: l else p :: setL z v l
theorem lk_set {z : Str} {v : Value} {l : List (Str × Option Value)} : (fun y => if y = z then some v else lk l y) = lk (setL z v l) := by
  funext y
  induction l with
  | nil =>
    by_cases h : y = z
    · subst h; simp [lk, setL, List.lookup]
    · have : (y == z) = false := by simp [h]
      simp [lk, setL, List.lookup, h, this]
  | cons p l ih =>
    obtain ⟨x, u⟩ := p
    unfold setL
    by_cases hx : x = z
    · subst hx
      by_cases h : y = x
      · subst h; simp [lk, List.lookup]
      · have : (y == x) = false := by simp [h]
        simp [lk, List.lookup, h, this]
    · have e : (x == z) = false := by simp [hx]
      simp only [e, Bool.false_eq_true, if_false]
      by_cases h : y = x
      · subst h
        have : y ≠ z := hx
        simp [lk, List.lookup, this]
      · have e2 : (y == x) = false := by simp [h]
        simp only [lk, List.lookup, e2] at ih ⊢
        exact ih
section
variable {w : World} {A : Around} {E : Value → Shared → Prop} {s : Shared} {h₀ : Heap} {L a : Addr} {m mg mb : Str → Option Value} {mean : ExcName → Option Value} {l : List (Str × Option Value)} {cn : Str} {cs : Scope} {ccd : Value} {cl : List (Str × Addr)} {news : List (Addr × Obj)} {e f : Expr} {x y : Int} {p q r : Pos} {v : Value} {Ok : World → Env → Heap → Prop}
noncomputable abbrev MO (w : World) : Model := model PySem.Challenge.rw_nt0271_01.row.prog w
/-- what is known of the ground -/
structure Gr (w : World) (mean : ExcName → Option Value) (mg mb : Str → Option Value) (h : Heap) : Prop where
  X : (hd.heap_39 w.params).In h
  T : Top hd.view_39 (looseW hd.view_39 [PySem.Str.ofString "GitError"]) mean mg mb h
/-- an expression that is an int and moves the tokens alone -/
noncomputable def PG (Ok : World → Env → Heap → Prop) (e : Expr) (v : Int) : Prop :=
  ∀ (w : World) (A : Around) (env : Env) (E Q : Value → Shared → Prop) (s : Shared), Ok w env s.heap → (∀ t tk', Q (.int v t) { s with toks := tk' }) → wpAny (MO w) A (eval e env) Q E s
noncomputable def OkV (cs : Scope) (l : List (Str × Option Value)) (w : World) (env : Env) (h : Heap) : Prop :=
  ∃ mean mg mb cn L a ccd cl h₀, env = envX cn cs L a ccd cl ∧ Gr w mean mg mb h₀ ∧ Fr h₀ L h (lk l)
noncomputable abbrev PV (cs : Scope) (l : List (Str × Option Value)) : Expr → Int → Prop := PG (OkV cs l)
theorem okV {h : Heap} (G : Gr w mean mg mb h₀) (F : Fr h₀ L h (lk l)) : OkV cs l w (envX cn cs L a ccd cl) h := ⟨_, _, _, _, _, _, _, _, _, rfl, G, F⟩
theorem pv_of {e : Expr} {v : Int} (h : ∀ (w : World) (mean : ExcName → Option Value) (mg mb : Str → Option Value) (A : Around) (cn : Str) (L a : Addr) (ccd : Value) (cl : List (Str × Addr)) (h₀ : Heap) (E Q : Value → Shared → Prop) (s : Shared), Gr w mean mg mb h₀ → Fr h₀ L s.heap (lk l) → (∀ t tk', Q (.int v t) { s with toks := tk' }) → wpAny (MO w) A (eval e (envX cn cs L a ccd cl)) Q E s) : PV cs l e v := by
  rintro w A _ E Q s ⟨mean, mg, mb, cn, L, a, ccd, cl, h₀, rfl, G, F⟩ k
  exact h _ _ _ _ _ _ _ _ _ _ _ _ _ _ G F k
/-- a local name of a def -/
noncomputable def nameIs (k : NameKind) (cs : Scope) (z : Str) : Bool := decide ((cs.kind = .function ∧ cs.names.lookup z = some k) ∧ (z == ("__debug__" : Str)) = false)
noncomputable def Loc (cs : Scope) (z : Str) : Prop := nameIs .local cs z = true
noncomputable def Glo (cs : Scope) (z : Str) : Prop := nameIs .globalImplicit cs z = true
theorem nameIs_of {k : NameKind} {cs : Scope} {z : Str} (h : nameIs k cs z = true) : (cs.kind = .function ∧ cs.names.lookup z = some k) ∧ (z == ("__debug__" : Str)) = false := of_decide_eq_true h
theorem Loc.of {cs : Scope} {z : Str} (h : Loc cs z) : (cs.kind = .function ∧ cs.names.lookup z = some .local) ∧ (z == ("__debug__" : Str)) = false := nameIs_of h
theorem Glo.of {cs : Scope} {z : Str} (h : Glo cs z) : (cs.kind = .function ∧ cs.names.lookup z = some .globalImplicit) ∧ (z == ("__debug__" : Str)) = false := nameIs_of h
theorem pv_name {z : Str} {t : Tok} (hv : lk l z = some (.int x t)) (hx : Loc cs z) : PV cs l (.Name z p) x :=
  pv_of fun _ _ _ _ _ _ _ _ _ _ _ _ _ s _ F k => nameX_L F hv (k t s.toks) hx.of.1.1 hx.of.1.2 hx.of.2
theorem pv_const {n : Int} {k : Nat} : PG Ok (.Constant (.int n) k p) n := fun _ _ _ _ _ _ _ k => wpAny_Constant_int (k _ _)
theorem pv_nought (hx : Glo cs "NOUGHT_SIGN") : PV cs l (.Name "NOUGHT_SIGN" p) 48 :=
  pv_of fun _ _ _ _ _ _ _ _ _ _ _ _ _ s G F k => nameX_K F G.X (topRead_of G.T) rfl (k _ s.toks) hx.of.1.1 hx.of.1.2 rfl
section
variable (pa : PG Ok e x) (pb : PG Ok f y)
include pa
theorem pv_neg : PG Ok (.UnaryOp .USub e p) (-x) :=
  fun _ A _ E Q s F k => wpAny_UnaryOp (pa _ A _ E _ s F fun t1 _ => neg_int (k _ _))
include pb
theorem pv_two {op : Operator} {z : Int} (hop : ∀ (w : World) (A : Around) (E Q : Value → Shared → Prop) (t u : Tok) (s : Shared), (∀ t' tk', Q (.int z t') { s with toks := tk' }) → wpAny (MO w) A (binaryOp op (.int x t) (.int y u)) Q E s) : PG Ok (.BinOp e op f p) z :=
  fun _ A _ E Q s F k => wpAny_BinOp (pa _ A _ E _ s F fun t1 _ => pb _ A _ E _ _ F fun t2 _ => hop _ A E Q t1 t2 _ fun t' tk' => k t' tk')
theorem pv_add : PG Ok (.BinOp e .Add f p) (x + y) := pv_two pa pb fun _ _ _ _ _ _ _ k => add_int (k _ _)
theorem pv_sub : PG Ok (.BinOp e .Sub f p) (x - y) := pv_two pa pb fun _ _ _ _ _ _ _ k => sub_int (k _ _)
theorem pv_mul (hm : IntMulOk x y) : PG Ok (.BinOp e .Mult f p) (x * y) := pv_two pa pb fun _ _ _ _ _ _ _ k => mul_int (k _ _) hm
theorem pv_mod (hy : y ≠ 0) : PG Ok (.BinOp e .Mod f p) (x.fmod y) := pv_two pa pb fun _ _ _ _ _ _ _ k => mod_int hy (k _ _)
theorem pv_div (hy : y ≠ 0 ∧ y.natAbs.log2 < 9000) : PG Ok (.BinOp e .FloorDiv f p) (x.fdiv y) := pv_two pa pb fun _ _ _ _ _ _ _ k => floordiv_int hy.1 (k _ _) (Or.inl (PyProof.noPylong_of_log2 hy.2))
theorem pv_pow (hy : 0 ≤ y ∧ y ≤ 1000) (hx : x.natAbs < 2 ^ 64) : PG Ok (.BinOp e .Pow f p) (x ^ y.toNat) := pv_two pa pb fun _ _ _ _ _ _ _ k => pow_int_small hy.1 (by (first | lia | omega)) hx (k _ _)
theorem pv_and : PG Ok (.BinOp e .BitAnd f p) (Builtin.bitAnd x y) := pv_two pa pb fun _ _ _ _ _ _ _ k => and_int (k _ _)
theorem pv_or : PG Ok (.BinOp e .BitOr f p) (Builtin.bitOr x y) := pv_two pa pb fun _ _ _ _ _ _ _ k => or_int (k _ _)
theorem pv_shr (hn : 0 ≤ y) : PG Ok (.BinOp e .RShift f p) (x.fdiv (2 ^ y.toNat)) := pv_two pa pb fun _ _ _ _ _ _ _ k => rshift_int hn (k _ _)
theorem pv_shl (hn : 0 ≤ y ∧ y ≤ 1000000) (hx : x.natAbs < 2 ^ 64) : PG Ok (.BinOp e .LShift f p) (x * 2 ^ y.toNat) := pv_two pa pb fun _ _ _ _ _ _ _ k => lshift_int_small hn.1 hn.2 hx (k _ _)
end
section
local macro_rules | `(tactic| walk_at $s:str) => `(tactic| k_extra $s)
variable {z u : Str} {b : Array UInt8} {t : Tok} {ks : List Int} {p2 p3 : Pos} {o : Int} (hv : lk l z = some (.bytes b t)) (hb : KBw.bInts b = ks) (hn : ks.length ≤ 1000) (hx : Loc cs z)
include hv hb hn hx
theorem pv_len (hg : Glo cs "len") : PV cs l (.Call (.Name "len" p) [.Name z q] [] r) ks.length := by
  refine pv_of ?_
  intro w mean mg mb A cn L a ccd cl h₀ E Q s G F k
  obtain ⟨X, T⟩ := G
  w_top off; revert X; k_fill; intro X
  k_with_none
  refine Call_ (nameX_B F X (topRead_of T) rfl rfl (by decide) ?_ hg.of.1.1 hg.of.1.2 rfl)
  (k_with "eval Name" => refine nameX_L F hv ?_ hx.of.1.1 hx.of.1.2 hx.of.2)
  (k_with "call builtin" => refine KBw.len_K hb (by (first | lia | omega)) ?_)
  k_steps
  exact k _ _
theorem pv_item (hi : PV cs l f x) (h0 : 0 ≤ x) (ho : ks[x.toNat]? = some o) (hs : ∀ i u, subscripted f false (.bytes b t) (.int i u) = operate [.bytes b t, .int i u] (getItem (.bytes b t) (.int i u))) : PV cs l (.Subscript (.Name z p) f p3) o := by
  refine pv_of ?_
  intro w mean mg mb A cn L a ccd cl h₀ E Q s G F k
  have h1 : x < (ks.length : Int) := by
    have := (List.getElem?_eq_some_iff.1 ho).1; (first | lia | omega)
  have e : ks.getD x.toNat 0 = o := by rw [List.getD_eq_getElem?_getD, ho]; rfl
  refine Subscript_ (nameX_L F hv (hi _ A _ E _ _ (okV G F) fun t1 k1 => KBw.item_K hb (by (first | lia | omega)) h0 h1 (fun t2 k2 _ _ => ?_) (hs _ _) (by intro _; with_unfolding_all rfl)) hx.of.1.1 hx.of.1.2 hx.of.2)
  rw [e]; exact k _ _
end
theorem byte_at {b : Array UInt8} {ks : List Int} {x : Int} (hb : KBw.bInts b = ks) (h0 : 0 ≤ x) (h1 : x < (ks.length : Int)) : ∃ o, ks[x.toNat]? = some o ∧ 0 ≤ o ∧ o < 256 := by
  have hl : x.toNat < ks.length := by (first | lia | omega)
  refine ⟨_, List.getElem?_eq_getElem hl, ?_⟩
  subst hb
  exact KBw.ints_in (List.getElem_mem hl)
/-- a test that moves the tokens alone -/
noncomputable def PT (Ok : World → Env → Heap → Prop) (e : Expr) (b : Bool) : Prop :=
  ∀ (w : World) (A : Around) (env : Env) (E : Value → Shared → Prop) (Q : Bool → Shared → Prop) (s : Shared), Ok w env s.heap → (∀ tk, Q b { s with toks := tk }) → wpAny (MO w) A (isTrue e env (eval e env)) Q E s
section
variable (pa : PG Ok e x) (pb : PG Ok f y) (hm : ∀ op, behindInMarks op f = false)
include pa pb hm
theorem pt_cmp {op : CmpOp} {b : Bool} (hop : ∀ (w : World) (A : Around) (E : Value → Shared → Prop) (t u : Tok) (Q : Value → Shared → Prop) (s : Shared), Q (.bool b) s → wpAny (MO w) A (compareOp op (.int x t) (.int y u)) Q E s) : PT Ok (.Compare e [op] [f] p) b :=
  fun _ A _ E _ s F k => wpAny_isTrue_Compare1 (pa _ A _ E _ s F fun _ _ => pb _ A _ E _ _ F fun _ tk2 => hop _ _ _ _ _ _ _ (wpAny_truthy_bool (k tk2))) (hm op)
theorem pt_lt : PT Ok (.Compare e [.Lt] [f] p) (decide (x < y)) := pt_cmp pa pb hm (fun _ _ _ _ _ _ _ k => lt_int k)
theorem pt_gt : PT Ok (.Compare e [.Gt] [f] p) (decide (y < x)) := pt_cmp pa pb hm (fun _ _ _ _ _ _ _ k => gt_int k)
theorem pt_ge : PT Ok (.Compare e [.GtE] [f] p) (decide (y ≤ x)) := pt_cmp pa pb hm (fun _ _ _ _ _ _ _ k => ge_int k)
theorem pt_eq : PT Ok (.Compare e [.Eq] [f] p) (x == y) := pt_cmp pa pb hm (fun _ _ _ _ _ _ _ k => eq_int k)
theorem pt_ne : PT Ok (.Compare e [.NotEq] [f] p) (!(x == y)) := pt_cmp pa pb hm (fun _ _ _ _ _ _ _ k => ne_int k)
end
section
variable {b c : Bool} (pa : PT Ok e b)
include pa
theorem pt_not : PT Ok (.UnaryOp .Not e p) (!b) := fun _ A _ E _ s F k => wpAny_isTrue_Not (pa _ A _ E _ s F k)
theorem pt_or (pb : b = false → PT Ok f c) : PT Ok (.BoolOp .Or [e, f] p) (b || c) := fun _ A _ E _ s F k => by
  refine wpAny_isTrue_BoolOp (wpAny_allTrue_Or_cons (pa _ A _ E _ s F fun tk => ?_))
  cases b with
  | true => exact k tk
  | false =>
    refine wpAny_allTrue_Or_cons (pb rfl _ A _ E _ _ F fun tk => ?_)
    cases c with
    | true => exact k tk
    | false => exact wpAny_allTrue_Or_nil (k tk)
theorem pt_and (pb : b = true → PT Ok f c) : PT Ok (.BoolOp .And [e, f] p) (b && c) := fun _ A _ E _ s F k => by
  refine wpAny_isTrue_BoolOp (wpAny_allTrue_And_cons (pa _ A _ E _ s F fun tk => ?_))
  cases b with
  | false => exact k tk
  | true =>
    refine wpAny_allTrue_And_cons (pb rfl _ A _ E _ _ F fun tk => ?_)
    cases c with
    | false => exact k tk
    | true => exact wpAny_allTrue_And_nil (k tk)
end
/-- a <= b < c -/
theorem pt_chain {g : Expr} {z : Int} (pa : PG Ok e x) (pb : PG Ok f y) (pc : PG Ok g z) (hm : lastMarks [.LtE, .Lt] [f, g] = false) : PT Ok (.Compare e [.LtE, .Lt] [f, g] p) (decide (x ≤ y) && decide (y < z)) := fun _ A _ E _ s F k => by
  refine isTrue_chain (pa _ A _ E _ s F fun _ _ => test_link (pb _ A _ E _ _ F fun _ _ => le_int (wpAny_truthy_bool ?_))) hm
  cases h : decide (x ≤ y) with
  | false => rw [h] at k; exact k _
  | true =>
    rw [h] at k
    exact test_last (pc _ A _ E _ _ F fun _ _ => lt_int (wpAny_truthy_bool (k _)))
theorem px_eval {Q : Value → Shared → Prop} (G : Gr w mean mg mb h₀) (F : Fr h₀ L s.heap (lk l)) (pa : PV cs l e x) (k : ∀ t tk, Q (.int x t) { s with toks := tk }) : wpAny (MO w) A (eval e (envX cn cs L a ccd cl)) Q E s :=
  pa _ _ _ E Q s (okV G F) k
/-- a name stored -/
theorem px_store {z : Str} {l' : List (Str × Option Value)} {Q : Unit → Shared → Prop} (F : Fr h₀ L s.heap (lk l)) (N : News h₀ L s.heap news) (hl : setL z v l = l')
    (k : ∀ s', Sm s s' → Fr h₀ L s'.heap (lk l') → News h₀ L s'.heap news → Q () s') (hx : Loc cs z) :
    wpAny (MO w) A (storeName (envX cn cs L a ccd cl) z v) Q E s :=
  storeX_L F N (fun h' F' N' => k _ .mk' (by rw [lk_set, hl] at F'; exact F') N') hx.of.1.1 hx.of.1.2
theorem px_assign {z : Str} {pos : Pos} {Q : Flow → Shared → Prop} {l' : Tok → List (Str × Option Value)} (G : Gr w mean mg mb h₀) (F : Fr h₀ L s.heap (lk l)) (N : News h₀ L s.heap news) (pa : PV cs l e x) (hx : Loc cs z) (hl : ∀ t, setL z (.int x t) l = l' t)
    (hs : ∀ env, swapsWith e (some (.Name z p)) pos.line env = pure false)
    (k : ∀ s' t, Sm s s' → Fr h₀ L s'.heap (lk (l' t)) → News h₀ L s'.heap news → Q .next s') :
    wpAny (MO w) A (exec (.Assign [.Name z p] e pos) (envX cn cs L a ccd cl)) Q E s :=
  wpAny_Assign_Name (px_eval G F pa fun t tk => px_store (s := { s with toks := tk }) F N (hl t) (fun s' S F' N' => k s' t (Sm.trans .mk' S) F' N') hx) (hs _)
/-- a name assigned, and on -/
theorem px_set {z : Str} {pos : Pos} {rest : List Stmt} {Q : Flow → Shared → Prop} {l' : Tok → List (Str × Option Value)} (G : Gr w mean mg mb h₀) (F : Fr h₀ L s.heap (lk l)) (N : News h₀ L s.heap news) (pa : PV cs l e x) (hx : Loc cs z) (hl : ∀ t, setL z (.int x t) l = l' t)
    (hs : ∀ env, swapsWith e (some (.Name z p)) pos.line env = pure false)
    (k : ∀ s' t, Sm s s' → Fr h₀ L s'.heap (lk (l' t)) → News h₀ L s'.heap news → wpAny (MO w) A (execs rest (envX cn cs L a ccd cl)) Q E s') :
    wpAny (MO w) A (execs (.Assign [.Name z p] e pos :: rest) (envX cn cs L a ccd cl)) Q E s :=
  wpAny_execs_cons (px_assign G F N pa hx hl hs k)
/-- an if by a test of ints, and on -/
theorem px_if {test : Expr} {pos : Pos} {body orelse rest : List Stmt} {Q : Flow → Shared → Prop} {b : Bool} (G : Gr w mean mg mb h₀) (F : Fr h₀ L s.heap (lk l)) (ht : PT (OkV cs l) test b)
    (k1 : ∀ tk, b = true → wpAny (MO w) A (execs body (envX cn cs L a ccd cl)) (fun f s' => match f with | .next => wpAny (MO w) A (execs rest (envX cn cs L a ccd cl)) Q E s' | f => Q f s') E { s with toks := tk })
    (k2 : ∀ tk, b = false → wpAny (MO w) A (execs orelse (envX cn cs L a ccd cl)) (fun f s' => match f with | .next => wpAny (MO w) A (execs rest (envX cn cs L a ccd cl)) Q E s' | f => Q f s') E { s with toks := tk }) :
    wpAny (MO w) A (execs (.If test body orelse pos :: rest) (envX cn cs L a ccd cl)) Q E s := by
  refine wpAny_execs_cons (wpAny_If (ht _ _ _ _ _ _ (okV G F) fun tk => ?_))
  cases b with
  | true => exact k1 tk rfl
  | false => exact k2 tk rfl
/-- an if without an else whose body leaves -/
theorem px_if1 {test : Expr} {pos : Pos} {body rest : List Stmt} {Q : Flow → Shared → Prop} {b : Bool} (G : Gr w mean mg mb h₀) (F : Fr h₀ L s.heap (lk l)) (ht : PT (OkV cs l) test b)
    (k1 : ∀ tk (Q' : Flow → Shared → Prop), (∀ v s', Q (.ret v) s' → Q' (.ret v) s') → b = true → wpAny (MO w) A (execs body (envX cn cs L a ccd cl)) Q' E { s with toks := tk })
    (k2 : ∀ tk, b = false → wpAny (MO w) A (execs rest (envX cn cs L a ccd cl)) Q E { s with toks := tk }) :
    wpAny (MO w) A (execs (.If test body [] pos :: rest) (envX cn cs L a ccd cl)) Q E s :=
  px_if G F ht (fun tk hb => k1 tk _ (fun v s' q => q) hb) (fun tk hb => wpAny_execs_nil (k2 tk hb))
/-- an if at the end of a body -/
theorem px_ifL {test : Expr} {pos : Pos} {body orelse : List Stmt} {Q : Flow → Shared → Prop} {b : Bool} (G : Gr w mean mg mb h₀) (F : Fr h₀ L s.heap (lk l)) (ht : PT (OkV cs l) test b)
    (k1 : ∀ tk, b = true → wpAny (MO w) A (execs body (envX cn cs L a ccd cl)) Q E { s with toks := tk })
    (k2 : ∀ tk, b = false → wpAny (MO w) A (execs orelse (envX cn cs L a ccd cl)) Q E { s with toks := tk }) :
    wpAny (MO w) A (execs [.If test body orelse pos] (envX cn cs L a ccd cl)) Q E s := by
  refine px_if G F ht (fun tk hb => wpAny_mono (k1 tk hb) (fun f s' q => ?_) fun _ _ x => x) fun tk hb => wpAny_mono (k2 tk hb) (fun f s' q => ?_) fun _ _ x => x
  all_goals cases f <;> first | exact wpAny_execs_nil q | exact q
/-- the while rule -/
theorem px_while {σ : Type} {test : Expr} {body : List Stmt} {pos : Pos} {env : Env} {Q : Flow → Shared → Prop} (S : σ → List (Str × Option Value)) (Led : σ → List (Addr × Obj)) (P : σ → Prop) (μ : σ → Nat) (c₀ : σ)
    (F : Fr h₀ L s.heap (lk (S c₀))) (N : News h₀ L s.heap (Led c₀)) (hE : PassesOwn (MO w) A env E) (hp : P c₀)
    (turn : ∀ c (s₁ : Shared) (Q' : Flow → Shared → Prop), P c → Sm s s₁ → Fr h₀ L s₁.heap (lk (S c)) → News h₀ L s₁.heap (Led c) → (∀ v s', Q (.ret v) s' → Q' (.ret v) s') →
      (∀ c' s', P c' → μ c' < μ c → Sm s₁ s' → Fr h₀ L s'.heap (lk (S c')) → News h₀ L s'.heap (Led c') → Q' .next s') →
      wpAny (MO w) A (isTrue test env (eval test env)) (fun b s₂ => if b = true then wpAny (MO w) A (execs body env) Q' E s₂ else Q .next s₂) E s₁) :
    wpAny (MO w) A (exec (.While test body [] pos) env) Q E s := by
  refine While_inv2 (fun n m nx => ∃ c, nx = Led c ∧ μ c = n ∧ m = lk (S c) ∧ P c) F N ⟨c₀, rfl, rfl, rfl, hp⟩ ?_ hE
  rintro n m₁ nx h tk F₁ N₁ ⟨c, rfl, rfl, rfl, hp'⟩
  refine turn c _ _ hp' .mk' F₁ N₁ (fun v s' q => q) fun c' s' p' hm S' F' N' => ?_
  have e : s' = { s with heap := s'.heap, toks := s'.toks } := Sm.trans .mk' S'
  exact ⟨s'.heap, s'.toks, _, _, μ c', e, F', N', hm, c', rfl, rfl, rfl, p'⟩
theorem px_true {pos : Pos} {k : Nat} {Q : Bool → Shared → Prop} {env : Env} (h : ∀ tk, Q true { s with toks := tk }) : wpAny (MO w) A (isTrue (.Constant (.bool true) k pos) env (eval (.Constant (.bool true) k pos) env)) Q E s := by
  wp_walk
  exact h _
end
section
variable {w : World} {mg mb : Str → Option Value} {mean : ExcName → Option Value} {dp un : Nat} {gd : Option (List Code)} {cn : Str} {cs : Scope} {a : Addr} {ccd : Value} {cl : List (Str × Addr)} {outer : List Env} {A₀ : Around} {base h₀ : Heap} {L : Addr} {m : Str → Option Value} {news : List (Addr × Obj)} {s : Shared} {Q E : Value → Shared → Prop}
/-- the way back out of a body -/
noncomputable def OutQ (h₀ : Heap) (L : Addr) (m : Str → Option Value) (Q : Value → Shared → Prop) (g : Heap) (L' : Addr) (s₁ : Shared) (Q' : Flow → Shared → Prop) : Prop :=
  ∀ v news' m' s', Sm s₁ s' → Fr g L' s'.heap m' → News g L' s'.heap news' → (Fr h₀ L s'.heap m → News h₀ L s'.heap news' → Q v s') → Q' (.ret v) s'
/-- the way out of a body of an exception that the body made -/
noncomputable def OutE (base : Heap) (outer : List Env) (E : Value → Shared → Prop) (g : Heap) (L' : Addr) (s₁ : Shared) (E' : Value → Shared → Prop) : Prop :=
  (∀ e C tp od m' news' s', Sm s₁ s' → Fr g L' s'.heap m' → News g L' s'.heap ((e, excObj C tp od) :: news') → (∀ p ∈ news', p.1 ≠ e) → (∀ s'', Sm s₁ s'' → RaisedSN base g outer e (.ref C) news' s''.heap → g.UpToSlots s''.heap → E (.ref e) s'') → E' (.ref e) s')
/-- the way out of a body of an exception that a call gave -/
noncomputable def OutE2 (base : Heap) (outer : List Env) (E : Value → Shared → Prop) (g : Heap) (L' : Addr) (env : Env) (s₁ : Shared) (E' : Value → Shared → Prop) : Prop :=
  (∀ e C g₂ m' news' s', Sm s₁ s' → Fr g L' g₂ m' → RaisedSN base g₂ (env :: outer) e C news' s'.heap → g₂.UpToSlots s'.heap → (∀ s'', Sm s₁ s'' → RaisedSN base g outer e C news' s''.heap → g.UpToSlots s''.heap → E (.ref e) s'') → E' (.ref e) s')
noncomputable def opts : List (Str × Value) → List (Str × Option Value)
  | [] => []
  | (z, v) :: l => (z, some v) :: opts l
noncomputable def nons : List Str → List (Str × Option Value)
  | [] => []
  | z :: r => (z, none) :: nons r
theorem nons_none (l : List Str) : ∀ p ∈ nons l, p.2 = none := by
  induction l with
  | nil => exact fun p h => absurd h List.not_mem_nil
  | cons z r ih =>
    intro p h
    rcases List.mem_cons.1 h with rfl | h
    · rfl
    · exact ih p h
theorem lk_pad {l ns : List (Str × Option Value)} (h : ∀ p ∈ ns, p.2 = none) : lk (l ++ ns) = lk l := by
  funext y
  induction l with
  | nil =>
    show (ns.lookup y).bind id = none
    induction ns with
    | nil => rfl
    | cons p ns ih =>
      rw [List.lookup_cons]
      cases y == p.1 with
      | true => exact h p (.head _)
      | false => exact ih fun q hq => h q (.tail _ hq)
  | cons p l ih =>
    have e : ∀ q : List (Str × Option Value), lk (p :: q) y = if y == p.1 then p.2 else lk q y := fun q => by
      unfold lk; rw [List.lookup]; cases y == p.1 <;> rfl
    rw [List.cons_append, e, e, ih]
theorem lk_opts : ∀ l : List (Str × Value), (fun y => List.lookup y l) = lk (opts l)
  | [] => rfl
  | (z, v) :: l => by
    funext y
    have ih := congrFun (lk_opts l) y
    unfold lk opts
    rw [List.lookup_cons, List.lookup_cons]
    cases h : y == z with
    | true => rfl
    | false => exact ih
theorem nt_enter {name qual : Str} {params : Arguments} {body : List Stmt} {scope : Scope} {dV kV doc pm cdv ct oc : Value} {an od : Option Addr} {osl : Array (Option Value)} {f : Addr} {args : List Value} {binds : List (Str × Value)} {ls : List (Str × Option Value)}
  (B : Below A₀ base outer h₀) (F : Fr h₀ L s.heap m) (X : (hd.heap_39 w.params).In h₀) (N : News h₀ L s.heap news) (T : Top hd.view_39 (looseW hd.view_39 [PySem.Str.ofString "GitError"]) mean mg mb h₀) (hk : cs.kind = .function) (k : Nat) (hdp : dp + (k + 1) < recursionLimit) (hun : un + 8 * (k + 1) < cLine)
  (hf : (hd.heap_39 w.params).lookup f = some { cls := oc, dict := od, data := .func (fnOf name qual params body scope dV kV doc pm an cdv ct), slots := osl })
  (hc : codeIn (hd.heap_39 w.params) cdv qual = true) (hb : ∀ s, BindsTo s (fnOf name qual params body scope dV kV doc pm an cdv ct) ⟨args, []⟩ binds)
  (ns : List Str) (hl : opts binds.reverse ++ nons ns = ls)
  (hs : (binds.all fun x => decide (List.lookup x.fst scope.names = some NameKind.local)) = true ∧ scope.isCoroutine = false ∧ scope.isGenerator = false ∧ scope.kind = .function ∧ ∀ x ∈ scope.names, x.2 ≠ .cell)
  (h : ∀ g L' s₁ Q' E' dp' un', dp' + k < recursionLimit → un' + 8 * k < cLine → Fr h₀ L g m → Fr g L' s₁.heap (lk ls) → News g L' s₁.heap news → Below (ktrTop dp un gd cn cs L a ccd cl outer) base (envX cn cs L a ccd cl :: outer) g → (hd.heap_39 w.params).In g → Top hd.view_39 (looseW hd.view_39 [PySem.Str.ofString "GitError"]) mean mg mb g →
    Sm s s₁ → OutQ h₀ L m Q g L' s₁ Q' → OutE base (envX cn cs L a ccd cl :: outer) E g L' s₁ E' → OutE2 base (envX cn cs L a ccd cl :: outer) E g L' (envX qual scope L' f cdv []) s₁ E' → PassesOwn (model PySem.Challenge.rw_nt0271_01.row.prog w) (ktrTop dp' un' gd qual scope L' f cdv [] (envX cn cs L a ccd cl :: outer)) (envX qual scope L' f cdv []) E' →
    wpAny (model PySem.Challenge.rw_nt0271_01.row.prog w) (ktrTop dp' un' gd qual scope L' f cdv [] (envX cn cs L a ccd cl :: outer)) (execs body (envX qual scope L' f cdv [])) Q' E' s₁) :
  wpAny (model PySem.Challenge.rw_nt0271_01.row.prog w) (ktrTop dp un gd cn cs L a ccd cl outer) (call (.ref f) args) Q E s := by
  refine wpAny_call ?_
  refine code_def B F X N T rfl rfl hk hf hc (Nat.lt_of_le_of_lt (Nat.le_add_right _ _) hdp) (hb s) (locs hs.1) ?_ hs.2.1 hs.2.2.1 hs.2.2.2.1 hs.2.2.2.2
  intro g L' h₁ FG F' N' B' X' T'
  have F2 : Fr g L' h₁ (lk ls) := by rw [← hl, lk_pad (nons_none ns), ← lk_opts]; exact F'
  show wpAny _ (ktrTop (dp + 1) (un + 3) gd qual scope L' f cdv [] (envX cn cs L a ccd cl :: outer)) (execs body (envX qual scope L' f cdv [])) _ _ _
  refine h g L' _ _ _ (dp + 1) (un + 3) (room1 hdp) (room3 hun) FG F2 N' B' X' T' .mk' ?_ ?_ ?_ ?_
  · intro v news' m' s' S F3 N3 q
    exact ⟨L', m', news', F3, N3, q⟩
  · intro e C tp od m' news' s' S F3 N3 hn q
    refine nt_leave B' F3 N3 hn (fun h' R U => ?_) hs.2.2.2.1
    exact q _ (Sm.trans S .mk') R U
  · intro e C g₂ m' news' s' S F3 R U q
    refine leave_onSN B' F3 R U fun h' R' _ U' => ?_
    exact q _ (Sm.trans S .mk') R' U'
  · passes_own
end
end
noncomputable section
section
variable {w : World} {A : Around} {E : Value → Shared → Prop} {s : Shared} {h₀ : Heap} {L a : Addr} {m mg mb : Str → Option Value} {mean : ExcName → Option Value} {l : List (Str × Option Value)} {cn : Str} {cs : Scope} {ccd : Value} {cl : List (Str × Addr)} {news : List (Addr × Obj)} {e f : Expr} {x y : Int} {p q r : Pos} {v : Value}
/-- an argument that moves the tokens alone -/
noncomputable def PA (cs : Scope) (l : List (Str × Option Value)) (e : Expr) : Prop :=
  ∀ (w : World) (A : Around) (cn : Str) (L a : Addr) (ccd : Value) (cl : List (Str × Addr)) (h₀ : Heap) (E Q : Value → Shared → Prop) (s : Shared), Fr h₀ L s.heap (lk l) → (∀ v tk', Q v { s with toks := tk' }) → wpAny (MO w) A (eval e (envX cn cs L a ccd cl)) Q E s
theorem pa_name {z : Str} {v : Value} (hv : lk l z = some v) (hx : Loc cs z) : PA cs l (.Name z p) :=
  fun _ _ _ _ _ _ _ _ _ _ s F k => nameX_L F hv (k v s.toks) hx.of.1.1 hx.of.1.2 hx.of.2
theorem pa_str {t : Str} {k : Nat} : PA cs l (.Constant (.str t) k p) := fun _ _ _ _ _ _ _ _ _ _ _ _ k => by
  wp_walk
  exact k _ _
/-- raise C(arg) -/
theorem px_raise {Z : Str} {C : Addr} {base g : Heap} {outer : List Env} {dp un : Nat} {gd : Option (List Code)} {A₀ : Around} {E₀ : Value → Shared → Prop} {s₁ : Shared} {rest : List Stmt} {Q : Flow → Shared → Prop}
  (B : Below A₀ base outer g) (G : Gr w mean mg mb g) (F : Fr g L s.heap (lk l)) (N : News g L s.heap news) (S : Sm s₁ s) (pa : PA cs l e) (hZ : Glo cs Z) (hC : nsIn (hd.heap_39 w.params) mainGlobals Z = some (some (.ref C))) (hkp : keepIn (hd.heap_39 w.params) (.ref C) = true) (Y : ∀ M h, (hd.heap_39 w.params).In h → NtCls M h C 29)
  (hdp : dp + 3 < recursionLimit) (hun : un + 24 < cLine) (hst : ∀ env, starEach [e] env = (false, eval e env) :: starEach [] env) (he : OutE base outer E₀ g L s₁ E) (k : ∀ x s₂, Sm s₁ s₂ → RaisedSN base g outer x (.ref C) news s₂.heap → g.UpToSlots s₂.heap → E₀ (.ref x) s₂) :
  wpAny (MO w) (ktrTop dp un gd cn cs L a ccd cl outer) (execs (.Raise (some (.Call (.Name Z p) [e] [] q)) none r :: rest) (envX cn cs L a ccd cl)) Q E s := by
  refine wpAny_execs_cons (nt_Raise C rfl (Call_ (nameX_K F G.X (topRead_of G.T) hC ?_ hZ.of.1.1 hZ.of.1.2 hZ.of.2)))
  have XK : ∀ h : Heap, (∀ b o, g.get? b = some o → h.get? b = some o) → (hd.heap_39 w.params).In h := fun h k a o e => k _ _ (G.X a o e)
  refine callWith_K (K := hd.heap_39 w.params) (h₀ := g) G.X hkp (args_cons (pa _ _ _ _ _ _ _ _ _ _ _ F fun v tk' => args_nil ⟨XK _ F.keep, ?_⟩) (hst _)) (hst _) rfl
  exact nt_call B F G.X N G.T hZ.of.1.1 hdp hun (Y _ _ G.X) fun e h' tk' tp dx F' N' hn => he e C tp (some dx) _ _ _ (Sm.trans S .mk') F' N' hn (fun s₂ S₂ R U => k _ s₂ S₂ R U)
theorem px_ret {pos : Pos} {rest : List Stmt} {Q : Flow → Shared → Prop} (G : Gr w mean mg mb h₀) (F : Fr h₀ L s.heap (lk l)) (pa : PV cs l e x)
    (k : ∀ t tk, Q (.ret (.int x t)) { s with toks := tk }) : wpAny (MO w) A (execs (.Return (some e) pos :: rest) (envX cn cs L a ccd cl)) Q E s :=
  wpAny_execs_cons (wpAny_Return_some (px_eval G F pa k))
/-- a fresh object beside the ledger -/
theorem nt_push {h : Heap} {o : Obj} (F : Fr h₀ L h m) (N : News h₀ L h news) (ho : o.isFreed = false) : Fr h₀ L (h.push o) m ∧ News h₀ L (h.push o) ((h.objs.size, o) :: news) := by
  have k : ∀ b ob, h.get? b = some ob → (h.push o).get? b = some ob := fun b ob e => Heap.get?_push_of_some _ e
  refine ⟨F.keeps k, fun p hp => ?_⟩
  rcases List.mem_cons.mp hp with rfl | hp
  · refine ⟨Heap.get?_push_at rfl ho, fun q => ?_, ?_⟩
    · obtain ⟨_, _, _, e1, _⟩ := F.ns
      have e2 : h.get? L = some _ := e1
      exact absurd (Heap.lt_size e2) (by rw [← q]; exact Nat.lt_irrefl _)
    · cases q : h₀.get? h.objs.size with
      | none => rfl
      | some ob => exact absurd (Heap.lt_size (F.keep _ _ q)) (Nat.lt_irrefl _)
  · exact ⟨k _ _ (N p hp).1, (N p hp).2⟩
theorem px_ret2 {pos : Pos} {k9 : Nat} {rest : List Stmt} {Q : Flow → Shared → Prop} (G : Gr w mean mg mb h₀) (F : Fr h₀ L s.heap (lk l)) (N : News h₀ L s.heap news) (pa : PV cs l e x) (pb : PV cs l f y)
    (hst : ∀ env, starEach [e, f] env = (false, eval e env) :: (false, eval f env) :: starEach [] env)
    (k : ∀ T tA tB s', Sm s s' → Fr h₀ L s'.heap (lk l) → News h₀ L s'.heap ((T, { cls := .type "tuple", data := .seq #[.int x tA, .int y tB] }) :: news) → Q (.ret (.ref T)) s') :
    wpAny (MO w) A (execs (.Return (some (.Tuple [e, f] k9 p)) pos :: rest) (envX cn cs L a ccd cl)) Q E s := by
  refine wpAny_execs_cons (wpAny_Return_some (wpAny_Tuple ?_))
  rw [hst]
  refine spliced_cons (px_eval G F pa fun t1 tk1 => spliced_cons (px_eval G F pb fun t2 tk2 => args_nil ⟨by rw [PySem.sizeLine_eq]; show 2 ≤ 16777216; decide, ?_⟩))
  exact k _ t1 t2 _ (.mk') (nt_push F N rfl).1 (nt_push F N rfl).2
end
end
noncomputable section
section
variable {w : World} {A : Around} {E : Value → Shared → Prop} {s : Shared} {h₀ : Heap} {L a : Addr} {m mg mb : Str → Option Value} {mean : ExcName → Option Value} {l : List (Str × Option Value)} {cn : Str} {cs : Scope} {ccd : Value} {cl : List (Str × Addr)} {news : List (Addr × Obj)} {e f : Expr} {x y : Int} {p q r : Pos} {v : Value}
/-- an expression that moves the tokens alone -/
noncomputable def PE (cs : Scope) (l : List (Str × Option Value)) (e : Expr) (R : Value → Prop) : Prop :=
  ∀ (w : World) (mean : ExcName → Option Value) (mg mb : Str → Option Value) (A : Around) (cn : Str) (L a : Addr) (ccd : Value) (cl : List (Str × Addr)) (h₀ : Heap) (E Q : Value → Shared → Prop) (s : Shared), Gr w mean mg mb h₀ → Fr h₀ L s.heap (lk l) → (∀ v tk', R v → Q v { s with toks := tk' }) → wpAny (MO w) A (eval e (envX cn cs L a ccd cl)) Q E s
noncomputable def IsI (x : Int) (v : Value) : Prop := ∃ t, v = .int x t
theorem pe_int (h : PV cs l e x) : PE cs l e (IsI x) := fun _ _ _ _ A _ _ _ _ _ _ E Q s G F k => h _ A _ E Q s (okV G F) fun t tk => k _ tk ⟨t, rfl⟩
theorem pe_name {z : Str} (hv : lk l z = some v) (hx : Loc cs z) : PE cs l (.Name z p) (· = v) :=
  fun _ _ _ _ _ _ _ _ _ _ _ _ _ s _ F k => nameX_L F hv (k v s.toks rfl) hx.of.1.1 hx.of.1.2 hx.of.2
theorem Gr.at {h : Heap} (G : Gr w mean mg mb h₀) (F : Fr h₀ L h m) : (hd.heap_39 w.params).In h := fun a o e => F.keep _ _ (G.X a o e)
section
variable {Z : Str} {C : Addr} {R1 R2 R3 : Value → Prop} {Q : Value → Shared → Prop} {e1 e2 e3 : Expr} (G : Gr w mean mg mb h₀) (F : Fr h₀ L s.heap (lk l)) (hZ : Glo cs Z) (hC : nsIn (hd.heap_39 w.params) mainGlobals Z = some (some (.ref C))) (hkp : keepIn (hd.heap_39 w.params) (.ref C) = true)
include G F hZ hC hkp
theorem px_call1 (pa : PE cs l e1 R1) (hst : ∀ env, starEach [e1] env = (false, eval e1 env) :: starEach [] env)
    (k : ∀ v1 tk, R1 v1 → wpAny (MO w) A (call (.ref C) [v1]) Q E { s with toks := tk }) : wpAny (MO w) A (eval (.Call (.Name Z p) [e1] [] q) (envX cn cs L a ccd cl)) Q E s := by
  refine Call_ (nameX_K F G.X (topRead_of G.T) hC ?_ hZ.of.1.1 hZ.of.1.2 hZ.of.2)
  refine callWith_K (K := hd.heap_39 w.params) (h₀ := h₀) G.X hkp (args_cons (pa _ _ _ _ _ _ _ _ _ _ _ _ _ _ G F fun v1 t1 h1 => args_nil ⟨G.at F, ?_⟩) (hst _)) (hst _) rfl
  exact k v1 t1 h1
theorem px_call2 (pa : PE cs l e1 R1) (pb : PE cs l e2 R2) (hst : ∀ env, starEach [e1, e2] env = (false, eval e1 env) :: starEach [e2] env ∧ starEach [e2] env = (false, eval e2 env) :: starEach [] env)
    (k : ∀ v1 v2 tk, R1 v1 → R2 v2 → wpAny (MO w) A (call (.ref C) [v1, v2]) Q E { s with toks := tk }) : wpAny (MO w) A (eval (.Call (.Name Z p) [e1, e2] [] q) (envX cn cs L a ccd cl)) Q E s := by
  refine Call_ (nameX_K F G.X (topRead_of G.T) hC ?_ hZ.of.1.1 hZ.of.1.2 hZ.of.2)
  refine callWith_K (K := hd.heap_39 w.params) (h₀ := h₀) G.X hkp (args_cons (pa _ _ _ _ _ _ _ _ _ _ _ _ _ _ G F fun v1 t1 h1 => args_cons (pb _ _ _ _ _ _ _ _ _ _ _ _ _ _ G F fun v2 t2 h2 => args_nil ⟨G.at F, ?_⟩) (hst _).2) (hst _).1) (hst _).1 (by rw [(hst _).2]; rfl)
  exact k v1 v2 t2 h1 h2
theorem px_call3 (pa : PE cs l e1 R1) (pb : PE cs l e2 R2) (pc : PE cs l e3 R3) (hst : ∀ env, starEach [e1, e2, e3] env = (false, eval e1 env) :: starEach [e2, e3] env ∧ starEach [e2, e3] env = (false, eval e2 env) :: starEach [e3] env ∧ starEach [e3] env = (false, eval e3 env) :: starEach [] env)
    (k : ∀ v1 v2 v3 tk, R1 v1 → R2 v2 → R3 v3 → wpAny (MO w) A (call (.ref C) [v1, v2, v3]) Q E { s with toks := tk }) : wpAny (MO w) A (eval (.Call (.Name Z p) [e1, e2, e3] [] q) (envX cn cs L a ccd cl)) Q E s := by
  refine Call_ (nameX_K F G.X (topRead_of G.T) hC ?_ hZ.of.1.1 hZ.of.1.2 hZ.of.2)
  refine callWith_K (K := hd.heap_39 w.params) (h₀ := h₀) G.X hkp (args_cons (pa _ _ _ _ _ _ _ _ _ _ _ _ _ _ G F fun v1 t1 h1 => args_cons (pb _ _ _ _ _ _ _ _ _ _ _ _ _ _ G F fun v2 t2 h2 => args_cons (pc _ _ _ _ _ _ _ _ _ _ _ _ _ _ G F fun v3 t3 h3 => args_nil ⟨G.at F, ?_⟩) (hst _).2.2) (hst _).2.1) (hst _).1) (hst _).1 (by rw [(hst _).2.1, (hst _).2.2]; rfl)
  exact k v1 v2 v3 t3 h1 h2 h3
end
theorem px_call1n {w : World} {A : Around} {E : Value → Shared → Prop} {s : Shared} {h₀ : Heap} {L a : Addr} {mg mb : Str → Option Value} {mean : ExcName → Option Value} {l : List (Str × Option Value)} {cn : Str} {cs : Scope} {ccd : Value} {cl : List (Str × Addr)} {Z z : Str} {C : Addr} {v : Value} {p q r : Pos} {Q : Value → Shared → Prop} (G : Gr w mean mg mb h₀) (F : Fr h₀ L s.heap (lk l)) (hZ : Glo cs Z) (hC : nsIn (hd.heap_39 w.params) mainGlobals Z = some (some (.ref C))) (hkp : keepIn (hd.heap_39 w.params) (.ref C) = true) (hv : lk l z = some v) (hx : Loc cs z)
    (k : ∀ tk, wpAny (MO w) A (call (.ref C) [v]) Q E { s with toks := tk }) : wpAny (MO w) A (eval (.Call (.Name Z p) [.Name z r] [] q) (envX cn cs L a ccd cl)) Q E s :=
  px_call1 G F hZ hC hkp (pe_name hv hx) (fun _ => rfl) fun _ tk e => e ▸ k tk
theorem px_call1i {w : World} {A : Around} {E : Value → Shared → Prop} {s : Shared} {h₀ : Heap} {L a : Addr} {mg mb : Str → Option Value} {mean : ExcName → Option Value} {l : List (Str × Option Value)} {cn : Str} {cs : Scope} {ccd : Value} {cl : List (Str × Addr)} {Z : Str} {C : Addr} {x : Int} {e : Expr} {p q : Pos} {Q : Value → Shared → Prop} (G : Gr w mean mg mb h₀) (F : Fr h₀ L s.heap (lk l)) (hZ : Glo cs Z) (hC : nsIn (hd.heap_39 w.params) mainGlobals Z = some (some (.ref C))) (hkp : keepIn (hd.heap_39 w.params) (.ref C) = true) (pa : PV cs l e x) (hst : ∀ env, starEach [e] env = (false, eval e env) :: starEach [] env)
    (k : ∀ t tk, wpAny (MO w) A (call (.ref C) [.int x t]) Q E { s with toks := tk }) : wpAny (MO w) A (eval (.Call (.Name Z p) [e] [] q) (envX cn cs L a ccd cl)) Q E s :=
  px_call1 G F hZ hC hkp (pe_int pa) hst fun _ tk e => by obtain ⟨t, rfl⟩ := e; exact k t tk
theorem px_call2i {w : World} {A : Around} {E : Value → Shared → Prop} {s : Shared} {h₀ : Heap} {L a : Addr} {mg mb : Str → Option Value} {mean : ExcName → Option Value} {l : List (Str × Option Value)} {cn : Str} {cs : Scope} {ccd : Value} {cl : List (Str × Addr)} {Z : Str} {C : Addr} {x y : Int} {e f : Expr} {p q : Pos} {Q : Value → Shared → Prop} (G : Gr w mean mg mb h₀) (F : Fr h₀ L s.heap (lk l)) (hZ : Glo cs Z) (hC : nsIn (hd.heap_39 w.params) mainGlobals Z = some (some (.ref C))) (hkp : keepIn (hd.heap_39 w.params) (.ref C) = true) (pa : PV cs l e x) (pb : PV cs l f y) (hst : ∀ env, starEach [e, f] env = (false, eval e env) :: starEach [f] env ∧ starEach [f] env = (false, eval f env) :: starEach [] env)
    (k : ∀ t u tk, wpAny (MO w) A (call (.ref C) [.int x t, .int y u]) Q E { s with toks := tk }) : wpAny (MO w) A (eval (.Call (.Name Z p) [e, f] [] q) (envX cn cs L a ccd cl)) Q E s :=
  px_call2 G F hZ hC hkp (pe_int pa) (pe_int pb) hst fun _ _ tk e1 e2 => by obtain ⟨t, rfl⟩ := e1; obtain ⟨u, rfl⟩ := e2; exact k t u tk
theorem px_call2n {w : World} {A : Around} {E : Value → Shared → Prop} {s : Shared} {h₀ : Heap} {L a : Addr} {mg mb : Str → Option Value} {mean : ExcName → Option Value} {l : List (Str × Option Value)} {cn : Str} {cs : Scope} {ccd : Value} {cl : List (Str × Addr)} {Z z y : Str} {C : Addr} {v u : Value} {p q r r' : Pos} {Q : Value → Shared → Prop} (G : Gr w mean mg mb h₀) (F : Fr h₀ L s.heap (lk l)) (hZ : Glo cs Z) (hC : nsIn (hd.heap_39 w.params) mainGlobals Z = some (some (.ref C))) (hkp : keepIn (hd.heap_39 w.params) (.ref C) = true) (hv : lk l z = some v) (hx : Loc cs z) (hu : lk l y = some u) (hy : Loc cs y)
    (k : ∀ tk, wpAny (MO w) A (call (.ref C) [v, u]) Q E { s with toks := tk }) : wpAny (MO w) A (eval (.Call (.Name Z p) [.Name z r, .Name y r'] [] q) (envX cn cs L a ccd cl)) Q E s :=
  px_call2 G F hZ hC hkp (pe_name hv hx) (pe_name hu hy) (fun _ => ⟨rfl, rfl⟩) fun _ _ tk e f => e ▸ f ▸ k tk
theorem px_rete {pos : Pos} {rest : List Stmt} {env : Env} {Q : Flow → Shared → Prop} (h : wpAny (MO w) A (eval e env) (fun v => Q (.ret v)) E s) : wpAny (MO w) A (execs (.Return (some e) pos :: rest) env) Q E s :=
  wpAny_execs_cons (wpAny_Return_some h)
/-- a if t else b -/
theorem px_ifexp {test body orelse : Expr} {Q : Value → Shared → Prop} {b : Bool} (G : Gr w mean mg mb h₀) (F : Fr h₀ L s.heap (lk l)) (ht : PT (OkV cs l) test b)
    (k1 : ∀ tk, b = true → wpAny (MO w) A (eval body (envX cn cs L a ccd cl)) Q E { s with toks := tk }) (k2 : ∀ tk, b = false → wpAny (MO w) A (eval orelse (envX cn cs L a ccd cl)) Q E { s with toks := tk }) :
    wpAny (MO w) A (eval (.IfExp test body orelse p) (envX cn cs L a ccd cl)) Q E s := by
  refine wpAny_IfExp (ht _ _ _ _ _ _ (okV G F) fun tk => ?_)
  cases b with
  | true => exact k1 tk rfl
  | false => exact k2 tk rfl
/-- a loop's test -/
theorem px_test {test : Expr} {body : List Stmt} {Q' : Flow → Shared → Prop} {R : Shared → Prop} {b : Bool} (G : Gr w mean mg mb h₀) (F : Fr h₀ L s.heap (lk l)) (ht : PT (OkV cs l) test b)
    (k1 : ∀ tk, b = true → wpAny (MO w) A (execs body (envX cn cs L a ccd cl)) Q' E { s with toks := tk }) (k2 : ∀ tk, b = false → R { s with toks := tk }) :
    wpAny (MO w) A (isTrue test (envX cn cs L a ccd cl) (eval test (envX cn cs L a ccd cl))) (fun b s₂ => if b = true then wpAny (MO w) A (execs body (envX cn cs L a ccd cl)) Q' E s₂ else R s₂) E s := by
  refine ht _ _ _ _ _ _ (okV G F) fun tk => ?_
  cases b with
  | true => exact k1 tk rfl
  | false => exact k2 tk rfl
/-- the object of a list of ints -/
noncomputable def IL (ks : List Int) (o : Obj) : Prop := ∃ vs n, o = listOf vs.toArray n ∧ IntsAre vs ks
theorem IL.list {D : Addr} {ks : List Int} {o : Obj} {h : Heap} (I : IL ks o) (N : News h₀ L h ((D, o) :: news)) : ∃ vs, h.IsList D vs.toArray ∧ IntsAre vs ks := by
  obtain ⟨vs, n, rfl, i⟩ := I
  exact ⟨vs, News.isList N (.head _), i⟩
section
local macro_rules | `(tactic| walk_at $s:str) => `(tactic| k_extra $s)
/-- found.append(e) -/
theorem px_appendV {z : Str} {D : Addr} {vs : List Value} {n : Nat} {R : Value → Prop} {p2 p3 : Pos} {rest : List Stmt} {Q : Flow → Shared → Prop} (G : Gr w mean mg mb h₀) (F : Fr h₀ L s.heap (lk l)) (N : News h₀ L s.heap ((D, listOf vs.toArray n) :: news)) (hv : lk l z = some (.ref D)) (hD : ∀ p ∈ news, p.1 ≠ D) (hn : vs.length ≤ 1000) (hx : Loc cs z) (pa : PE cs l e R)
    (hst : ∀ env, starEach [e] env = (false, eval e env) :: starEach [] env ∧ swapsWith (.Call (.Attribute (.Name z p) "append" p2) [e] [] p3) none q.line env = pure false) (hi : interactive (envX cn cs L a ccd cl) = false) {pl : Env → Sem Bool}
    (hm : ∀ env, eval (.Call (.Attribute (.Name z p) "append" p2) [e] [] p3) env = (do
      let ov ← eval (.Name z p) env
      standAt p2.atName
      let (f, first) ← holding [ov] (getMethod ov "append" (pl env))
      callWith p3 f first (backTo p3 (starEach [e] env)) (backToKw p3 (keywordEach [] env))))
    (k : ∀ v s', Sm s s' → R v → Fr h₀ L s'.heap (lk l) → News h₀ L s'.heap ((D, listOf (vs ++ [v]).toArray (n + 1)) :: news) → wpAny (MO w) A (execs rest (envX cn cs L a ccd cl)) Q E s') :
    wpAny (MO w) A (execs (.Expr (.Call (.Attribute (.Name z p) "append" p2) [e] [] p3) q :: rest) (envX cn cs L a ccd cl)) Q E s := by
  obtain ⟨X, T⟩ := id G
  w_top off; revert X; k_fill; intro X
  k_with_none
  refine wpAny_execs_cons (wpAny_Expr_any (methodCall_KW (nameX_L F hv ?_ hx.of.1.1 hx.of.1.2 hx.of.2) (hm _)) hi (hst _).2)
  k_steps
  show wpAny _ _ (callWith p3 (.builtin "list.append") [.ref D] (backTo p3 (starEach [e] _)) []) _ _ _
  refine callWith_method1 (args_cons (pa _ _ _ _ _ _ _ _ _ _ _ _ _ _ G F fun v k1 hr => args_nil ?_) (hst _).1) (hst _).1 rfl
  refine append_K F N (.head hD) (fun h' F' N' => ?_) (by size_fits)
  refine k v _ .mk' hr F' ?_
  rw [show (vs ++ [v]).toArray = vs.toArray.push v from by simp]
  exact N'
theorem px_append {z : Str} {D : Addr} {o : Obj} {ks : List Int} {p2 p3 : Pos} {rest : List Stmt} {Q : Flow → Shared → Prop} (G : Gr w mean mg mb h₀) (F : Fr h₀ L s.heap (lk l)) (N : News h₀ L s.heap ((D, o) :: news)) (hv : lk l z = some (.ref D)) (I : IL ks o) (hD : ∀ p ∈ news, p.1 ≠ D) (hn : ks.length ≤ 1000) (hx : Loc cs z) (pa : PV cs l e x)
    (hst : ∀ env, starEach [e] env = (false, eval e env) :: starEach [] env ∧ swapsWith (.Call (.Attribute (.Name z p) "append" p2) [e] [] p3) none q.line env = pure false) (hi : interactive (envX cn cs L a ccd cl) = false) {pl : Env → Sem Bool}
    (hm : ∀ env, eval (.Call (.Attribute (.Name z p) "append" p2) [e] [] p3) env = (do
      let ov ← eval (.Name z p) env
      standAt p2.atName
      let (f, first) ← holding [ov] (getMethod ov "append" (pl env))
      callWith p3 f first (backTo p3 (starEach [e] env)) (backToKw p3 (keywordEach [] env))))
    (k : ∀ o' s', Sm s s' → IL (ks ++ [x]) o' → Fr h₀ L s'.heap (lk l) → News h₀ L s'.heap ((D, o') :: news) → wpAny (MO w) A (execs rest (envX cn cs L a ccd cl)) Q E s') :
    wpAny (MO w) A (execs (.Expr (.Call (.Attribute (.Name z p) "append" p2) [e] [] p3) q :: rest) (envX cn cs L a ccd cl)) Q E s := by
  obtain ⟨vs, n, rfl, i⟩ := I
  refine px_appendV G F N hv hD (by rw [i.length]; exact hn) hx (pe_int pa) hst hi hm fun v s' S hr F' N' => ?_
  obtain ⟨t1, rfl⟩ := hr
  exact k _ _ S ⟨_, n + 1, rfl, i.append (.cons _ _ .nil)⟩ F' N'
end
/-- z = e, and on -/
theorem px_let {z : Str} {pos : Pos} {rest : List Stmt} {Q : Flow → Shared → Prop} {l' : Value → List (Str × Option Value)} (_F : Fr h₀ L s.heap (lk l)) (hx : Loc cs z) (hl : ∀ v, setL z v l = l' v) (hs : ∀ env, swapsWith e (some (.Name z p)) pos.line env = pure false)
    (h : wpAny (MO w) A (eval e (envX cn cs L a ccd cl)) (fun v s₁ => ∃ news₁, Fr h₀ L s₁.heap (lk l) ∧ News h₀ L s₁.heap news₁ ∧ ∀ s₂, Sm s₁ s₂ → Fr h₀ L s₂.heap (lk (l' v)) → News h₀ L s₂.heap news₁ → wpAny (MO w) A (execs rest (envX cn cs L a ccd cl)) Q E s₂) E s) :
    wpAny (MO w) A (execs (.Assign [.Name z p] e pos :: rest) (envX cn cs L a ccd cl)) Q E s := by
  refine wpAny_execs_cons (wpAny_Assign_Name (wpAny_mono h (fun v s₁ h₁ => ?_) fun _ _ x => x) (hs _))
  obtain ⟨news₁, F, N, k⟩ := h₁
  exact px_store F N (hl v) k hx
/-- [] -/
theorem px_list0 {Q : Value → Shared → Prop} {env : Env} (F : Fr h₀ L s.heap m) (N : News h₀ L s.heap news)
    (k : ∀ D o s', Sm s s' → IL [] o → Fr h₀ L s'.heap m → News h₀ L s'.heap ((D, o) :: news) → (∀ p ∈ news, p.1 ≠ D) → Q (.ref D) s') : wpAny (MO w) A (eval (.List [] p) env) Q E s :=
  List_ (args_nil (newList_K F N (fun D h' F' N' l1 => k D _ _ .mk' ⟨[], 0, rfl, .nil⟩ F' N' fun q hq => Nat.ne_of_lt (l1 q hq)) (by size_fits)))
/-- [e] -/
theorem IL.nil : IL [] (listOf #[] 0) := ⟨[], 0, rfl, .nil⟩
theorem px_list1 {Q : Value → Shared → Prop} (G : Gr w mean mg mb h₀) (F : Fr h₀ L s.heap (lk l)) (N : News h₀ L s.heap news) (pa : PV cs l e x) (hst : ∀ env, starEach [e] env = (false, eval e env) :: starEach [] env)
    (k : ∀ D o s', Sm s s' → IL [x] o → Fr h₀ L s'.heap (lk l) → News h₀ L s'.heap ((D, o) :: news) → (∀ p ∈ news, p.1 ≠ D) → Q (.ref D) s') : wpAny (MO w) A (eval (.List [e] p) (envX cn cs L a ccd cl)) Q E s :=
  List_ (args_cons (pa _ _ _ _ _ _ (okV G F) fun t1 k1 => args_nil (newList_K F N (fun D h' F' N' l1 => k D _ _ .mk' ⟨_, 0, rfl, .cons _ _ .nil⟩ F' N' fun q hq => Nat.ne_of_lt (l1 q hq)) (by size_fits))) (hst _))
/-- what bytes(..) asks of its argument -/
noncomputable def BytesOf (h₀ : Heap) (L : Addr) (m : Str → Option Value) (Q : Value → Shared → Prop) (v : Value) (s₁ : Shared) : Prop :=
  ∃ D o ks news₁, v = .ref D ∧ IL ks o ∧ KBa.In ks ∧ ks.length ≤ 1000 ∧ Fr h₀ L s₁.heap m ∧ News h₀ L s₁.heap ((D, o) :: news₁) ∧ ∀ b t s₂, KBw.bInts b = ks → Sm s₁ s₂ → Fr h₀ L s₂.heap m → News h₀ L s₂.heap ((D, o) :: news₁) → Q (.bytes b t) s₂
theorem px_bytes {Q : Value → Shared → Prop} (G : Gr w mean mg mb h₀) (F : Fr h₀ L s.heap (lk l)) (hg : Glo cs "bytes") (hh : A.handled = none) (hst : ∀ env, starEach [e] env = (false, eval e env) :: starEach [] env)
    (h : wpAny (MO w) A (eval e (envX cn cs L a ccd cl)) (BytesOf h₀ L (lk l) Q) E s) : wpAny (MO w) A (eval (.Call (.Name "bytes" p) [e] [] q) (envX cn cs L a ccd cl)) Q E s := by
  refine Call_ (nameX_B F G.X (topRead_of G.T) rfl boot_bytes (by decide) ?_ hg.of.1.1 hg.of.1.2 rfl)
  refine callWith_type1 (args_cons (wpAny_mono h (fun v s₁ h₁ => args_nil ?_) fun _ _ x => x) (hst _)) (hst _) rfl
  obtain ⟨D, o, ks, news₁, rfl, I, hk, hn, F', N', k⟩ := h₁
  obtain ⟨vs, il, i⟩ := I.list N'
  exact KBa.make_K F' N' hh il i hk (by (first | lia | omega)) fun h' t' k' F2 N2 _ => k _ _ _ (KBa.ints_make hk) .mk' F2 N2
theorem px_name {z : Str} {Q : Value → Shared → Prop} (F : Fr h₀ L s.heap (lk l)) (hv : lk l z = some v) (hx : Loc cs z) (k : Q v s) : wpAny (MO w) A (eval (.Name z p) (envX cn cs L a ccd cl)) Q E s :=
  nameX_L F hv k hx.of.1.1 hx.of.1.2 hx.of.2
section
local macro_rules | `(tactic| walk_at $s:str) => `(tactic| k_extra $s)
/-- found[::-1] -/
theorem px_rev {z : Str} {D : Addr} {o : Obj} {ks : List Int} {p2 p3 p4 p5 : Pos} {k9 : Nat} {Q : Value → Shared → Prop} (G : Gr w mean mg mb h₀) (F : Fr h₀ L s.heap (lk l)) (N : News h₀ L s.heap ((D, o) :: news)) (hv : lk l z = some (.ref D)) (I : IL ks o) (hn : ks.length ≤ 1000) (hx : Loc cs z)
    (k : ∀ D' o' s', Sm s s' → IL ks.reverse o' → Fr h₀ L s'.heap (lk l) → News h₀ L s'.heap ((D', o') :: (D, o) :: news) → Q (.ref D') s') :
    wpAny (MO w) A (eval (.Subscript (.Name z p) (.Slice none none (some (.UnaryOp .USub (.Constant (.int 1) k9 p2) p3)) p4) p5) (envX cn cs L a ccd cl)) Q E s := by
  obtain ⟨vs, n, rfl, i⟩ := I
  have hvs := i.length
  obtain ⟨X, T⟩ := id G
  w_top off; revert X; k_fill; intro X
  k_with_none
  (k_with "eval Name" => refine px_name F hv hx ?_)
  k_steps
  exact k _ _ _ .mk' ⟨_, _, rfl, by assumption⟩ (by assumption) (by assumption)
theorem px_cat {z : Str} {D : Addr} {o : Obj} {ks : List Int} {p2 p3 : Pos} {Q : Value → Shared → Prop} (G : Gr w mean mg mb h₀) (F : Fr h₀ L s.heap (lk l)) (N : News h₀ L s.heap ((D, o) :: news)) (hv : lk l z = some (.ref D)) (I : IL ks o) (hn : ks.length ≤ 1000) (hx : Loc cs z) (pa : PV cs l e x) (hst : ∀ env, starEach [e] env = (false, eval e env) :: starEach [] env)
    (k : ∀ D' o' s' news', Sm s s' → IL (ks ++ [x]) o' → Fr h₀ L s'.heap (lk l) → News h₀ L s'.heap ((D', o') :: news') → (∀ p ∈ news, p ∈ news') → Q (.ref D') s') :
    wpAny (MO w) A (eval (.BinOp (.Name z p) .Add (.List [e] p2) p3) (envX cn cs L a ccd cl)) Q E s := by
  obtain ⟨vs, n, rfl, i⟩ := I
  have hvs := i.length
  obtain ⟨X, T⟩ := id G
  w_top off; revert X; k_fill; intro X
  k_with_none
  refine wpAny_BinOp (px_name F hv hx (px_list1 G F N pa hst fun D' o' s' S' I' F' N' l1 => ?_))
  obtain ⟨vs', n', rfl, i'⟩ := I'
  clear F N
  k_steps
  exact k _ _ _ _ (S'.trans .mk') ⟨_, _, rfl, by assumption⟩ (by assumption) (by assumption) (fun p hp => .tail _ (.tail _ hp))
end
end
end
noncomputable section
section
variable {w : World} {A : Around} {E : Value → Shared → Prop} {s : Shared} {h₀ : Heap} {L a : Addr} {m mg mb : Str → Option Value} {mean : ExcName → Option Value} {l : List (Str × Option Value)} {cn : Str} {cs : Scope} {ccd : Value} {cl : List (Str × Addr)} {news : List (Addr × Obj)} {e f : Expr} {x y : Int} {p q r : Pos} {v : Value} {env : Env}
/-- a value that can be walked, told by how its iterator walks -/
noncomputable def ItSrc (w : World) (A : Around) (h₀ : Heap) (L : Addr) (m : Str → Option Value) (news : List (Addr × Obj)) (fx : List Addr) (kp : List (Addr × Obj)) (n : Nat) (P : Nat → Value → Prop) (xv : Value) (s : Shared) : Prop :=
  ∀ (Q E : Value → Shared → Prop), (∀ I St s', Walks PySem.Challenge.rw_nt0271_01.row.prog w A I (I :: fx) [I] n P St → (∀ i h, St i h → ∃ o, h.get? I = some o) → (∀ i h h' o nw, St i h → h.get? I = some o → h'.get? I = some o → News h₀ L h' nw → (∀ p ∈ kp, p ∈ nw) → St i h') →
    St 0 s'.heap → (∀ b ∈ I :: fx, b < s'.heap.objs.size) → L ≠ I → h₀.get? I = none → (∀ p ∈ news, p.1 ≠ I) → Sm s s' → Fr h₀ L s'.heap m → News h₀ L s'.heap news → Q (.ref I) s') → wpAny (MO w) A (pyIter xv) Q E s
theorem it_push {fx : List Addr} {kp : List (Addr × Obj)} {o : Obj} {n : Nat} {P : Nat → Value → Prop} {St : Nat → Heap → Prop} {Q : Value → Shared → Prop} (F : Fr h₀ L s.heap m) (N : News h₀ L s.heap news) (ho : o.isFreed = false) (W : Walks PySem.Challenge.rw_nt0271_01.row.prog w A s.heap.objs.size (s.heap.objs.size :: fx) [s.heap.objs.size] n P St)
    (hfx : ∀ b ∈ fx, b < s.heap.objs.size) (h1 : ∀ i h, St i h → ∃ o, h.get? s.heap.objs.size = some o) (h2 : ∀ i h h' o nw, St i h → h.get? s.heap.objs.size = some o → h'.get? s.heap.objs.size = some o → News h₀ L h' nw → (∀ p ∈ kp, p ∈ nw) → St i h') (h3 : St 0 (s.heap.push o))
    (k : ∀ I St s', Walks PySem.Challenge.rw_nt0271_01.row.prog w A I (I :: fx) [I] n P St → (∀ i h, St i h → ∃ o, h.get? I = some o) → (∀ i h h' o nw, St i h → h.get? I = some o → h'.get? I = some o → News h₀ L h' nw → (∀ p ∈ kp, p ∈ nw) → St i h') →
    St 0 s'.heap → (∀ b ∈ I :: fx, b < s'.heap.objs.size) → L ≠ I → h₀.get? I = none → (∀ p ∈ news, p.1 ≠ I) → Sm s s' → Fr h₀ L s'.heap m → News h₀ L s'.heap news → Q (.ref I) s') : Q (.ref s.heap.objs.size) { s with heap := s.heap.push o } :=
  k _ _ _ W h1 h2 h3 (by
    intro b hb
    show b < (s.heap.push _).objs.size
    rw [Heap.size_push]
    rcases List.mem_cons.1 hb with rfl | hb
    · exact Nat.lt_succ_self _
    · exact Nat.lt_succ_of_lt (hfx b hb)) (Nat.ne_of_lt F.ns.lt) (next_is_new F) (fun p hp => Nat.ne_of_lt (Heap.lt_size (N p hp).1)) .mk' (nt_push F N ho).1 fun p hp => (nt_push F N ho).2 p (.tail _ hp)
theorem it_bytes {b : Array UInt8} {tb : Tok} (hh : A.handled = none) (F : Fr h₀ L s.heap m) (N : News h₀ L s.heap news) {ks : List Int} (hb : KBw.bInts b = ks) :
    ItSrc w A h₀ L m news [] [] ks.length (fun i v => ∃ k, ks[i]? = some k ∧ IsI k v) (.bytes b tb) s := fun Q E k => by
  subst hb
  have W0 := KBw.walks (prog := PySem.Challenge.rw_nt0271_01.row.prog) (w := w) hh s.heap.objs.size b tb
  rw [← KBw.ints_length] at W0
  have W : Walks PySem.Challenge.rw_nt0271_01.row.prog w A s.heap.objs.size [s.heap.objs.size] [s.heap.objs.size] (KBw.bInts b).length (fun i v => ∃ k, (KBw.bInts b)[i]? = some k ∧ IsI k v) _ :=
    { sub := W0.sub, frame := W0.frame, done := W0.done, self := W0.self,
      item := fun i s Q E hi st hQ => W0.item i s Q E hi st fun v h' tk hP => hQ v h' tk (by obtain ⟨c, u, hc, rfl⟩ := hP; exact ⟨_, KBw.ints_get hc, u, rfl⟩) }
  refine KBw.pyIter_bytes (it_push F N rfl W (fun _ h => nomatch h) (fun i h st => let ⟨o, e, _⟩ := st; ⟨o, e⟩) (fun i h h' o _ st e e' _ _ => ?_) ⟨_, Heap.get?_push_size _ rfl, rfl, rfl⟩ k)
  obtain ⟨o', q, r⟩ := st
  rw [e] at q
  cases q
  exact ⟨o, e', r⟩
/-- a range's object is there, and its ints -/
theorem it_range {rr : Addr} {x y c : Int} {t u v : Tok} {n : Nat} (hh : A.handled = none) (F : Fr h₀ L s.heap m) (N : News h₀ L s.heap news) (hr : IsRange s.heap rr x y c t u v) (hsm : Builtin.Range.small x y c = true) (hn : Builtin.Range.rangeSize x y c = ((n : Nat) : Int)) :
    ItSrc w A h₀ L m news [] [] n (fun i v => IsI (x + (i : Int) * c) v) (.ref rr) s := fun Q E k => by
  have W0 := (Walks.range (prog := PySem.Challenge.rw_nt0271_01.row.prog) (w := w) hh s.heap.objs.size x c n).bound
  have W : Walks PySem.Challenge.rw_nt0271_01.row.prog w A s.heap.objs.size [s.heap.objs.size] [s.heap.objs.size] n (fun i v => IsI (x + (i : Int) * c) v) (fun i h => IsRangeIter h s.heap.objs.size (x + (i : Nat) * c) ((n : Int) - (i : Nat)) c) :=
    { sub := W0.sub, frame := W0.frame, done := W0.done, self := W0.self,
      item := fun i s Q E hi st hQ => W0.item i s Q E hi st fun v h' tk hP => hQ v h' tk (by obtain ⟨_, t, rfl⟩ := hP; exact ⟨t, rfl⟩) }
  refine wpAny_pyIter_range hr hsm (it_push F N rfl W (fun _ h => nomatch h) (fun i h st => ⟨_, st⟩) (fun i h h' o _ st e e' _ _ => ?_) (by show IsRangeIter _ _ _ _ _; rw [hn]; simpa using Heap.get?_push_size _ rfl) k)
  have st' : h.get? s.heap.objs.size = some _ := st
  show h'.get? s.heap.objs.size = some _
  rw [e', ← e]; exact st'
/-- a for over it -/
theorem px_for {σ : Type} {z : Str} {iter : Expr} {body rest : List Stmt} {px pos : Pos} {Q : Flow → Shared → Prop} {n : Nat} {Pv : Nat → Value → Prop} (S : σ → Option Value → List (Str × Option Value)) (Led : σ → List (Addr × Obj)) (adr : List Addr) (P : Nat → σ → Prop) (c₀ : σ)
    (F₀ : Fr h₀ L s.heap m) (hE : PassesOwn (MO w) A (envX cn cs L a ccd cl) E) (hz : Loc cs z) (hs : ∀ x, foldedSetIterable iter (envX cn cs L a ccd cl) x = pure x) (hS : ∀ c o v, setL z v (S c o) = S c (some v)) (hadr : ∀ c, (Led c).map (·.1) = adr)
    (hit : wpAny (MO w) A (eval iter (envX cn cs L a ccd cl)) (fun xv s₁ => ItSrc w A h₀ L m (Led c₀) [] [] n Pv xv s₁ ∧ Sm s s₁) E s)
    (h0 : ∃ o, m = lk (S c₀ o) ∧ P 0 c₀)
    (turn : ∀ i c v (s₁ : Shared) own (Q' : Flow → Shared → Prop), i < n → Pv i v → P i c → Sm s s₁ → Fr h₀ L s₁.heap (lk (S c (some v))) → News h₀ L s₁.heap (Led c ++ own) → (∀ p ∈ own, p.1 ∉ adr) → (∀ v s', Q (.ret v) s' → Q' (.ret v) s') →
      (∀ c' s', P (i + 1) c' → Sm s₁ s' → Fr h₀ L s'.heap (lk (S c' (some v))) → News h₀ L s'.heap (Led c' ++ own) → Q' .next s') → wpAny (MO w) A (execs body (envX cn cs L a ccd cl)) Q' E s₁)
    (done : ∀ c o s', P n c → Sm s s' → Fr h₀ L s'.heap (lk (S c o)) → News h₀ L s'.heap (Led c) → wpAny (MO w) A (execs rest (envX cn cs L a ccd cl)) Q E s') :
    wpAny (MO w) A (execs (.For (.Name z px) iter body [] pos :: rest) (envX cn cs L a ccd cl)) Q E s := by
  obtain ⟨o, rfl, hp0⟩ := h0
  refine wpAny_execs_cons (For_invVF F₀ hz.of.1.2 (by show (cs.kind == .class || (cs.kind == .module && _)) = false; rw [hz.of.1.1]; rfl) (wpAny_mono hit (fun xv s₁ h₁ => ?_) fun _ _ x => x) hs hE)
  refine h₁.1 _ _ fun I St s₂ W hIo hSt st hlt hLI hI₀ off S₂ F N => ?_
  have S₂ := h₁.2.trans S₂
  refine loop_invN (fun i m nx => ∃ c o, nx = Led c ∧ m = lk (S c o) ∧ P i c) W (fun hm => hLI (List.mem_singleton.mp hm)) (fun b hb => by rw [List.mem_singleton.mp hb]; exact hI₀) (fun p hp hm => off p hp (List.mem_singleton.mp hm)) (fun p hp hm => off p hp (List.mem_singleton.mp hm)) st F N ⟨c₀, o, rfl, rfl, hp0⟩ ?_ ?_
  · rintro i v m₁ nx h tk own hi hv ha hoff ⟨c, o, rfl, rfl, hp⟩ F₁ N₁
    rw [lk_set, hS] at F₁
    refine turn i c v _ own _ hi hv hp (S₂.trans .mk') F₁ N₁ (fun p hp hm => hoff p hp _ (by rw [hadr c₀]; exact hm) rfl) (fun v s' q => q) fun c' s' hp' S' F' N' => ?_
    have e : s' = _ := S'
    exact ⟨_, _, _, _, _, e, F', N', fun p hp => List.mem_append_left _ hp, fun p hp => List.mem_append_right _ hp, (hadr c').trans (hadr c₀).symm, c', _, rfl, rfl, hp'⟩
  · rintro m₁ nx h tk ⟨c, o, rfl, rfl, hp⟩ F₁ N₁
    exact done c o _ hp (S₂.trans .mk') F₁ N₁
/-- the turns of a comprehension -/
theorem comp_run {elt : Expr} {z : Str} {scope : Scope} {cl : List (Str × Addr)} {P : Nat → Value → Prop} {Fin : List Value → List (Addr × Obj) → Prop} {n : Nat} {kp : List (Addr × Obj)} (J : Nat → List Value → List (Addr × Obj) → Prop) (h0 : J 0 [] news) (hkp : ∀ i ys nx, J i ys nx → ∀ p ∈ kp, p ∈ nx)
    (turn : ∀ i v C oC m₂ ys nx own (s₁ : Shared) (Q' E' : Value → Shared → Prop), i < n → P i v → J i ys nx → (C, oC) ∈ own → LCg.NsObj oC m₂ → m₂ z = some v → Sm s s₁ → Fr h₀ L s₁.heap m → News h₀ L s₁.heap (nx ++ own) → (∀ p ∈ own, ∀ q ∈ nx, p.1 ≠ q.1) →
      (∀ y nx' s', Sm s₁ s' → Fr h₀ L s'.heap m → News h₀ L s'.heap (nx' ++ own) → nx'.map (·.1) = nx.map (·.1) → J (i + 1) (ys ++ [y]) nx' → Q' y s') → wpAny (MO w) A (eval elt (compEnvC scope cl C env)) Q' E' s₁)
    (fin : ∀ ys nx, J n ys nx → Fin ys nx) :
    LCg.CompRest PySem.Challenge.rw_nt0271_01.row.prog w A h₀ L m env elt z scope cl s (fun nx => ∀ p ∈ kp, p ∈ nx) P Fin n 0 [] news := by
  suffices H : ∀ j i ys nx, i + j = n → J i ys nx → LCg.CompRest PySem.Challenge.rw_nt0271_01.row.prog w A h₀ L m env elt z scope cl s (fun nx => ∀ p ∈ kp, p ∈ nx) P Fin j i ys nx from H n 0 [] news (Nat.zero_add n) h0
  intro j
  induction j with
  | zero =>
    intro i ys nx e hj
    have e : i = n := e
    exact .zero (fin ys nx (e ▸ hj))
  | succ j ih =>
    intro i ys nx e hj
    refine .succ fun v I oI C oC D m₂ h tk E' hv hC hx F N off ne => ?_
    have o3 := off.mem
    refine turn i v C oC m₂ ys nx [(I, oI), (C, oC), (D, LCg.lst ys)] _ _ _ (by (first | lia | omega)) hv hj (.tail _ (.head _)) hC hx .mk' F (fun p hp => N p ?_) (fun p hp q hq => ?_) fun y nx' s' S' F' N' ha hj' => ?_
    · rcases List.mem_append.1 hp with hp | hp
      · exact .tail _ (.tail _ (.tail _ hp))
      · rcases hp with _ | ⟨_, _ | ⟨_, _ | ⟨_, hp⟩⟩⟩
        · exact .head _
        · exact .tail _ (.head _)
        · exact .tail _ (.tail _ (.head _))
        · nomatch hp
    · have z := o3 q hq
      rcases hp with _ | ⟨_, _ | ⟨_, _ | ⟨_, hp⟩⟩⟩
      · exact Ne.symm z.1
      · exact Ne.symm z.2.1
      · exact Ne.symm z.2.2
      · nomatch hp
    · have e' : s' = _ := S'
      refine ⟨_, _, nx', e', F', fun p hp => N' p ?_, LCg.Off3.of fun p hp => ?_, hkp _ _ _ hj', ih (i + 1) _ nx' (by (first | lia | omega)) hj'⟩
      · rcases hp with _ | ⟨_, _ | ⟨_, _ | ⟨_, hp⟩⟩⟩
        · exact List.mem_append_right _ (.head _)
        · exact List.mem_append_right _ (.tail _ (.head _))
        · exact List.mem_append_right _ (.tail _ (.tail _ (.head _)))
        · exact List.mem_append_left _ hp
      · have q : p.1 ∈ nx'.map (·.1) := List.mem_map.2 ⟨p, hp, rfl⟩
        rw [ha] at q
        obtain ⟨p', hp', e9⟩ := List.mem_map.1 q
        rw [← e9]; exact o3 p' hp'
theorem off1_mem {D : Addr} (l : List (Addr × Obj)) (h : LCg.Off1 D l) (p : Addr × Obj) (hp : p ∈ l) : p.1 ≠ D := by
  induction l with
  | nil => cases hp
  | cons r l ih =>
    obtain ⟨h1, h2⟩ := h
    rcases List.mem_cons.1 hp with rfl | hp
    · exact h1
    · exact ih h2 hp
/-- what a comprehension asks of its source -/
noncomputable def CompOf (w : World) (A : Around) (h₀ : Heap) (L : Addr) (m : Str → Option Value) (env : Env) (elt : Expr) (z : Str) (scope : Scope) (cl : List (Str × Addr)) (K : List Value → List (Addr × Obj) → Shared → Prop) (xv : Value) (s₁ : Shared) : Prop :=
  ∃ news fx kp n P, n ≤ sizeLine ∧ (∀ p ∈ kp, p ∈ news) ∧ ItSrc w A h₀ L m news fx kp n P xv s₁ ∧ ∀ s₂, Sm s₁ s₂ → LCg.CompRest PySem.Challenge.rw_nt0271_01.row.prog w A h₀ L m env elt z scope cl s₂ (fun nx => ∀ p ∈ kp, p ∈ nx) P (fun ys nx => K ys nx s₂) n 0 [] news
theorem px_comp {elt iter : Expr} {z : Str} {px : Pos} {scope : Scope} {cl : List (Str × Addr)} {pos : Pos} {Q : Value → Shared → Prop} (_F : Fr h₀ L s.heap m)
    (hclos : closureFor scope env = pure cl) (hcell : ∀ y ∈ scope.names, y.2 ≠ .cell) (hkind : scope.kind = .function)
    (hnames : ∀ y ∈ scope.names, y.2 = .local → scope.names.lookup y.1 = some .local) (hx : scope.names.lookup z = some .local) (hs : ∀ x, foldedSetIterable iter env x = pure x)
    (h : wpAny (MO w) A (eval iter env) (CompOf w A h₀ L m env elt z scope cl fun ys nx s₂ => ∀ D s', Sm s₂ s' → Fr h₀ L s'.heap m → News h₀ L s'.heap ((D, LCg.lst ys) :: nx) → (∀ p ∈ nx, p.1 ≠ D) → Q (.ref D) s') E s) :
    wpAny (MO w) A (eval (.ListComp elt [⟨.Name z px, iter, [], 0⟩] scope pos) env) Q E s := by
  rw [eval_ListComp]
  refine wpAny_comprehension_free (use := none) rfl hs hclos hkind hnames (wpAny_mono h (fun xv s₁ h₁ => ?_) fun _ _ e => e)
  obtain ⟨news, fx, kp, n, P, hsz, hkp, it, R⟩ := h₁
  refine it _ _ fun I St s₂ W hIo hSt st hlt hLI hI₀ off S₂ F' N' => ?_
  refine LCg.block_U W hsz hIo (fun i h h' o nw st e e' _ k1 k2 => hSt i h h' o nw st e e' k1 k2) hcell hkind hx st hlt F' N' hLI hI₀ off hkp (R s₂ S₂) ?_
  intro D C h tk m' ys news' F'' N'' o1 hn hC₀ hD₀ hCL hDL hCD offC fin
  refine ⟨m', hn, fun h'' hs'' => fin D _ .mk' (F''.change hs'' hCL hC₀) (fun p hp => ?_) ?_⟩
  · refine ⟨hs''.extBut _ _ ?_ (N'' p hp).1, (N'' p hp).2⟩
    rcases List.mem_cons.mp hp with rfl | hp
    · exact Ne.symm hCD
    · exact offC p hp
  · exact off1_mem _ o1
end
end
noncomputable section
section
variable {w : World} {A : Around} {E : Value → Shared → Prop} {s : Shared} {h₀ : Heap} {L a : Addr} {m mg mb : Str → Option Value} {mean : ExcName → Option Value} {l : List (Str × Option Value)} {cn : Str} {cs : Scope} {ccd : Value} {cl : List (Str × Addr)} {news : List (Addr × Obj)} {e f : Expr} {x y : Int} {p q r : Pos} {v : Value} {env : Env}
local macro_rules | `(tactic| walk_at $s:str) => `(tactic| k_extra $s)
/-- b[e:f] -/
theorem px_cut {z : Str} {b : Array UInt8} {t : Tok} {ks : List Int} {i j : Nat} {p2 p3 : Pos} {Q : Value → Shared → Prop} (G : Gr w mean mg mb h₀) (F : Fr h₀ L s.heap (lk l)) (N : News h₀ L s.heap news) (hv : lk l z = some (.bytes b t)) (hb : KBw.bInts b = ks) (hn : ks.length ≤ 1000) (hx : Loc cs z) (pa : PV cs l e x) (pb : PV cs l f y) (hxy : x = (i : Int) ∧ y = (j : Int)) (hij : i ≤ j ∧ j ≤ ks.length)
    (hs : ∀ k, subscripted (.Slice (some e) (some f) none p2) false (.bytes b t) (.ref k) = operate [.ref k, .bytes b t] (getItem (.bytes b t) (.ref k)))
    (k : ∀ c t' s', Sm s s' → KBw.bInts c = (ks.drop i).take (j - i) → Fr h₀ L s'.heap (lk l) → News h₀ L s'.heap news → Q (.bytes c t') s') :
    wpAny (MO w) A (eval (.Subscript (.Name z p) (.Slice (some e) (some f) none p2) p3) (envX cn cs L a ccd cl)) Q E s := by
  obtain ⟨rfl, rfl⟩ := hxy
  refine Subscript_ (px_name F hv hx (wpAny_Slice (evalPart_some_step (pa _ A _ E _ _ (okV G F) fun t1 k1 => evalPart_some_step (pb _ A _ E _ _ (okV G F) fun t2 k2 => evalPart_none_step ?_)))))
  have e1 : ks = ks.take i ++ (ks.drop i).take (j - i) ++ ks.drop j := by
    rw [List.append_assoc, show ks.drop j = (ks.drop i).drop (j - i) from by rw [List.drop_drop, Nat.add_sub_cancel' hij.1], List.take_append_drop, List.take_append_drop]
  refine nt_slice (s := ⟨_, _, _, _, _⟩) F N hb (by constructor) (by constructor) e1 (by rw [List.length_take, Nat.min_eq_left (Nat.le_trans hij.1 hij.2)]; exact nt_clip_nat _ _ (Nat.le_trans hij.1 hij.2)) ?_ (Nat.le_trans hn (by decide)) ?_ (hs _) (by intro _; with_unfolding_all rfl)
  · show clipAt _ _ = _
    rw [nt_clip_nat _ _ hij.2, List.length_take, List.length_take, List.length_drop, Nat.min_eq_left (Nat.le_trans hij.1 hij.2), Nat.min_eq_left (Nat.sub_le_sub_right hij.2 i), Nat.add_sub_cancel' hij.1]
  · intro c h' t' k' F' N' hc
    exact k _ _ _ .mk' hc F' N'
end
end
noncomputable section
section
variable {w : World} {A : Around} {E : Value → Shared → Prop} {s : Shared} {h₀ : Heap} {L a : Addr} {m mg mb : Str → Option Value} {mean : ExcName → Option Value} {l : List (Str × Option Value)} {cn : Str} {cs : Scope} {ccd : Value} {cl : List (Str × Addr)} {news : List (Addr × Obj)} {e f g : Expr} {x y : Int} {p q r : Pos} {v : Value} {env : Env} {Ok : World → Env → Heap → Prop}
/-- a range as a source -/
noncomputable def RangeSrc (w : World) (A : Around) (h₀ : Heap) (L : Addr) (m : Str → Option Value) (news : List (Addr × Obj)) (n : Nat) (x c : Int) (s : Shared) (xv : Value) (s₁ : Shared) : Prop :=
  ItSrc w A h₀ L m news [] [] n (fun i v => IsI (x + (i : Int) * c) v) xv s₁ ∧ Sm s s₁
theorem px_range1 {n : Nat} (G : Gr w mean mg mb h₀) (F : Fr h₀ L s.heap m) (N : News h₀ L s.heap news) (hh : A.handled = none) (hg : Glo cs "range") (ok : Ok w (envX cn cs L a ccd cl) s.heap) (pa : PG Ok e x) (hx : x = n) (hn : n ≤ 1000) (hst : ∀ env, starEach [e] env = (false, eval e env) :: starEach [] env) :
    wpAny (MO w) A (eval (.Call (.Name "range" p) [e] [] q) (envX cn cs L a ccd cl)) (RangeSrc w A h₀ L m news n 0 1 s) E s := by
  subst hx
  refine Call_ (nameX_B F G.X (topRead_of G.T) rfl (by decide +kernel : bootBuiltins "range" = some (.type "range")) (by decide) ?_ hg.of.1.1 hg.of.1.2 rfl)
  refine callWith_type1 (args_cons (pa _ A _ E _ _ ok fun t1 k1 => args_nil (call_range_1 ?_)) (hst _)) (hst _) rfl
  exact ⟨it_range hh (nt_push F N rfl).1 (fun p hp => (nt_push F N rfl).2 p (.tail _ hp)) (Heap.get?_push_size _ rfl) (small_one (by decide) (by decide) (by (first | lia | omega)) (by (first | lia | omega))) (by rw [rangeSize_nat, Int.sub_zero, Int.toNat_natCast]), .mk'⟩
theorem px_range3 {z c : Int} {n : Nat} (G : Gr w mean mg mb h₀) (F : Fr h₀ L s.heap m) (N : News h₀ L s.heap news) (hh : A.handled = none) (hg : Glo cs "range") (ok : Ok w (envX cn cs L a ccd cl) s.heap) (pa : PG Ok e x) (pb : PG Ok f y) (pc : PG Ok g z) (hz : z = c ∧ c ≠ 0 ∧ c.natAbs.log2 < 9000) (hsm : Builtin.Range.small x y c = true) (hn : Builtin.Range.rangeSize x y c = (n : Int))
    (hst : ∀ env, starEach [e, f, g] env = (false, eval e env) :: starEach [f, g] env ∧ starEach [f, g] env = (false, eval f env) :: starEach [g] env ∧ starEach [g] env = (false, eval g env) :: starEach [] env) :
    wpAny (MO w) A (eval (.Call (.Name "range" p) [e, f, g] [] q) (envX cn cs L a ccd cl)) (RangeSrc w A h₀ L m news n x c s) E s := by
  obtain ⟨rfl, hc, hc9⟩ := hz
  refine Call_ (nameX_B F G.X (topRead_of G.T) rfl (by decide +kernel : bootBuiltins "range" = some (.type "range")) (by decide) ?_ hg.of.1.1 hg.of.1.2 rfl)
  refine callWith_type1 (args_cons (pa _ A _ E _ _ ok fun t1 k1 => args_cons (pb _ A _ E _ _ ok fun t2 k2 => args_cons (pc _ A _ E _ _ ok fun t3 k3 => args_nil (call_range_3 hc ?_ (Or.inl (PyProof.noPylong_of_log2 hc9)))) (hst _).2.2) (hst _).2.1) (hst _).1) (hst _).1 (by rw [(hst _).2.1, (hst _).2.2]; rfl)
  exact ⟨it_range hh (nt_push F N rfl).1 (fun p hp => (nt_push F N rfl).2 p (.tail _ hp)) (Heap.get?_push_size _ rfl) hsm hn, .mk'⟩
/-- what a comprehension's element sees: its own variable, cells and the ground -/
noncomputable def OkC (rs : Scope) (cl : List (Str × Addr)) (z : Str) (v : Value) (cells : List (Addr × Obj)) (w : World) (env : Env) (h : Heap) : Prop :=
  ∃ sc C oC m₂ env₀ h₀ L m mean mg mb, env = compEnvC sc cl C env₀ ∧ relabel sc env₀ = rs ∧ env₀.globals = mainGlobals ∧ env₀.builtins = builtinsNs ∧ Gr w mean mg mb h₀ ∧ Fr h₀ L h m ∧ News h₀ L h ((C, oC) :: cells) ∧ LCg.NsObj oC m₂ ∧ m₂ z = some v
theorem pc_own {rs : Scope} {z : Str} {t : Tok} {cells : List (Addr × Obj)} (hz : Loc rs z) : PG (OkC rs cl z (.int x t) cells) (.Name z p) x := by
  rintro w A _ E Q s ⟨sc, C, oC, m₂, env₀, h₀, L, m, mean, mg, mb, rfl, rfl, hg, hb, G, F, N, hC, hx⟩ k
  exact LCgL.ld_own N (.head _) hC hx (k t s.toks) hz.of.1.1 hz.of.1.2 hz.of.2
theorem pc_cell {rs : Scope} {z u : Str} {c : Addr} {o : Obj} {t : Tok} {cells : List (Addr × Obj)} (hc : cl.lookup u = some c) (hm : (c, o) ∈ cells) (hd : o.data = .cell (some (.int x t))) (hu : nameIs .cell rs u = true) : PG (OkC rs cl z v cells) (.Name u p) x := by
  rintro w A _ E Q s ⟨sc, C, oC, m₂, env₀, h₀, L, m, mean, mg, mb, rfl, rfl, hg, hb, G, F, N, hC, hx⟩ k
  exact kcf_cell N hc (.tail _ hm) hd (k t s.toks) (nameIs_of hu).1.1 (nameIs_of hu).1.2 (nameIs_of hu).2
/-- a comprehension whose elements are ints told by pure expressions -/
theorem comp_pure {elt : Expr} {z : Str} {scope rs : Scope} {K : List Value → List (Addr × Obj) → Prop} {n : Nat} {cells : List (Addr × Obj)} {P : Nat → Value → Prop} (kf g : Nat → Int) (G : Gr w mean mg mb h₀) (hP : ∀ i v, P i v → IsI (kf i) v) (hrs : relabel scope env = rs ∧ env.globals = mainGlobals ∧ env.builtins = builtinsNs) (hcells : ∀ p ∈ cells, p ∈ news) {kp : List (Addr × Obj)} (hkp : ∀ p ∈ kp, p ∈ news)
    (turn : ∀ i t, i < n → PG (OkC rs cl z (.int (kf i) t) cells) elt (g i))
    (fin : ∀ ys, IntsAre ys ((List.range n).map g) → K ys news) :
    LCg.CompRest PySem.Challenge.rw_nt0271_01.row.prog w A h₀ L m env elt z scope cl s (fun nx => ∀ p ∈ kp, p ∈ nx) P K n 0 [] news := by
  refine comp_run (fun i ys nx => nx = news ∧ IntsAre ys ((List.range i).map g)) ⟨rfl, .nil⟩ (by rintro _ _ _ ⟨rfl, _⟩; exact hkp) ?_ (by rintro ys _ ⟨rfl, hy⟩; exact fin ys hy)
  rintro i v C oC m₂ ys _ own s₁ Q' E' hi hv ⟨rfl, hy⟩ hCo hC hx S F N off k
  obtain ⟨t, rfl⟩ := hP i v hv
  refine turn i t hi _ _ _ _ _ _ ⟨_, C, oC, m₂, env, h₀, L, m, mean, mg, mb, rfl, hrs.1, hrs.2.1, hrs.2.2, G, F, fun p hp => ?_, hC, hx⟩ fun t' tk' => ?_
  · rcases List.mem_cons.1 hp with rfl | hp
    · exact N _ (List.mem_append_right _ hCo)
    · exact N _ (List.mem_append_left _ (hcells p hp))
  · exact k _ _ _ .mk' F N rfl ⟨rfl, by rw [List.range_succ, List.map_append]; exact hy.append (.cons _ _ .nil)⟩
theorem IL.lst {ys : List Value} {ks : List Int} (h : IntsAre ys ks) : IL ks (LCg.lst ys) := ⟨ys, ys.length, rfl, h⟩
end
end
noncomputable section
section
variable {w : World} {mg mb : Str → Option Value} {mean : ExcName → Option Value} {dp un : Nat} {gd : Option (List Code)} {cn : Str} {cs : Scope} {a : Addr} {ccd : Value} {cl : List (Str × Addr)} {outer : List Env} {A₀ : Around} {base h₀ : Heap} {L : Addr} {m : Str → Option Value} {news : List (Addr × Obj)} {s : Shared} {Q E : Value → Shared → Prop}
/-- the slots that a call's arguments fill, but for the cells -/
noncomputable def bindLs (k : Str → Option NameKind) : List (Str × Value) → List (Str × Option Value) → List (Str × Option Value)
  | [], l => l
  | (n, v) :: r, l => bindLs k r (if k n = some .local then setL n v l else l)
theorem bindL_lk {k : Str → Option NameKind} : ∀ (b : List (Str × Value)) (l : List (Str × Option Value)), bindL k b (lk l) = lk (bindLs k b l)
  | [], _ => rfl
  | (n, v) :: r, l => by
    unfold bindL bindLs
    by_cases h : k n = some .local
    · rw [if_pos h, if_pos h, lk_set, bindL_lk r]
    · rw [if_neg h, if_neg h, bindL_lk r]
theorem nt_enterC {name qual : Str} {params : Arguments} {body : List Stmt} {scope : Scope} {dV kV doc pm cdv ct oc : Value} {an od : Option Addr} {osl : Array (Option Value)} {f : Addr} {args : List Value} {binds : List (Str × Value)} {ls : List (Str × Option Value)} {cm : Str → Option Value} {cls : Addr → List (Str × Addr)}
  (B : Below A₀ base outer h₀) (F : Fr h₀ L s.heap m) (X : (hd.heap_39 w.params).In h₀) (N : News h₀ L s.heap news) (T : Top hd.view_39 (looseW hd.view_39 [PySem.Str.ofString "GitError"]) mean mg mb h₀) (hk : cs.kind = .function) (k : Nat) (hdp : dp + (k + 1) < recursionLimit) (hun : un + 8 * (k + 1) < cLine)
  (hf : (hd.heap_39 w.params).lookup f = some { cls := oc, dict := od, data := .func (fnOf name qual params body scope dV kV doc pm an cdv ct), slots := osl })
  (hc : codeIn (hd.heap_39 w.params) cdv qual = true) (hb : ∀ s, BindsTo s (fnOf name qual params body scope dV kV doc pm an cdv ct) ⟨args, []⟩ binds) (ns : List Str)
  (hl : bindLs (fun z => scope.names.lookup z) binds [] ++ nons ns = ls) (hcm : bindC (fun z => scope.names.lookup z) binds (fun _ => none) = cm) (hcl : ∀ n, cellsFrom n scope.names [] = cls n)
  (hs : (binds.all fun y => List.lookup y.fst scope.names == some NameKind.local || List.lookup y.fst scope.names == some NameKind.cell) = true ∧ (List.map (fun x => x.fst) (cellsFrom 0 scope.names [])).Nodup ∧ scope.isCoroutine = false ∧ scope.isGenerator = false ∧ scope.kind = .function)
  (h : ∀ g L' s₁ Q' E' dp' un' cells, dp' + k < recursionLimit → un' + 8 * k < cLine → Fr h₀ L g m → Fr g L' s₁.heap (lk ls) → News g L' s₁.heap (cells ++ news) → CellsAre cm (cls (L' + 1)) cells → (∀ p ∈ news, p.1 < L') → Below (ktrTop dp un gd cn cs L a ccd cl outer) base (envX cn cs L a ccd cl :: outer) g → (hd.heap_39 w.params).In g → Top hd.view_39 (looseW hd.view_39 [PySem.Str.ofString "GitError"]) mean mg mb g →
    Sm s s₁ → OutQ h₀ L m Q g L' s₁ Q' → PassesOwn (MO w) (ktrTop dp' un' gd qual scope L' f cdv (cls (L' + 1)) (envX cn cs L a ccd cl :: outer)) (envX qual scope L' f cdv (cls (L' + 1))) E' →
    wpAny (MO w) (ktrTop dp' un' gd qual scope L' f cdv (cls (L' + 1)) (envX cn cs L a ccd cl :: outer)) (execs body (envX qual scope L' f cdv (cls (L' + 1)))) Q' E' s₁) :
  wpAny (model PySem.Challenge.rw_nt0271_01.row.prog w) (ktrTop dp un gd cn cs L a ccd cl outer) (call (.ref f) args) Q E s := by
  refine wpAny_call ?_
  refine code_defC B F X N T rfl rfl hk hf hc (Nat.lt_of_le_of_lt (Nat.le_add_right _ _) hdp) (hb s) hs.1 hs.2.1 ?_ hs.2.2.1 hs.2.2.2.1 hs.2.2.2.2
  intro g L' h₁ tk cells FG F' N' Y B' X' T' l1
  obtain rfl : cls = fun n => cellsFrom n scope.names [] := funext fun n => (hcl n).symm
  have F2 : Fr g L' h₁ (lk ls) := by
    rw [← hl, lk_pad (nons_none ns), ← bindL_lk]; exact F'
  show wpAny _ (ktrTop (dp + 1) (un + 3) gd qual scope L' f cdv (cellsFrom (L' + 1) scope.names []) (envX cn cs L a ccd cl :: outer)) (execs body (envX qual scope L' f cdv (cellsFrom (L' + 1) scope.names []))) _ _ _
  refine h g L' _ _ _ (dp + 1) (un + 3) cells (room1 hdp) (room3 hun) FG F2 N' (hcm ▸ Y) l1 B' X' T' .mk' ?_ ?_
  · intro v news' m' s' S F3 N3 q
    exact ⟨L', m', news', F3, N3, q⟩
  · passes_own
/-- a def with cells, as PG asks of it -/
noncomputable def OkX (cs : Scope) (cl : List (Str × Addr)) (cells : List (Addr × Obj)) (w : World) (env : Env) (h : Heap) : Prop :=
  ∃ cn L a ccd h₀, env = envX cn cs L a ccd cl ∧ News h₀ L h cells
theorem pg_cellX {cells : List (Addr × Obj)} {u : Str} {p : Pos} {x : Int} {c : Addr} {o : Obj} {t : Tok} (hc : cl.lookup u = some c) (hm : (c, o) ∈ cells) (hd : o.data = .cell (some (.int x t))) (hu : nameIs .cell cs u = true) : PG (OkX cs cl cells) (.Name u p) x := by
  rintro w A _ E Q s ⟨cn, L, a, ccd, h₀, rfl, N⟩ k
  exact nameX_C N hc hm hd (k t s.toks) (nameIs_of hu).1.1 (nameIs_of hu).1.2 (nameIs_of hu).2
theorem okX {cells : List (Addr × Obj)} {h : Heap} (N : News h₀ L h cells) : OkX cs cl cells w (envX cn cs L a ccd cl) h := ⟨_, _, _, _, _, rfl, N⟩
/-- a name stored in its cell -/
theorem px_cellset {e : Expr} {z : Str} {p pos : Pos} {A : Around} {x : Int} {c : Addr} {o : Obj} {v₀ : Option Value} {rest : List Stmt} {Ok : World → Env → Heap → Prop} {Q : Flow → Shared → Prop} (F : Fr h₀ L s.heap m) (N : News h₀ L s.heap ((c, o) :: news)) (hc : cl.lookup z = some c) (hn : ∀ p ∈ news, p.1 ≠ c) (hd : o.data = .cell v₀) (ok : Ok w (envX cn cs L a ccd cl) s.heap) (pa : PG Ok e x)
    (hz : nameIs .cell cs z = true) (hs : ∀ env, swapsWith e (some (.Name z p)) pos.line env = pure false)
    (k : ∀ s' o' t, Sm s s' → Fr h₀ L s'.heap m → News h₀ L s'.heap ((c, o') :: news) → o'.data = .cell (some (.int x t)) → wpAny (MO w) A (execs rest (envX cn cs L a ccd cl)) Q E s') :
    wpAny (MO w) A (execs (.Assign [.Name z p] e pos :: rest) (envX cn cs L a ccd cl)) Q E s := by
  refine wpAny_execs_cons (wpAny_Assign_Name (pa _ A _ E _ _ ok fun t tk => ?_) (hs _))
  exact storeX_C F N hc (.head hn) hd (fun h' o' F' N' hd' => k _ o' t .mk' F' N' hd') (nameIs_of hz).1.1 (nameIs_of hz).1.2
end
end
noncomputable section
section
variable {w : World} {A : Around} {E : Value → Shared → Prop} {s : Shared} {h₀ : Heap} {L a : Addr} {m mg mb : Str → Option Value} {mean : ExcName → Option Value} {l : List (Str × Option Value)} {cn : Str} {cs : Scope} {ccd : Value} {cl : List (Str × Addr)} {news : List (Addr × Obj)} {e f g : Expr} {x y : Int} {p q r : Pos} {v : Value} {env : Env}
/-- what is asked behind the two values of a pair -/
noncomputable def PairK (w : World) (A : Around) (E : Value → Shared → Prop) (h₀ : Heap) (L : Addr) (l : List (Str × Option Value)) (K : Value → Value → Shared → List (Addr × Obj) → Prop) (v1 v2 : Value) (s₂ : Shared) : Prop :=
  ∃ news₁, Fr h₀ L s₂.heap (lk l) ∧ News h₀ L s₂.heap news₁ ∧ ∀ s₃, Sm s₂ s₃ → K v1 v2 s₃ news₁
section
variable {z u : Str} {k k2 : Nat} {pos tp p2 : Pos} {rest : List Stmt} {Q : Flow → Shared → Prop} {l' : Value → Value → List (Str × Option Value)} (_F : Fr h₀ L s.heap (lk l)) (hh : A.handled = none) (hz : Loc cs z) (hu : Loc cs u) (hl : ∀ v1 v2, setL u v2 (setL z v1 l) = l' v1 v2) (hl2 : ∀ v1 v2, setL z v1 (setL u v2 l) = l' v1 v2)
  (hst : ∀ env, starEach [e, f] env = (false, eval e env) :: starEach [f] env ∧ starEach [f] env = (false, eval f env) :: starEach [] env)
  (hs : swapsWithSole [.Tuple [.Name z p, .Name u q] k tp] (.Tuple [e, f] k2 p2) pos.line (envX cn cs L a ccd cl) = pure false)
  (h : wpAny (MO w) A (eval e (envX cn cs L a ccd cl)) (fun v1 s₁ => wpAny (MO w) A (eval f (envX cn cs L a ccd cl)) (PairK w A E h₀ L l (fun v1 v2 s₃ nx => Fr h₀ L s₃.heap (lk (l' v1 v2)) → News h₀ L s₃.heap nx → wpAny (MO w) A (execs rest (envX cn cs L a ccd cl)) Q E s₃) v1) E s₁) E s)
include _F hh hz hu hl hl2 hst hs h
/-- z, u = e, f -/
theorem px_pair (hw : swappedStores [.Tuple [.Name z p, .Name u q] k tp] (.Tuple [e, f] k2 p2) (envX cn cs L a ccd cl) = pure none) :
    wpAny (MO w) A (execs (.Assign [.Tuple [.Name z p, .Name u q] k tp] (.Tuple [e, f] k2 p2) pos :: rest) (envX cn cs L a ccd cl)) Q E s := by
  refine wpAny_execs_cons (Assign_Tuple (Tuple_ (args_cons (wpAny_mono h (fun v1 s₁ h₁ => args_cons (wpAny_mono h₁ (fun v2 s₂ h₂ => args_nil ?_) fun _ _ x => x) (hst _).2) fun _ _ x => x) (hst _).1)) hs hw)
  obtain ⟨nx, F, N, k9⟩ := h₂
  refine newTuple_N F N (fun h' F' N' => unpackN_ F' N' (items := #[v1, v2]) ?_ hh rfl rfl fun h'' F'' N'' => ?_) (by size_fits)
  · exact ⟨_, (N' _ (.head _)).1, rfl, _, rfl⟩
  · refine assignInOrder_cons (assign_Name (px_store F'' N'' rfl (fun s₄ S₄ F₄ N₄ => assignInOrder_cons (assign_Name (px_store F₄ N₄ rfl (fun s₅ S₅ F₅ N₅ => assignInOrder_nil ?_) hu))) hz))
    rw [hl] at F₅
    exact k9 _ (Sm.trans .mk' (S₄.trans S₅)) F₅ fun p hp => N₅ p (.tail _ hp)
theorem px_pairS (hw : swappedStores [.Tuple [.Name z p, .Name u q] k tp] (.Tuple [e, f] k2 p2) (envX cn cs L a ccd cl) = pure (some [z, u])) :
    wpAny (MO w) A (execs (.Assign [.Tuple [.Name z p, .Name u q] k tp] (.Tuple [e, f] k2 p2) pos :: rest) (envX cn cs L a ccd cl)) Q E s := by
  refine wpAny_execs_cons (Assign_Tuple_swapped (Tuple_ (args_cons (wpAny_mono h (fun v1 s₁ h₁ => args_cons (wpAny_mono h₁ (fun v2 s₂ h₂ => args_nil ?_) fun _ _ x => x) (hst _).2) fun _ _ x => x) (hst _).1)) hs hw)
  obtain ⟨nx, F, N, k9⟩ := h₂
  refine newTuple_N F N (fun h' F' N' => unpackItemsN_ F' N' (items := #[v1, v2]) ?_ hh rfl fun h'' F'' N'' => ?_) (by size_fits)
  · exact ⟨_, (N' _ (.head _)).1, rfl, _, rfl⟩
  · refine assignInOrder_cons (bindName_ (px_store F'' N'' rfl (fun s₄ S₄ F₄ N₄ => assignInOrder_cons (bindName_ (px_store F₄ N₄ rfl (fun s₅ S₅ F₅ N₅ => assignInOrder_nil ?_) hz))) hu))
    rw [hl2] at F₅
    exact k9 _ (Sm.trans .mk' (S₄.trans S₅)) F₅ fun p hp => N₅ p (.tail _ hp)
end
/-- z = [.. for ..] -/
theorem px_compSet {elt iter : Expr} {x y : Str} {px py : Pos} {scope : Scope} {cl2 : List (Str × Addr)} {pos spos : Pos} {rest : List Stmt} {Q : Flow → Shared → Prop} {l' : Value → List (Str × Option Value)} (_F : Fr h₀ L s.heap (lk l))
    (hsw : swapsWith (.ListComp elt [⟨.Name x px, iter, [], 0⟩] scope pos) (some (.Name y py)) spos.line (envX cn cs L a ccd cl) = pure true)
    (hclos : closureFor scope (envX cn cs L a ccd cl) = pure cl2) (hcell : ∀ z ∈ scope.names, z.2 ≠ .cell) (hkind : scope.kind = .function)
    (hnames : ∀ z ∈ scope.names, z.2 = .local → scope.names.lookup z.1 = some .local) (hx : scope.names.lookup x = some .local)
    (hy : Loc cs y) (hl : ∀ v, setL y v l = l' v) (hs : ∀ x, foldedSetIterable iter (envX cn cs L a ccd cl) x = pure x)
    (h : wpAny (MO w) A (eval iter (envX cn cs L a ccd cl)) (CompOf w A h₀ L (lk l) (envX cn cs L a ccd cl) elt x scope cl2 fun ys nx s₂ => ∀ D s', Sm s₂ s' → Fr h₀ L s'.heap (lk (l' (.ref D))) → News h₀ L s'.heap ((D, LCg.lst ys) :: nx) → (∀ p ∈ nx, p.1 ≠ D) → wpAny (MO w) A (execs rest (envX cn cs L a ccd cl)) Q E s') E s) :
    wpAny (MO w) A (execs (.Assign [.Name y py] (.ListComp elt [⟨.Name x px, iter, [], 0⟩] scope pos) spos :: rest) (envX cn cs L a ccd cl)) Q E s := by
  refine wpAny_execs_cons ?_
  rw [exec_Assign_Name_used _ _ _ _ hsw]
  refine wpAny_bind (wpAny_standAt (wpAny_bind ?_))
  show wpAny _ A (do let _ ← comprehension (.ListComp elt [⟨.Name x px, iter, [], 0⟩] scope pos) scope (envX cn cs L a ccd cl) _ (newList []) false (eval iter (envX cn cs L a ccd cl)) (some (assign (.Name y py) (envX cn cs L a ccd cl)))) _ _ s
  refine wpAny_bind (wpAny_mono (wpAny_comprehension_free (use := some (assign (.Name y py) (envX cn cs L a ccd cl))) (Q := fun _ s' => wpAny (MO w) A (execs rest (envX cn cs L a ccd cl)) Q E s') rfl hs hclos hkind hnames
    (wpAny_mono h (fun xv s₁ h₁ => ?_) fun _ _ e => e)) (fun _ s' hq => wpAny_pure (wpAny_pure hq)) fun _ _ e => e)
  obtain ⟨news, fx, kp, n, P, hsz, hkp, it, R⟩ := h₁
  refine it _ _ fun I St s₂ W hIo hSt st hlt hLI hI₀ off S₂ F' N' => ?_
  refine LCg.block_U W hsz hIo (fun i h h' o nw st e e' _ k1 k2 => hSt i h h' o nw st e e' k1 k2) hcell hkind hx st hlt F' N' hLI hI₀ off hkp (R s₂ S₂) ?_
  intro D C h tk m' ys news' F' N' o1 hn hC₀ hD₀ hCL hDL hCD offC fin
  show wpAny _ A (assign (.Name y py) (envX cn cs L a ccd cl) (.ref D)) _ _ _
  refine wpAny_assign_Name (wpAny_storeName_local hy.of.1.2 F'.ns (fun h₂ hn₂ hs₂ => ?_) (by show (cs.kind == .class || (cs.kind == .module && _)) = false; rw [hy.of.1.1]; rfl))
  have hL₀ : h₀.get? L = none := Heap.get?_none_of_le F'.above
  have F₂ : Fr h₀ L h₂ (lk (l' (.ref D))) := by rw [← hl, ← lk_set]; exact ⟨hn₂, fun b o e => hs₂.extBut b o (fun q => by rw [q, hL₀] at e; cases e) (F'.keep b o e), F'.above⟩
  refine ⟨m', hn.sameBut hs₂ hCL, fun h'' hs'' => fin D _ .mk' (F₂.change hs'' hCL hC₀) (fun p hp => ?_) (off1_mem _ o1)⟩
  have z : h₂.get? p.1 = some p.2 := hs₂.extBut _ _ (N' p hp).2.1 (N' p hp).1
  refine ⟨hs''.extBut _ _ ?_ z, (N' p hp).2⟩
  rcases List.mem_cons.mp hp with rfl | hp
  · exact Ne.symm hCD
  · exact offC p hp
end
end
noncomputable section
section
variable {w : World} {A : Around} {E : Value → Shared → Prop} {s : Shared} {h₀ : Heap} {L a : Addr} {m mg mb : Str → Option Value} {mean : ExcName → Option Value} {l : List (Str × Option Value)} {cn : Str} {cs : Scope} {ccd : Value} {cl : List (Str × Addr)} {news : List (Addr × Obj)} {e f g : Expr} {x y : Int} {p q r : Pos} {v : Value} {env : Env}
theorem nw_cons {h : Heap} {o : Addr × Obj} (a : h.get? o.1 = some o.2 ∧ o.1 ≠ L ∧ h₀.get? o.1 = none) (N : News h₀ L h news) : News h₀ L h (o :: news) := fun p hp => by
  rcases List.mem_cons.1 hp with rfl | hp
  · exact a
  · exact N p hp
theorem ints_at {vs : List Value} {ks : List Int} (h : IntsAre vs ks) (i : Nat) (v : Value) (hv : vs[i]? = some v) : ∃ k, ks[i]? = some k ∧ IsI k v := by
  induction h generalizing i with
  | nil => cases hv
  | cons n t _ ih =>
    cases i with
    | zero => cases hv; exact ⟨n, rfl, t, rfl⟩
    | succ i => exact ih i hv
/-- a list of the ledger as a source -/
theorem it_list {D : Addr} {o : Obj} {ks : List Int} (hh : A.handled = none) (F : Fr h₀ L s.heap m) (N : News h₀ L s.heap ((D, o) :: news)) (I : IL ks o) :
    ItSrc w A h₀ L m ((D, o) :: news) [D] [(D, o)] ks.length (fun i v => ∃ k, ks[i]? = some k ∧ IsI k v) (.ref D) s := fun Q E k => by
  obtain ⟨vs, hl, hi⟩ := I.list N
  have hs := (N _ (.head _)).1
  have hne : D ≠ s.heap.objs.size := Nat.ne_of_lt (Heap.lt_size hs)
  have W0 := Walks.list (prog := PySem.Challenge.rw_nt0271_01.row.prog) (w := w) hh s.heap.objs.size D hne vs.toArray
  have hlen : vs.toArray.size = ks.length := by simp [hi.length]
  rw [hlen] at W0
  have W : Walks PySem.Challenge.rw_nt0271_01.row.prog w A s.heap.objs.size [s.heap.objs.size, D] [s.heap.objs.size] ks.length (fun i v => ∃ k, ks[i]? = some k ∧ IsI k v) _ :=
    { sub := W0.sub, frame := W0.frame, done := W0.done, self := W0.self,
      item := fun i s Q E hi' st hQ => W0.item i s Q E hi' st fun v h' tk hP => hQ v h' tk (ints_at hi i v (by simpa using hP)) }
  refine wpAny_pyIter_list hl (it_push F N rfl W (fun b hb => by rw [List.mem_singleton.1 hb]; exact Heap.lt_size hs) (fun i h st => ?_) (fun i h h' o' nw st e e' N' hk => ?_) ?_ k)
  · obtain ⟨o1, e1, _⟩ := st.1
    exact ⟨o1, e1⟩
  · exact ⟨st.1.at fun o1 e1 => (by rw [e] at e1; cases e1; exact e'), ⟨_, (N' _ (hk _ (.head _))).1, (by obtain ⟨_, n, rfl, _⟩ := I; rfl), (by
      obtain ⟨o1, e1, h1, h2⟩ := hl
      rw [hs] at e1; cases e1; exact h2)⟩⟩
  · exact ⟨⟨_, Heap.get?_push_size _ rfl, rfl, rfl⟩, hl.at fun o1 e1 => Heap.get?_push_of_some _ e1⟩
local macro_rules | `(tactic| walk_at $s:str) => `(tactic| k_extra $s)
/-- found[:-1] and found[-1:] -/
theorem px_most {z : Str} {D : Addr} {o : Obj} {ks : List Int} {p2 p3 p4 p5 : Pos} {k9 : Nat} {Q : Value → Shared → Prop} (G : Gr w mean mg mb h₀) (F : Fr h₀ L s.heap (lk l)) (N : News h₀ L s.heap ((D, o) :: news)) (hv : lk l z = some (.ref D)) (I : IL ks o) (hn : ks.length ≤ 1000) (hx : Loc cs z)
    (k : ∀ D' o' s', Sm s s' → IL (ks.take (ks.length - 1)) o' → Fr h₀ L s'.heap (lk l) → News h₀ L s'.heap ((D', o') :: (D, o) :: news) → Q (.ref D') s') :
    wpAny (MO w) A (eval (.Subscript (.Name z p) (.Slice none (some (.UnaryOp .USub (.Constant (.int 1) k9 p2) p3)) none p4) p5) (envX cn cs L a ccd cl)) Q E s := by
  obtain ⟨vs, n, rfl, i⟩ := I
  have hvs := i.length
  obtain ⟨X, T⟩ := id G
  w_top off; revert X; k_fill; intro X
  k_with_none
  (k_with "eval Name" => refine px_name F hv hx ?_)
  (k_with "subscriptTail Name Slice ref ref" => (k_here; k_dflt (refine' kmk_slice_ints (by k_asm) (by k_asm) (by kmk_list) (by kmk_part) (by kmk_part) (by l_ints) (by first | exact kmk_upto_neg (by assumption) (by decide) | exact kmk_from_neg (by assumption) (by decide)) rfl ?_ (by with_unfolding_all rfl) (by kmk_pure) (by exact kmk_sz (by assumption) (by (try simp only [List.length_map, rangeKs_length, downKs_length]); rw [PySem.sizeLine_eq]; (first | lia | omega)))); intro D' ws' h' F' N' l1 hI' hC' hL'; (try simp only [Int.reduceNeg, Int.neg_neg, Int.reduceToNat] at hI' hC' hL'); (try k_lt l1)))
  k_steps
  exact k _ _ _ .mk' ⟨_, _, rfl, by assumption⟩ (by assumption) (by assumption)
theorem px_last {z : Str} {D : Addr} {o : Obj} {ks : List Int} {p2 p3 p4 p5 : Pos} {k9 : Nat} {Q : Value → Shared → Prop} (G : Gr w mean mg mb h₀) (F : Fr h₀ L s.heap (lk l)) (N : News h₀ L s.heap ((D, o) :: news)) (hv : lk l z = some (.ref D)) (I : IL ks o) (hn : ks.length ≤ 1000) (hx : Loc cs z)
    (k : ∀ D' o' s', Sm s s' → IL (ks.drop (ks.length - 1)) o' → Fr h₀ L s'.heap (lk l) → News h₀ L s'.heap ((D', o') :: (D, o) :: news) → Q (.ref D') s') :
    wpAny (MO w) A (eval (.Subscript (.Name z p) (.Slice (some (.UnaryOp .USub (.Constant (.int 1) k9 p2) p3)) none none p4) p5) (envX cn cs L a ccd cl)) Q E s := by
  obtain ⟨vs, n, rfl, i⟩ := I
  have hvs := i.length
  obtain ⟨X, T⟩ := id G
  w_top off; revert X; k_fill; intro X
  k_with_none
  (k_with "eval Name" => refine px_name F hv hx ?_)
  (k_with "subscriptTail Name Slice ref ref" => (k_here; k_dflt (refine' kmk_slice_ints (by k_asm) (by k_asm) (by kmk_list) (by kmk_part) (by kmk_part) (by l_ints) (by first | exact kmk_upto_neg (by assumption) (by decide) | exact kmk_from_neg (by assumption) (by decide)) rfl ?_ (by with_unfolding_all rfl) (by kmk_pure) (by exact kmk_sz (by assumption) (by (try simp only [List.length_map, rangeKs_length, downKs_length]); rw [PySem.sizeLine_eq]; (first | lia | omega)))); intro D' ws' h' F' N' l1 hI' hC' hL'; (try simp only [Int.reduceNeg, Int.neg_neg, Int.reduceToNat] at hI' hC' hL'); (try k_lt l1)))
  k_steps
  exact k _ _ _ .mk' ⟨_, _, rfl, by assumption⟩ (by assumption) (by assumption)
/-- two lists put together -/
theorem nt_addl {D1 D2 : Addr} {o1 o2 : Obj} {ks1 ks2 : List Int} {Q : Value → Shared → Prop} (G : Gr w mean mg mb h₀) (hh : A.handled = none) (F : Fr h₀ L s.heap m) (N : News h₀ L s.heap ((D2, o2) :: (D1, o1) :: news)) (I1 : IL ks1 o1) (I2 : IL ks2 o2) (hn : ks1.length ≤ 1000 ∧ ks2.length ≤ 1000)
    (k : ∀ D' o' s', Sm s s' → IL (ks1 ++ ks2) o' → Fr h₀ L s'.heap m → News h₀ L s'.heap ((D', o') :: (D2, o2) :: (D1, o1) :: news) → Q (.ref D') s') :
    wpAny (MO w) A (binaryOp .Add (.ref D1) (.ref D2)) Q E s := by
  obtain ⟨vs1, n1, rfl, i1⟩ := I1
  obtain ⟨vs2, n2, rfl, i2⟩ := I2
  have hv1 := i1.length
  have hv2 := i2.length
  obtain ⟨X, T⟩ := id G
  w_top off; revert X; k_fill; intro X
  k_with_none
  k_steps
  exact k _ _ _ .mk' ⟨_, _, rfl, by assumption⟩ (by assumption) (by assumption)
end
end
noncomputable section
section
variable {w : World} {mg mb : Str → Option Value} {mean : ExcName → Option Value} {dp un : Nat} {gd : Option (List Code)} {cn : Str} {cs : Scope} {a : Addr} {ccd : Value} {A₀ : Around} {base h₀ : Heap} {L : Addr} {m : Str → Option Value} {news : List (Addr × Obj)} {s : Shared} {Q E : Value → Shared → Prop}
/-- the way back out of a body that catches: the caller's frame may have other slots -/
noncomputable def OutS (h₀ : Heap) (L : Addr) (m : Str → Option Value) (Q : Value → Shared → Prop) (fs : List Addr) (g : Heap) (L' : Addr) (s₁ : Shared) (Q' : Flow → Shared → Prop) : Prop :=
  ∀ v news' m' g' s', Sm s₁ s' → KtsTurn fs g g' → Fr g' L' s'.heap m' → News g' L' s'.heap news' → (Fr h₀ L s'.heap m → News h₀ L s'.heap news' → Q v s') → Q' (.ret v) s'
theorem nt_enterS {name qual : Str} {params : Arguments} {body : List Stmt} {scope : Scope} {dV kV doc pm cdv ct oc : Value} {an od : Option Addr} {osl : Array (Option Value)} {f : Addr} {args : List Value} {binds : List (Str × Value)} {ls : List (Str × Option Value)}
  (B : Below A₀ base [] h₀) (F : Fr h₀ L s.heap m) (X : (hd.heap_39 w.params).In h₀) (N : News h₀ L s.heap news) (T : Top hd.view_39 (looseW hd.view_39 [PySem.Str.ofString "GitError"]) mean mg mb h₀) (hk : cs.kind = .function) (k : Nat) (hdp : dp + (k + 1) < recursionLimit) (hun : un + 8 * (k + 1) < cLine)
  (hf : (hd.heap_39 w.params).lookup f = some { cls := oc, dict := od, data := .func (fnOf name qual params body scope dV kV doc pm an cdv ct), slots := osl })
  (hc : codeIn (hd.heap_39 w.params) cdv qual = true) (hb : ∀ s, BindsTo s (fnOf name qual params body scope dV kV doc pm an cdv ct) ⟨args, []⟩ binds) (ns : List Str)
  (hl : opts binds.reverse ++ nons ns = ls)
  (hs : (binds.all fun x => decide (List.lookup x.fst scope.names = some NameKind.local)) = true ∧ scope.isCoroutine = false ∧ scope.isGenerator = false ∧ scope.kind = .function ∧ ∀ x ∈ scope.names, x.2 ≠ .cell)
  (h : ∀ g L' s₁ Q' E' dp' un', dp' + k < recursionLimit → un' + 8 * k < cLine → Fr h₀ L g m → Fr g L' s₁.heap (lk ls) → News g L' s₁.heap news → Below (ktrTop dp un gd cn cs L a ccd [] []) base [envX cn cs L a ccd []] g → (hd.heap_39 w.params).In g → Top hd.view_39 (looseW hd.view_39 [PySem.Str.ofString "GitError"]) mean mg mb g →
    KtsDicts [L] g → Sm s s₁ → OutS h₀ L m Q [L] g L' s₁ Q' → (∀ e, PassesOwnAt (MO w) (((ktrTop dp un gd cn cs L a ccd [] []).deeper (envOf qual scope L' f cdv)).mark (some (.ref e))) ((ktrTop dp un gd cn cs L a ccd [] []).deeper (envOf qual scope L' f cdv)) (envOf qual scope L' f cdv) E') →
    wpAny (MO w) ((ktrTop dp un gd cn cs L a ccd [] []).deeper (envOf qual scope L' f cdv)) (execs body (envX qual scope L' f cdv [])) Q' E' s₁) :
  wpAny (model PySem.Challenge.rw_nt0271_01.row.prog w) (ktrTop dp un gd cn cs L a ccd [] []) (call (.ref f) args) Q E s := by
  refine wpAny_call ?_
  refine code_defS0 B F X N T rfl hf hc (Nat.lt_of_le_of_lt (Nat.le_add_right _ _) hdp) (hb s) (locs hs.1) ?_ hk hs.2.1 hs.2.2.1 hs.2.2.2.1 hs.2.2.2.2
  intro g L' h₁ FG F' N' B' X' T' D'
  have F2 : Fr g L' h₁ (lk ls) := by rw [← hl, lk_pad (nons_none ns), ← lk_opts]; exact F'
  refine h g L' _ _ _ (dp + 1) (un + 3) (room1 hdp) (room3 hun) FG F2 N' B' X' T' D' .mk' ?_ ?_
  · intro v news' m' g' s' S T3 F3 N3 q
    exact ⟨g', L', m', news', T3, F3, N3, q⟩
  · intro e; passes_own
/-- try: .. except .. -/
theorem px_try {A : Around} {env : Env} {body rest : List Stmt} {h₁ : ExceptHandler} {hs : List ExceptHandler} {pos : Pos} {Q : Flow → Shared → Prop}
  (h : ∀ (Q₂ : Flow → Shared → Prop) (E₂ : Value → Shared → Prop), (∀ s', wpAny (MO w) A (execs rest env) Q E s' → Q₂ .next s') →
    (∀ e s', wpAny (MO w) A (noteFrame e env) (fun _ s₂ => wpAny (MO w) A (setFlight e none) (fun _ s₃ => wpAny (MO w) A (handleBy e env (h₁ :: hs)) (fun f s' => match f with | .next => wpAny (MO w) A (execs rest env) Q E s' | f => Q f s') E s₃) E s₂) E s' → E₂ e s') →
    wpAny (MO w) A (execs body env) Q₂ E₂ s) : wpAny (MO w) A (execs (.Try body (h₁ :: hs) [] [] pos :: rest) env) Q E s := by
  refine wpAny_execs_cons (wpAny_Try_except (h _ _ (fun s' q => ?_) fun e s' q => q))
  exact wpAny_execs_nil q
/-- the three own handlers -/
theorem px_catch3 {scope : Scope} {g : Heap} {L' a' : Addr} {cd : Value} {name : Str} {e C : Addr} {g₂ : Heap} {m' : Str → Option Value} {b1 b2 b3 : Stmt} {n1 n2 n3 p1 p2 p3 : Pos} {R1 R2 R3 : Prop} {Q : Flow → Shared → Prop} {E : Value → Shared → Prop} {s : Shared}
  (hC : C = 45 ∧ R1 ∨ C = 57 ∧ R2 ∨ C = 69 ∧ R3) (R : RaisedSN base g₂ (envOf name scope L' a' cd :: [envX cn cs L a ccd []]) e (.ref C) news s.heap) (F : Fr g L' g₂ m') (B : Below (ktrTop dp un gd cn cs L a ccd [] []) base [envX cn cs L a ccd []] g) (U : g₂.UpToSlots s.heap)
  (XB : (hd.heap_39 w.params).In base) (TB : Top hd.view_39 (looseW hd.view_39 [PySem.Str.ofString "GitError"]) mean mg mb base) (D : KtsDicts [L] g) (hg : Glo scope "BadObject" ∧ Glo scope "BadDelta" ∧ Glo scope "BadPack")
  (hE : ∀ e, PassesOwnAt (MO w) (((ktrTop dp un gd cn cs L a ccd [] []).deeper (envOf name scope L' a' cd)).mark (some (.ref e))) ((ktrTop dp un gd cn cs L a ccd [] []).deeper (envOf name scope L' a' cd)) (envOf name scope L' a' cd) E)
  (k : ∀ A' s' g' b, (R1 ∧ b = b1 ∨ R2 ∧ b = b2 ∨ R3 ∧ b = b3) → Sm s s' → KtsTurn [L] g g' → Gr w mean mg mb g' → Fr g' L' s'.heap m' → News g' L' s'.heap news → wpAny (MO w) A' (execs [b] (envX name scope L' a' cd [])) Q E s') :
  wpAny (MO w) ((ktrTop dp un gd cn cs L a ccd [] []).deeper (envOf name scope L' a' cd)) (noteFrame (.ref e) (envX name scope L' a' cd [])) (fun _ s₂ => wpAny (MO w) ((ktrTop dp un gd cn cs L a ccd [] []).deeper (envOf name scope L' a' cd)) (setFlight (.ref e) none) (fun _ s₃ =>
    wpAny (MO w) ((ktrTop dp un gd cn cs L a ccd [] []).deeper (envOf name scope L' a' cd)) (handleBy (.ref e) (envX name scope L' a' cd []) [.ExceptHandler (some (.Name "BadObject" n1)) none [b1] p1, .ExceptHandler (some (.Name "BadDelta" n2)) none [b2] p2, .ExceptHandler (some (.Name "BadPack" n3)) none [b3] p3]) Q E s₃) E s₂) E s := by
  have t1 : ∀ (cls : Value) (b : Bool), exmOne (hd.heap_39 w.params) cls (.ref 45) = some b → KtsTest PySem.Challenge.rw_nt0271_01.row.prog w (hd.heap_39 w.params) hd.view_39 (looseW hd.view_39 [PySem.Str.ofString "GitError"]) mg mb name scope L' a' cd cls (.Name "BadObject" n1) b := fun cls b h => test_name (.inl rfl) h hg.1.of.1.1 hg.1.of.1.2 rfl
  have t2 : ∀ (cls : Value) (b : Bool), exmOne (hd.heap_39 w.params) cls (.ref 57) = some b → KtsTest PySem.Challenge.rw_nt0271_01.row.prog w (hd.heap_39 w.params) hd.view_39 (looseW hd.view_39 [PySem.Str.ofString "GitError"]) mg mb name scope L' a' cd cls (.Name "BadDelta" n2) b := fun cls b h => test_name (.inl rfl) h hg.2.1.of.1.1 hg.2.1.of.1.2 rfl
  have t3 : ∀ (cls : Value) (b : Bool), exmOne (hd.heap_39 w.params) cls (.ref 69) = some b → KtsTest PySem.Challenge.rw_nt0271_01.row.prog w (hd.heap_39 w.params) hd.view_39 (looseW hd.view_39 [PySem.Str.ofString "GitError"]) mg mb name scope L' a' cd cls (.Name "BadPack" n3) b := fun cls b h => test_name (.inl rfl) h hg.2.2.of.1.1 hg.2.2.of.1.2 rfl
  refine kts_lookSN R F B U D fun h₁ R U => ?_
  rcases hC with ⟨rfl, r⟩ | ⟨rfl, r⟩ | ⟨rfl, r⟩
  · exact hit_SN0 R F B U XB TB D .refl (t1 _ _ rfl) (fun h' g' T3 F3 N3 B3 X3 P3 D3 => k _ _ g' b1 (.inl ⟨r, rfl⟩) .mk' T3 ⟨X3, P3⟩ F3 N3) (hE e)
  · refine pass_SN R F B U XB TB D (t1 _ _ rfl) fun h₂ R U => ?_
    exact hit_SN0 R F B U XB TB D .refl (t2 _ _ rfl) (fun h' g' T3 F3 N3 B3 X3 P3 D3 => k _ _ g' b2 (.inr (.inl ⟨r, rfl⟩)) .mk' T3 ⟨X3, P3⟩ F3 N3) (hE e)
  · refine pass_SN R F B U XB TB D (t1 _ _ rfl) fun h₂ R U => ?_
    refine pass_SN R F B U XB TB D (t2 _ _ rfl) fun h₃ R U => ?_
    exact hit_SN0 R F B U XB TB D .refl (t3 _ _ rfl) (fun h' g' T3 F3 N3 B3 X3 P3 D3 => k _ _ g' b3 (.inr (.inr ⟨r, rfl⟩)) .mk' T3 ⟨X3, P3⟩ F3 N3) (hE e)
end
end
noncomputable section
theorem put_size_spec {w : World} {mg mb : Str → Option Value} {mean : ExcName → Option Value} {dp un : Nat} {gd : Option (List Code)} {cn : Str} {cs : Scope} {a : Addr} {ccd : Value} {cl : List (Str × Addr)} {outer : List Env} {A₀ : Around} {base h₀ : Heap} {L : Addr} {m : Str → Option Value} {news : List (Addr × Obj)} {s : Shared} {Q E : Value → Shared → Prop}
  (B : Below A₀ base outer h₀) (F : Fr h₀ L s.heap m) (X : (hd.heap_39 w.params).In h₀) (N : News h₀ L s.heap news) (T : Top hd.view_39 (looseW hd.view_39 [PySem.Str.ofString "GitError"]) mean mg mb h₀) (hk : cs.kind = .function) (hdp : dp + 4 < recursionLimit) (hun : un + 32 < cLine)
  {x : Int} {t : Tok} (h0 : 0 ≤ x) (h1 : x < 2199023255552)
  (hret : ∀ (b : Array UInt8), KBw.bInts b = pieces x → ∀ (t : Tok) (s₂ : Shared), Sm s s₂ → Fr h₀ L s₂.heap m → News h₀ L s₂.heap news → Q (.bytes b t) s₂) :
  wpAny (model PySem.Challenge.rw_nt0271_01.row.prog w) (ktrTop dp un gd cn cs L a ccd cl outer) (call (.ref 153) [.int x t]) Q E s := by
  w_top off; revert X; k_fill; intro X; refine' nt_enter (binds := [(Str.ofString "number", .int x t)]) B F X N T hk 3 hdp hun ?hf ?hc ?hb ["found"] ?hl ?hs ?h; (case hf => k_is); (case hc => k_is); (case hb => exact fun _ => BindsTo.of_eq rfl); (case hl => exact Eq.refl [_, _]); (case hs => exact ⟨rfl, rfl, rfl, rfl, by decide⟩); intro g' L' s₁ Q' E' dp' un' hdp' hun' FG' F' N' B' X' T' S₁ hq he he2 hP'; have G : Gr w mean mg mb g' := ⟨X', T'⟩
  refine' px_let F' ?hx1 ?hl1 ?hs1 ?k1; (case hx1 => exact rfl); (case hl1 => exact fun _ => Eq.refl [_, _]); (case hs1 => exact fun _ => rfl); refine (px_list0 F' N' fun D o s₂ S₂ I₂ F₂ N₂ l₂ => ⟨_, F₂, N₂, fun s₃ S₃ F₃ N₃ => ?_⟩)
  refine wpAny_execs_cons (px_while (σ := List Int × Obj × Int × Tok) (fun c => [("number", some (.int c.2.2.1 c.2.2.2)), ("found", some (.ref D))]) (fun c => (D, c.2.1) :: news)
    (fun c => IL c.1 c.2.1 ∧ PutInv x c.1 c.2.2.1 ∧ c.1.length ≤ 5) (fun c => c.2.2.1.toNat) (_, _, _, _) F₃ N₃ hP' ⟨I₂, putInv_start' h0 h1⟩ ?_)
  rintro ⟨ks, o, n, tn⟩ s₄ Q₄ ⟨I, J, hk⟩ S₄ F₄ N₄ rt nx
  dsimp only at I J hk F₄ N₄ nx
  refine px_test G F₄ (pt_gt (pv_name (Eq.refl (some (Value.int _ _))) rfl) pv_const (fun _ => rfl)) (fun tk h => ?_) fun tk h => ?_
  · refine' px_append G F₄ N₄ ?hv4 I l₂ ?hn4 ?hx4 ?pa4 ?hst4 ?hi4 ?hm4 ?k4; (case hv4 => exact Eq.refl (some (Value.ref _))); (case hn4 => (first | lia | omega)); (case hx4 => exact rfl); (case pa4 => exact pv_or pv_const (pv_and (pv_name (Eq.refl (some (Value.int _ _))) rfl) pv_const)); (case hst4 => exact fun _ => ⟨rfl, rfl⟩); (case hi4 => exact rfl); (case hm4 => exact fun _ => rfl); intro o' s₅ S₅ I₅ F₅ N₅
    refine' px_set G F₅ N₅ ?pa8 ?hx8 ?hl8 ?hs8 ?k8; (case pa8 => exact pv_shr (pv_name (Eq.refl (some (Value.int _ _))) rfl) pv_const (by decide)); (case hx8 => exact rfl); (case hl8 => exact fun _ => Eq.refl [_, _]); (case hs8 => exact fun _ => rfl); intro s₆ t₆ S₆ F₆ N₆
    have h := of_decide_eq_true h
    exact wpAny_execs_nil (nx (_, _, n.fdiv (2 ^ Int.toNat 7), _) _ ⟨I₅, putInv_turn' J h (bitOr_128 _) (fdiv_128 _)⟩ (by show (n.fdiv (2 ^ Int.toNat 7)).toNat < n.toNat; rw [fdiv_128]; exact down_128 h) ((Sm.trans .mk' S₅).trans S₆) F₆ N₆)
  · show wpAny _ _ (execs _ _) _ _ _
    refine' px_append G F₄ N₄ ?hv5 I l₂ ?hn5 ?hx5 ?pa5 ?hst5 ?hi5 ?hm5 ?k5; (case hv5 => exact Eq.refl (some (Value.ref _))); (case hn5 => (first | lia | omega)); (case hx5 => exact rfl); (case pa5 => exact (pv_name (Eq.refl (some (Value.int _ _))) rfl)); (case hst5 => exact fun _ => ⟨rfl, rfl⟩); (case hi5 => exact rfl); (case hm5 => exact fun _ => rfl); intro o' s₅ S₅ I₅ F₅ N₅
    have e := putInv_end J (of_decide_eq_false h)
    refine px_rete (px_bytes G F₅ rfl rfl (fun _ => rfl) (px_name F₅ (Eq.refl (some (Value.ref _))) rfl ⟨_, _, _, _, rfl, I₅, e.2, by rw [List.length_append]; show _ + 1 ≤ _; (first | lia | omega), F₅, N₅, fun b t s₆ hb S₆ F₆ N₆ => ?_⟩))
    have S := (((S₂.trans S₃).trans S₄).trans (Sm.trans .mk' S₅)).trans S₆
    exact hq _ _ _ _ S F₆ N₆ fun Fz Nz => hret _ (hb.trans e.1) _ _ (S₁.trans S) Fz fun p hp => Nz p (.tail _ hp)
theorem law_pieces_spec {w : World} {mg mb : Str → Option Value} {mean : ExcName → Option Value} {dp un : Nat} {gd : Option (List Code)} {cn : Str} {cs : Scope} {a : Addr} {ccd : Value} {cl : List (Str × Addr)} {outer : List Env} {A₀ : Around} {base h₀ : Heap} {L : Addr} {m : Str → Option Value} {news : List (Addr × Obj)} {s : Shared} {Q E : Value → Shared → Prop}
  (B : Below A₀ base outer h₀) (F : Fr h₀ L s.heap m) (X : (hd.heap_39 w.params).In h₀) (N : News h₀ L s.heap news) (T : Top hd.view_39 (looseW hd.view_39 [PySem.Str.ofString "GitError"]) mean mg mb h₀) (hk : cs.kind = .function) (hdp : dp + 4 < recursionLimit) (hun : un + 32 < cLine)
  {x : Int} {t : Tok} (h0 : 0 ≤ x) (h1 : x < 2199023255552)
  (hret : ∀ (b : Array UInt8), KBw.bInts b = pieces x → ∀ (t : Tok) (s₂ : Shared), Sm s s₂ → Fr h₀ L s₂.heap m → News h₀ L s₂.heap news → Q (.bytes b t) s₂) :
  wpAny (model PySem.Challenge.rw_nt0271_01.row.prog w) (ktrTop dp un gd cn cs L a ccd cl outer) (call (.ref 226) [.int x t]) Q E s := by
  w_top off; revert X; k_fill; intro X; refine' nt_enter (binds := [(Str.ofString "number", .int x t)]) B F X N T hk 3 hdp hun ?hf ?hc ?hb ["found"] ?hl ?hs ?h; (case hf => k_is); (case hc => k_is); (case hb => exact fun _ => BindsTo.of_eq rfl); (case hl => exact Eq.refl [_, _]); (case hs => exact ⟨rfl, rfl, rfl, rfl, by decide⟩); intro g' L' s₁ Q' E' dp' un' hdp' hun' FG' F' N' B' X' T' S₁ hq he he2 hP'; have G : Gr w mean mg mb g' := ⟨X', T'⟩
  refine' px_let F' ?hx2 ?hl2 ?hs2 ?k2; (case hx2 => exact rfl); (case hl2 => exact fun _ => Eq.refl [_, _]); (case hs2 => exact fun _ => rfl); refine (px_list0 F' N' fun D o s₂ S₂ I₂ F₂ N₂ l₂ => ⟨_, F₂, N₂, fun s₃ S₃ F₃ N₃ => ?_⟩)
  refine wpAny_execs_cons (px_while (σ := List Int × Obj × Int × Tok) (fun c => [("number", some (.int c.2.2.1 c.2.2.2)), ("found", some (.ref D))]) (fun c => (D, c.2.1) :: news)
    (fun c => IL c.1 c.2.1 ∧ PutInv x c.1 c.2.2.1 ∧ c.1.length ≤ 5) (fun c => c.2.2.1.toNat) (_, _, _, _) F₃ N₃ hP' ⟨I₂, putInv_start' h0 h1⟩ ?_)
  rintro ⟨ks, o, n, tn⟩ s₄ Q₄ ⟨I, J, hk⟩ S₄ F₄ N₄ rt nx
  dsimp only at I J hk F₄ N₄ nx
  refine px_test G F₄ (pt_gt (pv_name (Eq.refl (some (Value.int _ _))) rfl) pv_const (fun _ => rfl)) (fun tk h => ?_) fun tk h => ?_
  · refine' px_append G F₄ N₄ ?hv6 I l₂ ?hn6 ?hx6 ?pa6 ?hst6 ?hi6 ?hm6 ?k6; (case hv6 => exact Eq.refl (some (Value.ref _))); (case hn6 => (first | lia | omega)); (case hx6 => exact rfl); (case pa6 => exact pv_add (pv_mod (pv_name (Eq.refl (some (Value.int _ _))) rfl) pv_const (by decide)) pv_const); (case hst6 => exact fun _ => ⟨rfl, rfl⟩); (case hi6 => exact rfl); (case hm6 => exact fun _ => rfl); intro o' s₅ S₅ I₅ F₅ N₅
    refine' px_set G F₅ N₅ ?pa9 ?hx9 ?hl9 ?hs9 ?k9; (case pa9 => exact pv_div (pv_name (Eq.refl (some (Value.int _ _))) rfl) pv_const (by decide)); (case hx9 => exact rfl); (case hl9 => exact fun _ => Eq.refl [_, _]); (case hs9 => exact fun _ => rfl); intro s₆ t₆ S₆ F₆ N₆
    have h := of_decide_eq_true h
    exact wpAny_execs_nil (nx (_, _, n.fdiv 128, _) _ ⟨I₅, putInv_turn' J h (fmod_128 _) (fdiv_128' _)⟩ (by show (n.fdiv 128).toNat < n.toNat; rw [fdiv_128']; exact down_128 h) ((Sm.trans .mk' S₅).trans S₆) F₆ N₆)
  · show wpAny _ _ (execs _ _) _ _ _
    have e := putInv_end J (of_decide_eq_false h)
    refine px_rete (px_bytes G F₄ rfl rfl (fun _ => rfl) (px_cat G F₄ N₄ (Eq.refl (some (Value.ref _))) I (by (first | lia | omega)) rfl (pv_name (Eq.refl (some (Value.int _ _))) rfl) (fun _ => rfl) fun D' o' s₅ news' S₅ I₅ F₅ N₅ mn => ⟨_, _, _, _, rfl, I₅, e.2, by rw [List.length_append]; show _ + 1 ≤ _; (first | lia | omega), F₅, N₅, fun b t s₆ hb S₆ F₆ N₆ => ?_⟩))
    have S := (((S₂.trans S₃).trans S₄).trans (Sm.trans .mk' S₅)).trans S₆
    exact hq _ _ _ _ S F₆ N₆ fun Fz Nz => hret _ (hb.trans e.1) _ _ (S₁.trans S) Fz fun p hp => Nz p (.tail _ (mn p hp))
theorem put_offset_spec {w : World} {mg mb : Str → Option Value} {mean : ExcName → Option Value} {dp un : Nat} {gd : Option (List Code)} {cn : Str} {cs : Scope} {a : Addr} {ccd : Value} {cl : List (Str × Addr)} {outer : List Env} {A₀ : Around} {base h₀ : Heap} {L : Addr} {m : Str → Option Value} {news : List (Addr × Obj)} {s : Shared} {Q E : Value → Shared → Prop}
  (B : Below A₀ base outer h₀) (F : Fr h₀ L s.heap m) (X : (hd.heap_39 w.params).In h₀) (N : News h₀ L s.heap news) (T : Top hd.view_39 (looseW hd.view_39 [PySem.Str.ofString "GitError"]) mean mg mb h₀) (hk : cs.kind = .function) (hdp : dp + 4 < recursionLimit) (hun : un + 32 < cLine)
  {x : Int} {t : Tok} (h0 : 0 ≤ x) (h1 : x < 2199023255552)
  (hret : ∀ (b : Array UInt8), KBw.bInts b = offOf x → ∀ (t : Tok) (s₂ : Shared), Sm s s₂ → Fr h₀ L s₂.heap m → News h₀ L s₂.heap news → Q (.bytes b t) s₂) :
  wpAny (model PySem.Challenge.rw_nt0271_01.row.prog w) (ktrTop dp un gd cn cs L a ccd cl outer) (call (.ref 167) [.int x t]) Q E s := by
  w_top off; revert X; k_fill; intro X; refine' nt_enter (binds := [(Str.ofString "number", .int x t)]) B F X N T hk 3 hdp hun ?hf ?hc ?hb ["found"] ?hl ?hs ?h; (case hf => k_is); (case hc => k_is); (case hb => exact fun _ => BindsTo.of_eq rfl); (case hl => exact Eq.refl [_, _]); (case hs => exact ⟨rfl, rfl, rfl, rfl, by decide⟩); intro g' L' s₁ Q' E' dp' un' hdp' hun' FG' F' N' B' X' T' S₁ hq he he2 hP'; have G : Gr w mean mg mb g' := ⟨X', T'⟩
  refine' px_let F' ?hx3 ?hl3 ?hs3 ?k3; (case hx3 => exact rfl); (case hl3 => exact fun _ => Eq.refl [_, _]); (case hs3 => exact fun _ => rfl); refine (px_list1 G F' N' (pv_and (pv_name (Eq.refl (some (Value.int _ _))) rfl) pv_const) (fun _ => rfl) fun D o s₂ S₂ I₂ F₂ N₂ l₂ => ⟨_, F₂, N₂, fun s₃ S₃ F₃ N₃ => ?_⟩)
  refine' px_set G F₃ N₃ ?pa10 ?hx10 ?hl10 ?hs10 ?k10; (case pa10 => exact pv_shr (pv_name (Eq.refl (some (Value.int _ _))) rfl) pv_const (by decide)); (case hx10 => exact rfl); (case hl10 => exact fun _ => Eq.refl [_, _]); (case hs10 => exact fun _ => rfl); intro s₇ t₇ S₇ F₇ N₇
  refine wpAny_execs_cons (px_while (σ := List Int × Obj × Int × Tok) (fun c => [("number", some (.int c.2.2.1 c.2.2.2)), ("found", some (.ref D))]) (fun c => (D, c.2.1) :: news)
    (fun c => IL c.1 c.2.1 ∧ OffInv x c.1 c.2.2.1 ∧ c.1.length ≤ 6) (fun c => c.2.2.1.toNat) (_, _, x.fdiv (2 ^ Int.toNat 7), _) F₇ N₇ hP' ⟨I₂, offInv_start h0 h1 (bitAnd_m7 _) (fdiv_128 _)⟩ ?_)
  rintro ⟨ks, o, n, tn⟩ s₄ Q₄ ⟨I, J, hk⟩ S₄ F₄ N₄ rt nx
  dsimp only at I J hk F₄ N₄ nx
  refine px_test G F₄ (pt_gt (pv_name (Eq.refl (some (Value.int _ _))) rfl) pv_const (fun _ => rfl)) (fun tk h => ?_) fun tk h => ?_
  · refine' px_set G F₄ N₄ ?pa11 ?hx11 ?hl11 ?hs11 ?k11; (case pa11 => exact pv_sub (pv_name (Eq.refl (some (Value.int _ _))) rfl) pv_const); (case hx11 => exact rfl); (case hl11 => exact fun _ => Eq.refl [_, _]); (case hs11 => exact fun _ => rfl); intro s₈ t₈ S₈ F₈ N₈
    refine' px_append G F₈ N₈ ?hv7 I l₂ ?hn7 ?hx7 ?pa7 ?hst7 ?hi7 ?hm7 ?k7; (case hv7 => exact Eq.refl (some (Value.ref _))); (case hn7 => (first | lia | omega)); (case hx7 => exact rfl); (case pa7 => exact pv_or pv_const (pv_and (pv_name (Eq.refl (some (Value.int _ _))) rfl) pv_const)); (case hst7 => exact fun _ => ⟨rfl, rfl⟩); (case hi7 => exact rfl); (case hm7 => exact fun _ => rfl); intro o' s₅ S₅ I₅ F₅ N₅
    refine' px_set G F₅ N₅ ?pa12 ?hx12 ?hl12 ?hs12 ?k12; (case pa12 => exact pv_shr (pv_name (Eq.refl (some (Value.int _ _))) rfl) pv_const (by decide)); (case hx12 => exact rfl); (case hl12 => exact fun _ => Eq.refl [_, _]); (case hs12 => exact fun _ => rfl); intro s₆ t₆ S₆ F₆ N₆
    have h := of_decide_eq_true h
    exact wpAny_execs_nil (nx (_, _, (n - 1).fdiv (2 ^ Int.toNat 7), _) _ ⟨I₅, offInv_turn J h (bitOr_128 _) (fdiv_128 _)⟩ (by show ((n - 1).fdiv (2 ^ Int.toNat 7)).toNat < n.toNat; rw [fdiv_128]; exact down_128' h) (((Sm.trans .mk' S₈).trans S₅).trans S₆) F₆ N₆)
  · show wpAny _ _ (execs _ _) _ _ _
    have e := offInv_end J (of_decide_eq_false h)
    refine px_rete (px_bytes G F₄ rfl rfl (fun _ => rfl) (px_rev G F₄ N₄ (Eq.refl (some (Value.ref _))) I (by (first | lia | omega)) rfl fun D' o' s₅ S₅ I₅ F₅ N₅ => ⟨_, _, _, _, rfl, I₅, e.2, by rw [List.length_reverse]; (first | lia | omega), F₅, N₅, fun b t s₆ hb S₆ F₆ N₆ => ?_⟩))
    have S := (((S₂.trans (S₃.trans S₇)).trans S₄).trans (Sm.trans .mk' S₅)).trans S₆
    exact hq _ _ _ _ S F₆ N₆ fun Fz Nz => hret _ (hb.trans e.1) _ _ (S₁.trans S) Fz fun p hp => Nz p (.tail _ (.tail _ hp))
end
noncomputable section
theorem at_size_spec {w : World} {mg mb : Str → Option Value} {mean : ExcName → Option Value} {dp un : Nat} {gd : Option (List Code)} {cn : Str} {cs : Scope} {a : Addr} {ccd : Value} {cl : List (Str × Addr)} {outer : List Env} {A₀ : Around} {base h₀ : Heap} {L : Addr} {m : Str → Option Value} {news : List (Addr × Obj)} {s : Shared} {Q E : Value → Shared → Prop}
  (B : Below A₀ base outer h₀) (F : Fr h₀ L s.heap m) (X : (hd.heap_39 w.params).In h₀) (N : News h₀ L s.heap news) (T : Top hd.view_39 (looseW hd.view_39 [PySem.Str.ofString "GitError"]) mean mg mb h₀) (hk : cs.kind = .function) (hdp : dp + 5 < recursionLimit) (hun : un + 40 < cLine)
  {b : Array UInt8} {tb t : Tok} {x : Int} {pre mid post : List Int} (hb : KBw.bInts b = pre ++ mid ++ post) (hx : x = pre.length) (M : Mid mid post) (hn : (pre ++ mid ++ post).length ≤ 1000)
  (hret : ¬ Big mid → ∀ T tA tB s₂, Sm s s₂ → Fr h₀ L s₂.heap m → News h₀ L s₂.heap ((T, { cls := .type "tuple", data := .seq #[.int (leVal mid) tA, .int ((pre.length : Int) + mid.length) tB] }) :: news) → Q (.ref T) s₂)
  (hexc : Big mid → ∀ e g₂ s₂, Sm s s₂ → Fr h₀ L g₂ m → RaisedSN base g₂ (envX cn cs L a ccd cl :: outer) e (.ref 57) news s₂.heap → g₂.UpToSlots s₂.heap → E (.ref e) s₂) :
  wpAny (model PySem.Challenge.rw_nt0271_01.row.prog w) (ktrTop dp un gd cn cs L a ccd cl outer) (call (.ref 160) [.bytes b tb, .int x t]) Q E s := by
  subst hx
  w_top off; revert X; k_fill; intro X; refine' nt_enter (binds := [(Str.ofString "octets", .bytes b tb), (Str.ofString "at", .int (pre.length : Int) t)]) B F X N T hk 4 hdp hun ?hf ?hc ?hb ["number", "shift", "octet"] ?hl ?hs ?h; (case hf => k_is); (case hc => k_is); (case hb => exact fun _ => BindsTo.of_eq rfl); (case hl => exact Eq.refl [_, _, _, _, _]); (case hs => exact ⟨rfl, rfl, rfl, rfl, by decide⟩); intro g' L' s₁ Q' E' dp' un' hdp' hun' FG' F' N' B' X' T' S₁ hq he he2 hP'; have G : Gr w mean mg mb g' := ⟨X', T'⟩
  refine' px_set G F' N' ?pa13 ?hx13 ?hl13 ?hs13 ?k13; (case pa13 => exact pv_const); (case hx13 => exact rfl); (case hl13 => exact fun _ => Eq.refl [_, _, _, _, _]); (case hs13 => exact fun _ => rfl); intro s₂ t₂ S₂ F₂ N₂
  refine' px_set G F₂ N₂ ?pa14 ?hx14 ?hl14 ?hs14 ?k14; (case pa14 => exact pv_const); (case hx14 => exact rfl); (case hl14 => exact fun _ => Eq.refl [_, _, _, _, _]); (case hs14 => exact fun _ => rfl); intro s₈ t₈ S₈ F₈ N₈
  refine wpAny_execs_cons (px_while (σ := Int × Tok × Int × Tok × Int × Tok × Option Value) (fun c => [("at", some (.int c.1 c.2.1)), ("octets", some (.bytes b tb)), ("number", some (.int c.2.2.1 c.2.2.2.1)), ("shift", some (.int c.2.2.2.2.1 c.2.2.2.2.2.1)), ("octet", c.2.2.2.2.2.2)]) (fun _ => news)
    (fun c => SizeInv mid pre.length c.1 c.2.2.1 c.2.2.2.2.1 ∧ (pre.length : Int) ≤ c.1 ∧ c.1 ≤ pre.length + mid.length ∧ 0 ≤ c.2.2.2.2.1 ∧ c.2.2.2.2.1 ≤ 42) (fun c => (1000 - c.1).toNat) (_, _, _, _, _, _, _) F₈ N₈ hP' sizeInv_start ?_)
  rintro ⟨x, tx, y, ty, z, tz, o⟩ s₃ Q₃ ⟨I, h1, h2, h3, h4⟩ S₃ F₃ N₃ rt nx
  have S := (S₂.trans S₈).trans S₃
  dsimp only at I h1 h2 h3 h4 F₃ nx
  refine px_true fun _ => px_if1 G F₃ (pt_ge (pv_name (Eq.refl (some (Value.int _ _))) rfl) (pv_len (Eq.refl (some (Value.bytes _ _))) hb hn rfl rfl) (fun _ => rfl)) (fun tk Q' _ h => px_raise B' G F₃ N₃ (S.trans .mk') pa_str rfl rfl rfl (fun _ _ => cls_57) (room hdp' rfl) (room hun' rfl) (fun _ => rfl) he fun e s' S R U => hexc (take_end I.1 (of_decide_eq_true h)) _ _ _ (S₁.trans S) FG' R U) fun tk h => ?_
  have h9 := Int.not_le.1 (of_decide_eq_false h)
  have h0 : 0 ≤ x := Int.le_trans (Int.natCast_nonneg _) h1
  obtain ⟨o, ho, o1, o2⟩ := byte_at hb h0 h9
  refine' px_set G F₃ N₃ ?pa15 ?hx15 ?hl15 ?hs15 ?k15; (case pa15 => exact pv_item (Eq.refl (some (Value.bytes _ _))) hb hn rfl (pv_name (Eq.refl (some (Value.int _ _))) rfl) h0 ho (fun _ _ => rfl)); (case hx15 => exact rfl); (case hl15 => exact fun _ => Eq.refl [_, _, _, _, _]); (case hs15 => exact fun _ => rfl); intro s₄ t₄ S₄ F₄ N₄
  refine' px_set G F₄ N₄ ?pa16 ?hx16 ?hl16 ?hs16 ?k16; (case pa16 => exact pv_add (pv_name (Eq.refl (some (Value.int _ _))) rfl) pv_const); (case hx16 => exact rfl); (case hl16 => exact fun _ => Eq.refl [_, _, _, _, _]); (case hs16 => exact fun _ => rfl); intro s₅ t₅ S₅ F₅ N₅
  refine' px_set G F₅ N₅ ?pa17 ?hx17 ?hl17 ?hs17 ?k17; (case pa17 => exact pv_or (pv_name (Eq.refl (some (Value.int _ _))) rfl) (pv_shl (pv_and (pv_name (Eq.refl (some (Value.int _ _))) rfl) pv_const) (pv_name (Eq.refl (some (Value.int _ _))) rfl) ⟨h3, Int.le_trans h4 (by decide)⟩ (size_fits o))); (case hx17 => exact rfl); (case hl17 => exact fun _ => Eq.refl [_, _, _, _, _]); (case hs17 => exact fun _ => rfl); intro s₆ t₆ S₆ F₆ N₆
  refine' px_set G F₆ N₆ ?pa18 ?hx18 ?hl18 ?hs18 ?k18; (case pa18 => exact pv_add (pv_name (Eq.refl (some (Value.int _ _))) rfl) pv_const); (case hx18 => exact rfl); (case hl18 => exact fun _ => Eq.refl [_, _, _, _, _]); (case hs18 => exact fun _ => rfl); intro s₇ t₇ S₇ F₇ N₇
  have S9 : Sm s₃ s₇ := (Sm.trans .mk' S₄).trans (S₅.trans (S₆.trans S₇))
  refine px_if1 G F₇ (pt_lt (pv_name (Eq.refl (some (Value.int _ _))) rfl) pv_const (fun _ => rfl)) (fun tk Q' rt' h => ?_) (fun tk h => wpAny_execs_nil ?_)
  · obtain ⟨e1, e2, e3⟩ := sizeInv_out M I ho (of_decide_eq_true h)
    rw [e2, e3] at F₇
    have S10 := S.trans S9
    exact px_ret2 G F₇ N₇ (pv_name (Eq.refl (some (Value.int _ _))) rfl) (pv_name (Eq.refl (some (Value.int _ _))) rfl) (fun _ => rfl) fun T tA tB s' S8 F8 N8 => rt' _ _ (rt _ _ (hq _ _ _ _ (S10.trans (Sm.trans .mk' S8)) F8 N8 fun Fz Nz => hret e1 _ _ _ _ (S₁.trans (S10.trans (Sm.trans .mk' S8))) Fz Nz))
  · exact nx (_, _, _, _, _, _, _) _ (sizeInv_turn M I ho (of_decide_eq_false h) rfl) (up1000 h9 hn) (S9.trans .mk') F₇ N₇
theorem at_offset_spec {w : World} {mg mb : Str → Option Value} {mean : ExcName → Option Value} {dp un : Nat} {gd : Option (List Code)} {cn : Str} {cs : Scope} {a : Addr} {ccd : Value} {cl : List (Str × Addr)} {outer : List Env} {A₀ : Around} {base h₀ : Heap} {L : Addr} {m : Str → Option Value} {news : List (Addr × Obj)} {s : Shared} {Q E : Value → Shared → Prop}
  (B : Below A₀ base outer h₀) (F : Fr h₀ L s.heap m) (X : (hd.heap_39 w.params).In h₀) (N : News h₀ L s.heap news) (T : Top hd.view_39 (looseW hd.view_39 [PySem.Str.ofString "GitError"]) mean mg mb h₀) (hk : cs.kind = .function) (hdp : dp + 5 < recursionLimit) (hun : un + 40 < cLine)
  {b : Array UInt8} {tb t : Tok} {x : Int} {pre mid post : List Int} (hb : KBw.bInts b = pre ++ mid ++ post) (hx : x = pre.length) (M : Mid mid post) (hn : (pre ++ mid ++ post).length ≤ 1000)
  (hret : ¬ Big mid → ∀ T tA tB s₂, Sm s s₂ → Fr h₀ L s₂.heap m → News h₀ L s₂.heap ((T, { cls := .type "tuple", data := .seq #[.int (offVal mid) tA, .int ((pre.length : Int) + mid.length) tB] }) :: news) → Q (.ref T) s₂)
  (hexc : Big mid → ∀ e g₂ s₂, Sm s s₂ → Fr h₀ L g₂ m → RaisedSN base g₂ (envX cn cs L a ccd cl :: outer) e (.ref 69) news s₂.heap → g₂.UpToSlots s₂.heap → E (.ref e) s₂) :
  wpAny (model PySem.Challenge.rw_nt0271_01.row.prog w) (ktrTop dp un gd cn cs L a ccd cl outer) (call (.ref 174) [.bytes b tb, .int x t]) Q E s := by
  subst hx
  w_top off; revert X; k_fill; intro X; refine' nt_enter (binds := [(Str.ofString "octets", .bytes b tb), (Str.ofString "at", .int (pre.length : Int) t)]) B F X N T hk 4 hdp hun ?hf ?hc ?hb ["number", "octet"] ?hl ?hs ?h; (case hf => k_is); (case hc => k_is); (case hb => exact fun _ => BindsTo.of_eq rfl); (case hl => exact Eq.refl [_, _, _, _]); (case hs => exact ⟨rfl, rfl, rfl, rfl, by decide⟩); intro g' L' s₁ Q' E' dp' un' hdp' hun' FG' F' N' B' X' T' S₁ hq he he2 hP'; have G : Gr w mean mg mb g' := ⟨X', T'⟩
  refine' px_set G F' N' ?pa19 ?hx19 ?hl19 ?hs19 ?k19; (case pa19 => exact pv_neg pv_const); (case hx19 => exact rfl); (case hl19 => exact fun _ => Eq.refl [_, _, _, _]); (case hs19 => exact fun _ => rfl); intro s₂ t₂ S₂ F₂ N₂
  refine wpAny_execs_cons (px_while (σ := Int × Tok × Int × Tok × Option Value) (fun c => [("at", some (.int c.1 c.2.1)), ("octets", some (.bytes b tb)), ("number", some (.int c.2.2.1 c.2.2.2.1)), ("octet", c.2.2.2.2)]) (fun _ => news)
    (fun c => TakeSt offVal mid pre.length c.1 c.2.2.1 ∧ (pre.length : Int) ≤ c.1 ∧ c.1 ≤ pre.length + mid.length ∧ -1 ≤ c.2.2.1 ∧ c.2.2.1 < 8796093022208) (fun c => (1000 - c.1).toNat) (_, _, _, _, _) F₂ N₂ hP' (offInv_start' M) ?_)
  rintro ⟨x, tx, y, ty, o⟩ s₃ Q₃ ⟨I, h1, h2, h3, h4⟩ S₃ F₃ N₃ rt nx
  have S := S₂.trans S₃
  dsimp only at I h1 h2 h3 h4 F₃ nx
  refine px_true fun _ => px_if1 G F₃ (pt_ge (pv_name (Eq.refl (some (Value.int _ _))) rfl) (pv_len (Eq.refl (some (Value.bytes _ _))) hb hn rfl rfl) (fun _ => rfl)) (fun tk Q' _ h => px_raise B' G F₃ N₃ (S.trans .mk') pa_str rfl rfl rfl (fun _ _ => cls_69) (room hdp' rfl) (room hun' rfl) (fun _ => rfl) he fun e s' S R U => hexc (take_end I (of_decide_eq_true h)) _ _ _ (S₁.trans S) FG' R U) fun tk h => ?_
  have h9 := Int.not_le.1 (of_decide_eq_false h)
  have h0 : 0 ≤ x := Int.le_trans (Int.natCast_nonneg _) h1
  obtain ⟨o, ho, o1, o2⟩ := byte_at hb h0 h9
  refine' px_set G F₃ N₃ ?pa20 ?hx20 ?hl20 ?hs20 ?k20; (case pa20 => exact pv_item (Eq.refl (some (Value.bytes _ _))) hb hn rfl (pv_name (Eq.refl (some (Value.int _ _))) rfl) h0 ho (fun _ _ => rfl)); (case hx20 => exact rfl); (case hl20 => exact fun _ => Eq.refl [_, _, _, _]); (case hs20 => exact fun _ => rfl); intro s₄ t₄ S₄ F₄ N₄
  refine' px_set G F₄ N₄ ?pa21 ?hx21 ?hl21 ?hs21 ?k21; (case pa21 => exact pv_add (pv_name (Eq.refl (some (Value.int _ _))) rfl) pv_const); (case hx21 => exact rfl); (case hl21 => exact fun _ => Eq.refl [_, _, _, _]); (case hs21 => exact fun _ => rfl); intro s₅ t₅ S₅ F₅ N₅
  refine' px_set G F₅ N₅ ?pa22 ?hx22 ?hl22 ?hs22 ?k22; (case pa22 => exact pv_or (pv_shl (pv_add (pv_name (Eq.refl (some (Value.int _ _))) rfl) pv_const) pv_const (by decide) (off_fits h3 h4)) (pv_and (pv_name (Eq.refl (some (Value.int _ _))) rfl) pv_const)); (case hx22 => exact rfl); (case hl22 => exact fun _ => Eq.refl [_, _, _, _]); (case hs22 => exact fun _ => rfl); intro s₆ t₆ S₆ F₆ N₆
  have S7 : Sm s₃ s₆ := (Sm.trans .mk' S₄).trans (S₅.trans S₆)
  refine px_if1 G F₆ (pt_lt (pv_name (Eq.refl (some (Value.int _ _))) rfl) pv_const (fun _ => rfl)) (fun tk Q' rt' h => ?_) (fun tk h => wpAny_execs_nil ?_)
  · obtain ⟨e1, e2, e3⟩ := offInv_out M I ho (of_decide_eq_true h)
    rw [e2, e3] at F₆
    exact px_ret2 G F₆ N₆ (pv_name (Eq.refl (some (Value.int _ _))) rfl) (pv_name (Eq.refl (some (Value.int _ _))) rfl) (fun _ => rfl) fun T tA tB s' S8 F8 N8 => rt' _ _ (rt _ _ (hq _ _ _ _ ((S.trans S7).trans (Sm.trans .mk' S8)) F8 N8 fun Fz Nz => hret e1 _ _ _ _ (S₁.trans ((S.trans S7).trans (Sm.trans .mk' S8))) Fz Nz))
  · exact nx (_, _, _, _, _) _ (offInv_turn' M I ho (of_decide_eq_false h) rfl) (up1000 h9 hn) (S7.trans .mk') F₆ N₆
end
noncomputable section
noncomputable def cutOf (ks : List Int) (n k : Nat) : List Int := (ks.drop n).take k
theorem at_big_spec {w : World} {mg mb : Str → Option Value} {mean : ExcName → Option Value} {dp un : Nat} {gd : Option (List Code)} {cn : Str} {cs : Scope} {a : Addr} {ccd : Value} {cl : List (Str × Addr)} {outer : List Env} {A₀ : Around} {base h₀ : Heap} {L : Addr} {m : Str → Option Value} {news : List (Addr × Obj)} {s : Shared} {Q E : Value → Shared → Prop}
  (B : Below A₀ base outer h₀) (F : Fr h₀ L s.heap m) (X : (hd.heap_39 w.params).In h₀) (N : News h₀ L s.heap news) (T : Top hd.view_39 (looseW hd.view_39 [PySem.Str.ofString "GitError"]) mean mg mb h₀) (hk : cs.kind = .function) (hdp : dp + 5 < recursionLimit) (hun : un + 40 < cLine)
  {b : Array UInt8} {tb t t2 : Tok} {y : Int} {n k : Nat} {ks : List Int} (hb : KBw.bInts b = ks) (hn : ks.length ≤ 1000) (hy : y = k)
  (hret : n + k ≤ ks.length → ∀ (t : Tok) (s₂ : Shared), Sm s s₂ → Fr h₀ L s₂.heap m → News h₀ L s₂.heap news → Q (.int (beVal (cutOf ks n k)) t) s₂)
  (hexc : ks.length < n + k → ∀ e g₂ s₂, Sm s s₂ → Fr h₀ L g₂ m → RaisedSN base g₂ (envX cn cs L a ccd cl :: outer) e (.ref 45) news s₂.heap → g₂.UpToSlots s₂.heap → E (.ref e) s₂) :
  wpAny (model PySem.Challenge.rw_nt0271_01.row.prog w) (ktrTop dp un gd cn cs L a ccd cl outer) (call (.ref 125) [.bytes b tb, .int n t, .int y t2]) Q E s := by
  subst hy
  w_top off; revert X; k_fill; intro X; refine' nt_enter (binds := [(Str.ofString "octets", .bytes b tb), (Str.ofString "at", .int n t), (Str.ofString "many", .int k t2)]) B F X N T hk 4 hdp hun ?hf ?hc ?hb ["number", "octet"] ?hl ?hs ?h; (case hf => k_is); (case hc => k_is); (case hb => exact fun _ => BindsTo.of_eq rfl); (case hl => exact Eq.refl [_, _, _, _, _]); (case hs => exact ⟨rfl, rfl, rfl, rfl, by decide⟩); intro g' L' s₁ Q' E' dp' un' hdp' hun' FG' F' N' B' X' T' S₁ hq he he2 hP'; have G : Gr w mean mg mb g' := ⟨X', T'⟩
  refine px_if1 G F' (pt_or (pt_lt (pv_name (Eq.refl (some (Value.int _ _))) rfl) pv_const (fun _ => rfl)) fun _ => pt_gt (pv_add (pv_name (Eq.refl (some (Value.int _ _))) rfl) (pv_name (Eq.refl (some (Value.int _ _))) rfl)) (pv_len (Eq.refl (some (Value.bytes _ _))) hb hn rfl rfl) (fun _ => rfl)) (fun tk Q' _ h => ?_) fun tk h => ?_
  · refine px_raise B' G F' N' .mk' pa_str rfl rfl rfl (fun _ _ => cls_45) (room hdp' rfl) (room hun' rfl) (fun _ => rfl) he fun e s' S R U => hexc ?_ _ _ _ (S₁.trans S) FG' R U
    rcases (Bool.or_eq_true_iff.1 h) with h | h
    · exact absurd (of_decide_eq_true h) (Int.not_lt.2 (Int.natCast_nonneg n))
    · exact Int.ofNat_lt.1 (of_decide_eq_true h)
  have hl : n + k ≤ ks.length := Int.ofNat_le.1 (Int.not_lt.1 (of_decide_eq_false (Bool.or_eq_false_iff.1 h).2))
  refine' px_set G F' N' ?pa26 ?hx26 ?hl26 ?hs26 ?k26; (case pa26 => exact pv_const); (case hx26 => exact rfl); (case hl26 => exact fun _ => Eq.refl [_, _, _, _, _]); (case hs26 => exact fun _ => rfl); intro s₂ t₂ S₂ F₂ N₂
  have hlen : (cutOf ks n k).length = k := by unfold cutOf; rw [List.length_take, List.length_drop, Nat.min_eq_left (Nat.le_sub_of_add_le' hl)]
  refine' px_for (σ := Int × Tok) (fun c o => [("many", some (.int k t2)), ("at", some (.int n t)), ("octets", some (.bytes b tb)), ("number", some (.int c.1 c.2)), ("octet", o)]) (fun _ => news) (news.map (·.1)) (fun i c => c.1 = beVal ((cutOf ks n k).take i)) (_, _) F₂ hP' rfl (fun _ => rfl) (fun _ _ _ => Eq.refl [_, _, _, _, _]) (fun _ => rfl) ?hit ⟨_, rfl, rfl⟩ ?turn ?done
  case hit => exact px_cut G F₂ N₂ (Eq.refl (some (Value.bytes _ _))) hb hn rfl (pv_name (Eq.refl (some (Value.int _ _))) rfl) (pv_add (pv_name (Eq.refl (some (Value.int _ _))) rfl) (pv_name (Eq.refl (some (Value.int _ _))) rfl)) ⟨rfl, (Int.natCast_add n k).symm⟩ ⟨Nat.le_add_right n k, hl⟩ (fun _ => rfl) fun c t' s₃ S₃ hc F₃ N₃ => ⟨it_bytes rfl F₃ N₃ (ks := cutOf ks n k) (by rw [hc, Nat.add_sub_cancel_left]; rfl), S₃⟩
  case turn =>
    rintro i ⟨x, tx⟩ v s₃ own Q₃ hi ⟨o, ho, to, rfl⟩ I S₃ F₃ N₃ off rt nx
    dsimp only at I F₃ nx
    refine' px_set G F₃ N₃ ?pa27 ?hx27 ?hl27 ?hs27 ?k27; (case pa27 => exact pv_add (pv_mul pv_const (pv_name (Eq.refl (some (Value.int _ _))) rfl) (by mul_fits)) (pv_name (Eq.refl (some (Value.int _ _))) rfl)); (case hx27 => exact rfl); (case hl27 => exact fun _ => Eq.refl [_, _, _, _, _]); (case hs27 => exact fun _ => rfl); intro s₄ t₄ S₄ F₄ N₄
    exact wpAny_execs_nil (nx (_, _) _ (beVal_turn I ho) S₄ F₄ N₄)
  case done =>
    rintro ⟨x, tx⟩ o s₃ I S₃ F₃ N₃
    dsimp only at I F₃
    rw [List.take_length] at I
    refine px_ret G F₃ (pv_name (Eq.refl (some (Value.int _ _))) rfl) fun t tk => ?_
    have S : Sm s₁ s₃ := Sm.trans .mk' (S₂.trans S₃)
    exact hq _ _ _ _ (S.trans .mk') F₃ N₃ fun Fz Nz => by rw [I]; exact hret hl _ _ (S₁.trans (S.trans .mk')) Fz Nz
theorem at_be16_spec {w : World} {mg mb : Str → Option Value} {mean : ExcName → Option Value} {dp un : Nat} {gd : Option (List Code)} {cn : Str} {cs : Scope} {a : Addr} {ccd : Value} {cl : List (Str × Addr)} {outer : List Env} {A₀ : Around} {base h₀ : Heap} {L : Addr} {m : Str → Option Value} {news : List (Addr × Obj)} {s : Shared} {Q E : Value → Shared → Prop}
  (B : Below A₀ base outer h₀) (F : Fr h₀ L s.heap m) (X : (hd.heap_39 w.params).In h₀) (N : News h₀ L s.heap news) (T : Top hd.view_39 (looseW hd.view_39 [PySem.Str.ofString "GitError"]) mean mg mb h₀) (hk : cs.kind = .function) (hdp : dp + 6 < recursionLimit) (hun : un + 48 < cLine)
  {b : Array UInt8} {tb t : Tok} {n : Nat} {ks : List Int} (hb : KBw.bInts b = ks) (hn : ks.length ≤ 1000)
  (hret : n + 2 ≤ ks.length → ∀ (t : Tok) (s₂ : Shared), Sm s s₂ → Fr h₀ L s₂.heap m → News h₀ L s₂.heap news → Q (.int (beVal (cutOf ks n 2)) t) s₂)
  (hexc : ks.length < n + 2 → ∀ e g₂ s₂, Sm s s₂ → Fr h₀ L g₂ m → RaisedSN base g₂ (envX cn cs L a ccd cl :: outer) e (.ref 45) news s₂.heap → g₂.UpToSlots s₂.heap → E (.ref e) s₂) :
  wpAny (model PySem.Challenge.rw_nt0271_01.row.prog w) (ktrTop dp un gd cn cs L a ccd cl outer) (call (.ref 132) [.bytes b tb, .int n t]) Q E s := by
  w_top off; revert X; k_fill; intro X; refine' nt_enter (binds := [(Str.ofString "octets", .bytes b tb), (Str.ofString "at", .int n t)]) B F X N T hk 5 hdp hun ?hf ?hc ?hb [] ?hl ?hs ?h; (case hf => k_is); (case hc => k_is); (case hb => exact fun _ => BindsTo.of_eq rfl); (case hl => exact Eq.refl [_, _]); (case hs => exact ⟨rfl, rfl, rfl, rfl, by decide⟩); intro g' L' s₁ Q' E' dp' un' hdp' hun' FG' F' N' B' X' T' S₁ hq he he2 hP'; have G : Gr w mean mg mb g' := ⟨X', T'⟩
  refine px_rete ?_
  refine' px_call3 G F' rfl rfl rfl ?p1 ?p2 ?p3 (fun _ => ⟨rfl, rfl, rfl⟩) ?k
  case p1 => exact pe_name (Eq.refl (some (Value.bytes _ _))) rfl
  case p2 => exact pe_int (pv_name (Eq.refl (some (Value.int _ _))) rfl)
  case p3 => exact pe_int pv_const
  case k =>
    rintro _ _ _ tk rfl ⟨t1, rfl⟩ ⟨t2, rfl⟩
    refine' at_big_spec (k := 2) ?B23 ?F23 ?X23 ?N23 ?T23 ?hk23 ?hd23 ?hu23 hb hn ?hy1 ?r1 ?e1; (case B23 => exact B'); (case F23 => exact F'); (case X23 => exact X'); (case N23 => exact N'); (case T23 => exact T'); (case hk23 => exact rfl); (case hd23 => first | exact room hdp' rfl | exact room hdp rfl | omega | ktr_room); (case hu23 => first | exact room hun' rfl | exact room hun rfl | omega | ktr_units)
    case hy1 => exact rfl
    case r1 =>
      intro h t s₂ S F N
      have S : Sm s₁ s₂ := Sm.trans .mk' S
      exact hq _ _ _ _ S F N fun Fz Nz => hret h _ _ (S₁.trans S) Fz Nz
    case e1 =>
      intro h e g₂ s₂ S F R U
      have S : Sm s₁ s₂ := Sm.trans .mk' S
      exact he2 _ _ _ _ _ _ S F R U fun s₃ S₃ R U => hexc h _ _ _ (S₁.trans S₃) FG' R U
theorem at_be32_spec {w : World} {mg mb : Str → Option Value} {mean : ExcName → Option Value} {dp un : Nat} {gd : Option (List Code)} {cn : Str} {cs : Scope} {a : Addr} {ccd : Value} {cl : List (Str × Addr)} {outer : List Env} {A₀ : Around} {base h₀ : Heap} {L : Addr} {m : Str → Option Value} {news : List (Addr × Obj)} {s : Shared} {Q E : Value → Shared → Prop}
  (B : Below A₀ base outer h₀) (F : Fr h₀ L s.heap m) (X : (hd.heap_39 w.params).In h₀) (N : News h₀ L s.heap news) (T : Top hd.view_39 (looseW hd.view_39 [PySem.Str.ofString "GitError"]) mean mg mb h₀) (hk : cs.kind = .function) (hdp : dp + 6 < recursionLimit) (hun : un + 48 < cLine)
  {b : Array UInt8} {tb t : Tok} {n : Nat} {ks : List Int} (hb : KBw.bInts b = ks) (hn : ks.length ≤ 1000)
  (hret : n + 4 ≤ ks.length → ∀ (t : Tok) (s₂ : Shared), Sm s s₂ → Fr h₀ L s₂.heap m → News h₀ L s₂.heap news → Q (.int (beVal (cutOf ks n 4)) t) s₂)
  (hexc : ks.length < n + 4 → ∀ e g₂ s₂, Sm s s₂ → Fr h₀ L g₂ m → RaisedSN base g₂ (envX cn cs L a ccd cl :: outer) e (.ref 45) news s₂.heap → g₂.UpToSlots s₂.heap → E (.ref e) s₂) :
  wpAny (model PySem.Challenge.rw_nt0271_01.row.prog w) (ktrTop dp un gd cn cs L a ccd cl outer) (call (.ref 139) [.bytes b tb, .int n t]) Q E s := by
  w_top off; revert X; k_fill; intro X; refine' nt_enter (binds := [(Str.ofString "octets", .bytes b tb), (Str.ofString "at", .int n t)]) B F X N T hk 5 hdp hun ?hf ?hc ?hb [] ?hl ?hs ?h; (case hf => k_is); (case hc => k_is); (case hb => exact fun _ => BindsTo.of_eq rfl); (case hl => exact Eq.refl [_, _]); (case hs => exact ⟨rfl, rfl, rfl, rfl, by decide⟩); intro g' L' s₁ Q' E' dp' un' hdp' hun' FG' F' N' B' X' T' S₁ hq he he2 hP'; have G : Gr w mean mg mb g' := ⟨X', T'⟩
  refine px_rete ?_
  refine' px_call3 G F' rfl rfl rfl ?p1 ?p2 ?p3 (fun _ => ⟨rfl, rfl, rfl⟩) ?k
  case p1 => exact pe_name (Eq.refl (some (Value.bytes _ _))) rfl
  case p2 => exact pe_int (pv_name (Eq.refl (some (Value.int _ _))) rfl)
  case p3 => exact pe_int pv_const
  case k =>
    rintro _ _ _ tk rfl ⟨t1, rfl⟩ ⟨t2, rfl⟩
    refine' at_big_spec (k := 4) ?B24 ?F24 ?X24 ?N24 ?T24 ?hk24 ?hd24 ?hu24 hb hn ?hy1 ?r1 ?e1; (case B24 => exact B'); (case F24 => exact F'); (case X24 => exact X'); (case N24 => exact N'); (case T24 => exact T'); (case hk24 => exact rfl); (case hd24 => first | exact room hdp' rfl | exact room hdp rfl | omega | ktr_room); (case hu24 => first | exact room hun' rfl | exact room hun rfl | omega | ktr_units)
    case hy1 => exact rfl
    case r1 =>
      intro h t s₂ S F N
      have S : Sm s₁ s₂ := Sm.trans .mk' S
      exact hq _ _ _ _ S F N fun Fz Nz => hret h _ _ (S₁.trans S) Fz Nz
    case e1 =>
      intro h e g₂ s₂ S F R U
      have S : Sm s₁ s₂ := Sm.trans .mk' S
      exact he2 _ _ _ _ _ _ S F R U fun s₃ S₃ R U => hexc h _ _ _ (S₁.trans S₃) FG' R U
theorem at_be64_spec {w : World} {mg mb : Str → Option Value} {mean : ExcName → Option Value} {dp un : Nat} {gd : Option (List Code)} {cn : Str} {cs : Scope} {a : Addr} {ccd : Value} {cl : List (Str × Addr)} {outer : List Env} {A₀ : Around} {base h₀ : Heap} {L : Addr} {m : Str → Option Value} {news : List (Addr × Obj)} {s : Shared} {Q E : Value → Shared → Prop}
  (B : Below A₀ base outer h₀) (F : Fr h₀ L s.heap m) (X : (hd.heap_39 w.params).In h₀) (N : News h₀ L s.heap news) (T : Top hd.view_39 (looseW hd.view_39 [PySem.Str.ofString "GitError"]) mean mg mb h₀) (hk : cs.kind = .function) (hdp : dp + 6 < recursionLimit) (hun : un + 48 < cLine)
  {b : Array UInt8} {tb t : Tok} {n : Nat} {ks : List Int} (hb : KBw.bInts b = ks) (hn : ks.length ≤ 1000)
  (hret : n + 8 ≤ ks.length → ∀ (t : Tok) (s₂ : Shared), Sm s s₂ → Fr h₀ L s₂.heap m → News h₀ L s₂.heap news → Q (.int (beVal (cutOf ks n 8)) t) s₂)
  (hexc : ks.length < n + 8 → ∀ e g₂ s₂, Sm s s₂ → Fr h₀ L g₂ m → RaisedSN base g₂ (envX cn cs L a ccd cl :: outer) e (.ref 45) news s₂.heap → g₂.UpToSlots s₂.heap → E (.ref e) s₂) :
  wpAny (model PySem.Challenge.rw_nt0271_01.row.prog w) (ktrTop dp un gd cn cs L a ccd cl outer) (call (.ref 146) [.bytes b tb, .int n t]) Q E s := by
  w_top off; revert X; k_fill; intro X; refine' nt_enter (binds := [(Str.ofString "octets", .bytes b tb), (Str.ofString "at", .int n t)]) B F X N T hk 5 hdp hun ?hf ?hc ?hb [] ?hl ?hs ?h; (case hf => k_is); (case hc => k_is); (case hb => exact fun _ => BindsTo.of_eq rfl); (case hl => exact Eq.refl [_, _]); (case hs => exact ⟨rfl, rfl, rfl, rfl, by decide⟩); intro g' L' s₁ Q' E' dp' un' hdp' hun' FG' F' N' B' X' T' S₁ hq he he2 hP'; have G : Gr w mean mg mb g' := ⟨X', T'⟩
  refine px_rete ?_
  refine' px_call3 G F' rfl rfl rfl ?p1 ?p2 ?p3 (fun _ => ⟨rfl, rfl, rfl⟩) ?k
  case p1 => exact pe_name (Eq.refl (some (Value.bytes _ _))) rfl
  case p2 => exact pe_int (pv_name (Eq.refl (some (Value.int _ _))) rfl)
  case p3 => exact pe_int pv_const
  case k =>
    rintro _ _ _ tk rfl ⟨t1, rfl⟩ ⟨t2, rfl⟩
    refine' at_big_spec (k := 8) ?B25 ?F25 ?X25 ?N25 ?T25 ?hk25 ?hd25 ?hu25 hb hn ?hy1 ?r1 ?e1; (case B25 => exact B'); (case F25 => exact F'); (case X25 => exact X'); (case N25 => exact N'); (case T25 => exact T'); (case hk25 => exact rfl); (case hd25 => first | exact room hdp' rfl | exact room hdp rfl | omega | ktr_room); (case hu25 => first | exact room hun' rfl | exact room hun rfl | omega | ktr_units)
    case hy1 => exact rfl
    case r1 =>
      intro h t s₂ S F N
      have S : Sm s₁ s₂ := Sm.trans .mk' S
      exact hq _ _ _ _ S F N fun Fz Nz => hret h _ _ (S₁.trans S) Fz Nz
    case e1 =>
      intro h e g₂ s₂ S F R U
      have S : Sm s₁ s₂ := Sm.trans .mk' S
      exact he2 _ _ _ _ _ _ S F R U fun s₃ S₃ R U => hexc h _ _ _ (S₁.trans S₃) FG' R U
end
noncomputable section
theorem law_big_spec {w : World} {mg mb : Str → Option Value} {mean : ExcName → Option Value} {dp un : Nat} {gd : Option (List Code)} {cn : Str} {cs : Scope} {a : Addr} {ccd : Value} {cl : List (Str × Addr)} {outer : List Env} {A₀ : Around} {base h₀ : Heap} {L : Addr} {m : Str → Option Value} {news : List (Addr × Obj)} {s : Shared} {Q E : Value → Shared → Prop}
  (B : Below A₀ base outer h₀) (F : Fr h₀ L s.heap m) (X : (hd.heap_39 w.params).In h₀) (N : News h₀ L s.heap news) (T : Top hd.view_39 (looseW hd.view_39 [PySem.Str.ofString "GitError"]) mean mg mb h₀) (hk : cs.kind = .function) (hdp : dp + 4 < recursionLimit) (hun : un + 32 < cLine)
  {x y : Int} {t t2 : Tok} {k : Nat} (hy : y = k) (h3 : k ≤ 8)
  (hret : ∀ (b : Array UInt8), KBw.bInts b = bigOf x k → ∀ (t : Tok) (s₂ : Shared), Sm s s₂ → Fr h₀ L s₂.heap m → News h₀ L s₂.heap news → Q (.bytes b t) s₂) :
  wpAny (model PySem.Challenge.rw_nt0271_01.row.prog w) (ktrTop dp un gd cn cs L a ccd cl outer) (call (.ref 219) [.int x t, .int y t2]) Q E s := by
  subst hy
  w_top off; revert X; k_fill; intro X; refine' nt_enterC (binds := [(Str.ofString "number", .int x t), (Str.ofString "many", .int k t2)]) B F X N T hk 3 hdp hun ?hf ?hc ?hb [] ?hl ?hcm ?hcl ?hs ?h; (case hf => k_is); (case hc => k_is); (case hb => exact fun _ => BindsTo.of_eq rfl); (case hl => exact Eq.refl [_]); (case hcm => exact rfl); (case hcl => exact fun _ => Eq.refl [_]); (case hs => exact ⟨rfl, by decide, rfl, rfl, rfl⟩); intro g' L' s₁ Q' E' dp' un' cells hdp' hun' FG' F' N' Y' l1 B' X' T' S₁ hq hP'; obtain ⟨o', hE', d1'⟩ := CellsAre.one Y'; subst hE'; have G : Gr w mean mg mb g' := ⟨X', T'⟩
  refine px_rete (px_bytes G F' rfl rfl (fun _ => rfl) ?_)
  refine' px_comp F' ?c128 ?c228 ?c328 ?c428 ?c528 ?c628 ?c728; (case c128 => with_unfolding_all exact rfl); (case c228 => decide); (case c328 => exact rfl); (case c428 => decide); (case c528 => exact rfl); (case c628 => exact fun _ => rfl)
  refine wpAny_mono (px_range3 (n := k) G F' N' rfl rfl (okV G F') (pv_sub (pv_name (Eq.refl (some (Value.int _ _))) rfl) pv_const) (pv_neg pv_const) (pv_neg pv_const) ⟨rfl, by decide, by decide⟩ (dn_small h3) (dn_size k) (fun _ => ⟨rfl, rfl, rfl⟩)) (fun xv s₂ h₂ => ?_) fun _ _ x => x
  refine ⟨_, [], [], k, _, le_line (Nat.le_trans h3 (by decide)), (fun _ h => nomatch h), h₂.1, fun s₃ S₃ => ?_⟩
  refine comp_pure _ (fun i => x / 256 ^ (k - 1 - i) % 256) G (fun i v h => h) ⟨rfl, rfl, rfl⟩ (cells := [(L' + 1, o')]) (fun p hp => List.mem_append_left _ hp) (fun _ h => nomatch h) (fun i t hi => ?_) fun ys hy D s₄ S₄ F₄ N₄ off => ?_
  · have e : (x.fdiv (256 ^ ((k : Int) - 1 + (i : Int) * -1).toNat)).fmod 256 = x / 256 ^ (k - 1 - i) % 256 := by
      rw [down_nat hi, Int.fdiv_eq_ediv_of_nonneg _ (Int.le_of_lt (Int.pow_pos (by decide))), Int.fmod_eq_emod_of_nonneg _ (by decide)]
    rw [← e]
    exact pv_mod (pv_div (pc_cell (by exact rfl) (.head _) d1' rfl) (pv_pow pv_const (pc_own rfl) (dn_pow hi h3) (by decide)) ⟨Int.ne_of_gt (Int.pow_pos (by decide)), pow256_py (dn_in hi h3).2⟩) pv_const (by decide)
  · have hl := List.length_map (as := List.range k) (fun i => x / 256 ^ (k - 1 - i) % 256)
    rw [List.length_range] at hl
    refine ⟨_, _, _, _, rfl, .lst hy, in_mod', hl.symm ▸ Nat.le_trans h3 (by decide), F₄, N₄, fun b t s₅ hb S₅ F₅ N₅ => ?_⟩
    have S : Sm s₁ s₅ := ((h₂.2.trans S₃).trans S₄).trans S₅
    exact hq _ _ _ _ S F₅ N₅ fun Fz Nz => hret _ hb _ _ (S₁.trans S) Fz fun p hp => Nz p (.tail _ (.tail _ hp))
theorem big_endian_spec {w : World} {mg mb : Str → Option Value} {mean : ExcName → Option Value} {dp un : Nat} {gd : Option (List Code)} {cn : Str} {cs : Scope} {a : Addr} {ccd : Value} {cl : List (Str × Addr)} {outer : List Env} {A₀ : Around} {base h₀ : Heap} {L : Addr} {m : Str → Option Value} {news : List (Addr × Obj)} {s : Shared} {Q E : Value → Shared → Prop}
  (B : Below A₀ base outer h₀) (F : Fr h₀ L s.heap m) (X : (hd.heap_39 w.params).In h₀) (N : News h₀ L s.heap news) (T : Top hd.view_39 (looseW hd.view_39 [PySem.Str.ofString "GitError"]) mean mg mb h₀) (hk : cs.kind = .function) (hdp : dp + 4 < recursionLimit) (hun : un + 32 < cLine)
  {x y : Int} {t t2 : Tok} {k : Nat} (hy : y = k) (h3 : k ≤ 8)
  (hret : ∀ (b : Array UInt8), KBw.bInts b = bigOf x k → ∀ (t : Tok) (s₂ : Shared), Sm s s₂ → Fr h₀ L s₂.heap m → News h₀ L s₂.heap news → Q (.bytes b t) s₂) :
  wpAny (model PySem.Challenge.rw_nt0271_01.row.prog w) (ktrTop dp un gd cn cs L a ccd cl outer) (call (.ref 97) [.int x t, .int y t2]) Q E s := by
  subst hy
  w_top off; revert X; k_fill; intro X; refine' nt_enterC (binds := [(Str.ofString "number", .int x t), (Str.ofString "many", .int k t2)]) B F X N T hk 3 hdp hun ?hf ?hc ?hb [] ?hl ?hcm ?hcl ?hs ?h; (case hf => k_is); (case hc => k_is); (case hb => exact fun _ => BindsTo.of_eq rfl); (case hl => exact Eq.refl []); (case hcm => exact rfl); (case hcl => exact fun _ => Eq.refl [_, _]); (case hs => exact ⟨rfl, by decide, rfl, rfl, rfl⟩); intro g' L' s₁ Q' E' dp' un' cells hdp' hun' FG' F' N' Y' l1 B' X' T' S₁ hq hP'; obtain ⟨o', o2', hE', d1', d2'⟩ := CellsAre.two Y'; subst hE'; have G : Gr w mean mg mb g' := ⟨X', T'⟩
  refine px_rete (px_bytes G F' rfl rfl (fun _ => rfl) ?_)
  refine' px_comp F' ?c129 ?c229 ?c329 ?c429 ?c529 ?c629 ?c729; (case c129 => with_unfolding_all exact rfl); (case c229 => decide); (case c329 => exact rfl); (case c429 => decide); (case c529 => exact rfl); (case c629 => exact fun _ => rfl)
  refine wpAny_mono (px_range1 (n := k) G F' N' rfl rfl (okX (fun p hp => N' p (List.mem_append_left _ hp))) (pg_cellX (by exact rfl) (by first | exact .head _ | exact .tail _ (.head _)) (by assumption) rfl) rfl (Nat.le_trans h3 (by decide)) (fun _ => rfl)) (fun xv s₂ h₂ => ?_) fun _ _ x => x
  refine ⟨_, [], [], k, _, le_line (Nat.le_trans h3 (by decide)), (fun _ h => nomatch h), h₂.1, fun s₃ S₃ => ?_⟩
  refine comp_pure _ (fun i => x / 256 ^ (k - 1 - i) % 256) G (fun i v h => h) ⟨rfl, rfl, rfl⟩ (cells := [(_, o'), (_, o2')]) (fun p hp => List.mem_append_left _ hp) (fun _ h => nomatch h) (fun i t hi => ?_) fun ys hy D s₄ S₄ F₄ N₄ off => ?_
  · rw [← band_at (x := x) (k := k) (i := i) hi]
    exact pv_and (pv_shr (pc_cell (by exact rfl) (by first | exact .head _ | exact .tail _ (.head _)) (by assumption) rfl) (pv_mul pv_const (pv_sub (pv_sub (pc_cell (by exact rfl) (by first | exact .head _ | exact .tail _ (.head _)) (by assumption) rfl) pv_const) (pc_own rfl)) (by mul_fits)) (by (first | lia | omega))) pv_const
  · have hl := List.length_map (as := List.range k) (fun i => x / 256 ^ (k - 1 - i) % 256)
    rw [List.length_range] at hl
    refine ⟨_, _, _, _, rfl, .lst hy, in_mod', hl.symm ▸ Nat.le_trans h3 (by decide), F₄, N₄, fun b t s₅ hb S₅ F₅ N₅ => ?_⟩
    have S : Sm s₁ s₅ := ((h₂.2.trans S₃).trans S₄).trans S₅
    exact hq _ _ _ _ S F₅ N₅ fun Fz Nz => hret _ hb _ _ (S₁.trans S) Fz fun p hp => Nz p (.tail _ (.tail _ (.tail _ hp)))
theorem be16_spec {w : World} {mg mb : Str → Option Value} {mean : ExcName → Option Value} {dp un : Nat} {gd : Option (List Code)} {cn : Str} {cs : Scope} {a : Addr} {ccd : Value} {cl : List (Str × Addr)} {outer : List Env} {A₀ : Around} {base h₀ : Heap} {L : Addr} {m : Str → Option Value} {news : List (Addr × Obj)} {s : Shared} {Q E : Value → Shared → Prop}
  (B : Below A₀ base outer h₀) (F : Fr h₀ L s.heap m) (X : (hd.heap_39 w.params).In h₀) (N : News h₀ L s.heap news) (T : Top hd.view_39 (looseW hd.view_39 [PySem.Str.ofString "GitError"]) mean mg mb h₀) (hk : cs.kind = .function) (hdp : dp + 5 < recursionLimit) (hun : un + 40 < cLine)
  {x : Int} {t : Tok} (hret : ∀ (b : Array UInt8), KBw.bInts b = bigOf x 2 → ∀ (t : Tok) (s₂ : Shared), Sm s s₂ → Fr h₀ L s₂.heap m → News h₀ L s₂.heap news → Q (.bytes b t) s₂) :
  wpAny (model PySem.Challenge.rw_nt0271_01.row.prog w) (ktrTop dp un gd cn cs L a ccd cl outer) (call (.ref 104) [.int x t]) Q E s := by
  w_top off; revert X; k_fill; intro X; refine' nt_enter (binds := [(Str.ofString "number", .int x t)]) B F X N T hk 4 hdp hun ?hf ?hc ?hb [] ?hl ?hs ?h; (case hf => k_is); (case hc => k_is); (case hb => exact fun _ => BindsTo.of_eq rfl); (case hl => exact Eq.refl [_]); (case hs => exact ⟨rfl, rfl, rfl, rfl, by decide⟩); intro g' L' s₁ Q' E' dp' un' hdp' hun' FG' F' N' B' X' T' S₁ hq he he2 hP'; have G : Gr w mean mg mb g' := ⟨X', T'⟩
  refine px_rete ?_
  refine px_call2i G F' rfl rfl rfl (pv_name (Eq.refl (some (Value.int _ _))) rfl) pv_const (fun _ => ⟨rfl, rfl⟩) fun t1 t2 tk => ?_
  ·
    refine' big_endian_spec (k := 2) ?B30 ?F30 ?X30 ?N30 ?T30 ?hk30 ?hd30 ?hu30 ?hy1 (by decide) ?r1; (case B30 => exact B'); (case F30 => exact F'); (case X30 => exact X'); (case N30 => exact N'); (case T30 => exact T'); (case hk30 => exact rfl); (case hd30 => first | exact room hdp' rfl | exact room hdp rfl | omega | ktr_room); (case hu30 => first | exact room hun' rfl | exact room hun rfl | omega | ktr_units)
    case hy1 => exact rfl
    case r1 =>
      intro b hb t s₂ S F N
      have S : Sm s₁ s₂ := Sm.trans .mk' S
      exact hq _ _ _ _ S F N fun Fz Nz => hret _ hb _ _ (S₁.trans S) Fz Nz
theorem be32_spec {w : World} {mg mb : Str → Option Value} {mean : ExcName → Option Value} {dp un : Nat} {gd : Option (List Code)} {cn : Str} {cs : Scope} {a : Addr} {ccd : Value} {cl : List (Str × Addr)} {outer : List Env} {A₀ : Around} {base h₀ : Heap} {L : Addr} {m : Str → Option Value} {news : List (Addr × Obj)} {s : Shared} {Q E : Value → Shared → Prop}
  (B : Below A₀ base outer h₀) (F : Fr h₀ L s.heap m) (X : (hd.heap_39 w.params).In h₀) (N : News h₀ L s.heap news) (T : Top hd.view_39 (looseW hd.view_39 [PySem.Str.ofString "GitError"]) mean mg mb h₀) (hk : cs.kind = .function) (hdp : dp + 5 < recursionLimit) (hun : un + 40 < cLine)
  {x : Int} {t : Tok} (hret : ∀ (b : Array UInt8), KBw.bInts b = bigOf x 4 → ∀ (t : Tok) (s₂ : Shared), Sm s s₂ → Fr h₀ L s₂.heap m → News h₀ L s₂.heap news → Q (.bytes b t) s₂) :
  wpAny (model PySem.Challenge.rw_nt0271_01.row.prog w) (ktrTop dp un gd cn cs L a ccd cl outer) (call (.ref 111) [.int x t]) Q E s := by
  w_top off; revert X; k_fill; intro X; refine' nt_enter (binds := [(Str.ofString "number", .int x t)]) B F X N T hk 4 hdp hun ?hf ?hc ?hb [] ?hl ?hs ?h; (case hf => k_is); (case hc => k_is); (case hb => exact fun _ => BindsTo.of_eq rfl); (case hl => exact Eq.refl [_]); (case hs => exact ⟨rfl, rfl, rfl, rfl, by decide⟩); intro g' L' s₁ Q' E' dp' un' hdp' hun' FG' F' N' B' X' T' S₁ hq he he2 hP'; have G : Gr w mean mg mb g' := ⟨X', T'⟩
  refine px_rete ?_
  refine px_call2i G F' rfl rfl rfl (pv_name (Eq.refl (some (Value.int _ _))) rfl) pv_const (fun _ => ⟨rfl, rfl⟩) fun t1 t2 tk => ?_
  ·
    refine' big_endian_spec (k := 4) ?B31 ?F31 ?X31 ?N31 ?T31 ?hk31 ?hd31 ?hu31 ?hy1 (by decide) ?r1; (case B31 => exact B'); (case F31 => exact F'); (case X31 => exact X'); (case N31 => exact N'); (case T31 => exact T'); (case hk31 => exact rfl); (case hd31 => first | exact room hdp' rfl | exact room hdp rfl | omega | ktr_room); (case hu31 => first | exact room hun' rfl | exact room hun rfl | omega | ktr_units)
    case hy1 => exact rfl
    case r1 =>
      intro b hb t s₂ S F N
      have S : Sm s₁ s₂ := Sm.trans .mk' S
      exact hq _ _ _ _ S F N fun Fz Nz => hret _ hb _ _ (S₁.trans S) Fz Nz
theorem be64_spec {w : World} {mg mb : Str → Option Value} {mean : ExcName → Option Value} {dp un : Nat} {gd : Option (List Code)} {cn : Str} {cs : Scope} {a : Addr} {ccd : Value} {cl : List (Str × Addr)} {outer : List Env} {A₀ : Around} {base h₀ : Heap} {L : Addr} {m : Str → Option Value} {news : List (Addr × Obj)} {s : Shared} {Q E : Value → Shared → Prop}
  (B : Below A₀ base outer h₀) (F : Fr h₀ L s.heap m) (X : (hd.heap_39 w.params).In h₀) (N : News h₀ L s.heap news) (T : Top hd.view_39 (looseW hd.view_39 [PySem.Str.ofString "GitError"]) mean mg mb h₀) (hk : cs.kind = .function) (hdp : dp + 5 < recursionLimit) (hun : un + 40 < cLine)
  {x : Int} {t : Tok} (hret : ∀ (b : Array UInt8), KBw.bInts b = bigOf x 8 → ∀ (t : Tok) (s₂ : Shared), Sm s s₂ → Fr h₀ L s₂.heap m → News h₀ L s₂.heap news → Q (.bytes b t) s₂) :
  wpAny (model PySem.Challenge.rw_nt0271_01.row.prog w) (ktrTop dp un gd cn cs L a ccd cl outer) (call (.ref 118) [.int x t]) Q E s := by
  w_top off; revert X; k_fill; intro X; refine' nt_enter (binds := [(Str.ofString "number", .int x t)]) B F X N T hk 4 hdp hun ?hf ?hc ?hb [] ?hl ?hs ?h; (case hf => k_is); (case hc => k_is); (case hb => exact fun _ => BindsTo.of_eq rfl); (case hl => exact Eq.refl [_]); (case hs => exact ⟨rfl, rfl, rfl, rfl, by decide⟩); intro g' L' s₁ Q' E' dp' un' hdp' hun' FG' F' N' B' X' T' S₁ hq he he2 hP'; have G : Gr w mean mg mb g' := ⟨X', T'⟩
  refine px_rete ?_
  refine px_call2i G F' rfl rfl rfl (pv_name (Eq.refl (some (Value.int _ _))) rfl) pv_const (fun _ => ⟨rfl, rfl⟩) fun t1 t2 tk => ?_
  ·
    refine' big_endian_spec (k := 8) ?B32 ?F32 ?X32 ?N32 ?T32 ?hk32 ?hd32 ?hu32 ?hy1 (by decide) ?r1; (case B32 => exact B'); (case F32 => exact F'); (case X32 => exact X'); (case N32 => exact N'); (case T32 => exact T'); (case hk32 => exact rfl); (case hd32 => first | exact room hdp' rfl | exact room hdp rfl | omega | ktr_room); (case hu32 => first | exact room hun' rfl | exact room hun rfl | omega | ktr_units)
    case hy1 => exact rfl
    case r1 =>
      intro b hb t s₂ S F N
      have S : Sm s₁ s₂ := Sm.trans .mk' S
      exact hq _ _ _ _ S F N fun Fz Nz => hret _ hb _ _ (S₁.trans S) Fz Nz
end
noncomputable section
theorem map_getD {l : List Int} (f : Int → Int) : ((List.range l.length).map fun i => f (l.getD i 0)) = l.map f := by
  apply List.ext_getElem
  · simp
  · intro i h1 h2
    simp at h1 h2 ⊢
    rw [List.getElem?_eq_getElem h2]; rfl
theorem law_far_spec {w : World} {mg mb : Str → Option Value} {mean : ExcName → Option Value} {dp un : Nat} {gd : Option (List Code)} {cn : Str} {cs : Scope} {a : Addr} {ccd : Value} {cl : List (Str × Addr)} {outer : List Env} {A₀ : Around} {base h₀ : Heap} {L : Addr} {m : Str → Option Value} {news : List (Addr × Obj)} {s : Shared} {Q E : Value → Shared → Prop}
  (B : Below A₀ base outer h₀) (F : Fr h₀ L s.heap m) (X : (hd.heap_39 w.params).In h₀) (N : News h₀ L s.heap news) (T : Top hd.view_39 (looseW hd.view_39 [PySem.Str.ofString "GitError"]) mean mg mb h₀) (hk : cs.kind = .function) (hdp : dp + 4 < recursionLimit) (hun : un + 32 < cLine)
  {x : Int} {t : Tok} (h0 : 0 ≤ x) (h1 : x < 2199023255552)
  (hret : ∀ (b : Array UInt8), KBw.bInts b = offOf x → ∀ (t : Tok) (s₂ : Shared), Sm s s₂ → Fr h₀ L s₂.heap m → News h₀ L s₂.heap news → Q (.bytes b t) s₂) :
  wpAny (model PySem.Challenge.rw_nt0271_01.row.prog w) (ktrTop dp un gd cn cs L a ccd cl outer) (call (.ref 231) [.int x t]) Q E s := by
  w_top off; revert X; k_fill; intro X; refine' nt_enterC (binds := [(Str.ofString "number", .int x t)]) B F X N T hk 3 hdp hun ?hf ?hc ?hb ["many", "first", "found"] ?hl ?hcm ?hcl ?hs ?h; (case hf => k_is); (case hc => k_is); (case hb => exact fun _ => BindsTo.of_eq rfl); (case hl => exact Eq.refl [_, _, _, _]); (case hcm => exact rfl); (case hcl => exact fun _ => Eq.refl [_]); (case hs => exact ⟨rfl, by decide, rfl, rfl, rfl⟩); intro g' L' s₁ Q' E' dp' un' cells hdp' hun' FG' F' N' Y' l1 B' X' T' S₁ hq hP'; obtain ⟨o', hE', d1'⟩ := CellsAre.one Y'; subst hE'; have G : Gr w mean mg mb g' := ⟨X', T'⟩
  have l2 : ∀ p ∈ news, p.1 ≠ L' + 1 := fun p hp => Nat.ne_of_lt (Nat.lt_succ_of_lt (l1 p hp))
  refine' px_pair F' ?hh33 ?hz33 ?hu33 ?hl33 ?hm33 ?hst33 ?hs33 ?h33 ?hw33; (case hh33 => exact rfl); (case hz33 => exact rfl); (case hu33 => exact rfl); (case hl33 => exact fun _ _ => Eq.refl [_, _, _, _]); (case hm33 => exact fun _ _ => Eq.refl [_, _, _, _]); (case hst33 => exact fun _ => ⟨rfl, rfl⟩); (case hs33 => exact rfl); (case hw33 => exact rfl); refine (px_eval G F' pv_const fun t1 k1 => px_eval G F' pv_const fun t2 k2 => ⟨_, F', N', fun s₂ S₂ F₂ N₂ => ?_⟩)
  refine wpAny_execs_cons (px_while (σ := Int × Tok × Int × Tok) (fun c => [("number", some (.int x t)), ("many", some (.int c.1 c.2.1)), ("first", some (.int c.2.2.1 c.2.2.2)), ("found", none)]) (fun _ => (L' + 1, o') :: news)
    (fun c => FarInv x c.1 c.2.2.1) (fun c => (7 - c.1).toNat) (_, _, _, _) F₂ N₂ hP' (farInv_start h0) ?_)
  rintro ⟨y, ty, f, tf⟩ s₃ Q₃ J S₃ F₃ N₃ rt nx
  dsimp only at J F₃ nx
  have hy0 : 0 ≤ y ∧ y ≤ 1000 := ⟨Int.le_trans (by decide) J.1, Int.le_trans J.2.1 (by decide)⟩
  refine px_test G F₃ (pt_ge (pv_name (Eq.refl (some (Value.int _ _))) rfl) (pv_add (pv_name (Eq.refl (some (Value.int _ _))) rfl) (pv_pow pv_const (pv_name (Eq.refl (some (Value.int _ _))) rfl) hy0 (by decide))) (fun _ => rfl)) (fun tk h => ?_) fun tk h => ?_
  · refine' px_pairS F₃ ?hh34 ?hz34 ?hu34 ?hl34 ?hm34 ?hst34 ?hs34 ?h34 ?hw34; (case hh34 => exact rfl); (case hz34 => exact rfl); (case hu34 => exact rfl); (case hl34 => exact fun _ _ => Eq.refl [_, _, _, _]); (case hm34 => exact fun _ _ => Eq.refl [_, _, _, _]); (case hst34 => exact fun _ => ⟨rfl, rfl⟩); (case hs34 => exact rfl); (case hw34 => exact rfl); refine (px_eval G F₃ (pv_add (pv_name (Eq.refl (some (Value.int _ _))) rfl) (pv_pow pv_const (pv_name (Eq.refl (some (Value.int _ _))) rfl) hy0 (by decide))) fun t1 k1 => px_eval G F₃ (pv_add (pv_name (Eq.refl (some (Value.int _ _))) rfl) pv_const) fun t2 k2 => ⟨_, F₃, N₃, fun s₄ S₄ F₄ N₄ => ?_⟩)
    have J2 := farInv_turn h1 J (of_decide_eq_true h)
    exact wpAny_execs_nil (nx (_, _, _, _) _ J2 (dn7 J2.2.1) (Sm.trans .mk' (Sm.trans .mk' (Sm.trans .mk' S₄))) F₄ N₄)
  obtain ⟨n, rfl⟩ := Int.eq_ofNat_of_zero_le hy0.1
  have h6 : n ≤ 6 := Int.ofNat_le.1 J.2.1
  have h8 : n ≤ 8 := Nat.le_trans h6 (by decide)
  show wpAny _ _ (execs _ _) _ _ _
  refine px_cellset F₃ N₃ (by exact rfl) l2 d1' (okV G F₃) (pv_sub (pv_name (Eq.refl (some (Value.int _ _))) rfl) (pv_name (Eq.refl (some (Value.int _ _))) rfl)) rfl (fun _ => rfl) fun s₄ o4 t4 S₄ F₄ N₄ d4 => ?_
  refine' px_compSet F₄ ?c035 ?c135 ?c235 ?c335 ?c435 ?c535 ?c635 ?c835 ?c935 ?c735; (case c035 => with_unfolding_all exact rfl); (case c135 => with_unfolding_all exact rfl); (case c235 => decide); (case c335 => exact rfl); (case c435 => decide); (case c535 => exact rfl); (case c635 => exact rfl); (case c835 => exact fun _ => Eq.refl [_, _, _, _]); (case c935 => exact fun _ => rfl)
  refine wpAny_mono (px_range3 (n := n) G F₄ N₄ rfl rfl (okV G F₄) (pv_sub (pv_name (Eq.refl (some (Value.int _ _))) rfl) pv_const) (pv_neg pv_const) (pv_neg pv_const) ⟨rfl, by decide, by decide⟩ (dn_small h8) (dn_size n) (fun _ => ⟨rfl, rfl, rfl⟩)) (fun xv s₅ h₅ => ?_) fun _ _ x => x
  refine ⟨_, [], [], n, _, le_line (Nat.le_trans h8 (by decide)), (fun _ h => nomatch h), h₅.1, fun s₆ S₆ => ?_⟩
  refine comp_pure _ (fun i => (x - f) / 128 ^ (n - 1 - i) % 128) G (fun i v h => h) ⟨rfl, rfl, rfl⟩ (cells := [(L' + 1, o4)]) (fun p hp => List.mem_append_left _ hp) (fun _ h => nomatch h) (fun i t hi => ?_) fun ys hys D s₇ S₇ F₇ N₇ off => ?_
  · have e : ((x - f).fdiv (128 ^ ((n : Int) - 1 + (i : Int) * -1).toNat)).fmod 128 = (x - f) / 128 ^ (n - 1 - i) % 128 := by
      rw [down_nat hi, Int.fdiv_eq_ediv_of_nonneg _ (Int.le_of_lt (Int.pow_pos (by decide))), Int.fmod_eq_emod_of_nonneg _ (by decide)]
    rw [← e]
    exact pv_mod (pv_div (pc_cell (by exact rfl) (.head _) d4 rfl) (pv_pow pv_const (pc_own rfl) (dn_pow hi h8) (by decide)) ⟨Int.ne_of_gt (Int.pow_pos (by decide)), pow128_py (dn_in hi h8).2⟩) pv_const (by decide)
  rw [farDigits] at hys
  have hln : (lowDig n (x - f)).reverse.length = n := by rw [List.length_reverse, lowDig_length]
  have e9 := farInv_end J (of_decide_eq_false h)
  have hk1 : (lowDig n (x - f)).reverse.length ≤ 1000 := hln.symm ▸ Nat.le_trans h6 (by decide)
  generalize (lowDig n (x - f)).reverse = ks at hys hk1 e9
  refine px_rete (px_bytes G F₇ rfl rfl (fun _ => rfl) (wpAny_BinOp ?_))
  refine' px_comp F₇ ?c136 ?c236 ?c336 ?c436 ?c536 ?c636 ?c736; (case c136 => with_unfolding_all exact rfl); (case c236 => decide); (case c336 => exact rfl); (case c436 => decide); (case c536 => exact rfl); (case c636 => exact fun _ => rfl)
  refine px_most G F₇ N₇ (Eq.refl (some (Value.ref _))) (.lst hys) hk1 rfl fun D2 o2 s₈ S₈ I₈ F₈ N₈ => ?_
  refine ⟨_, [D2], [(D2, o2)], _, _, le_line (Nat.le_trans (List.length_take_le' _ _) hk1), fun p hp => by rw [List.mem_singleton.1 hp]; exact .head _, it_list rfl F₈ N₈ I₈, fun s₉ S₉ => ?_⟩
  refine comp_pure (fun i => (ks.take (ks.length - 1)).getD i 0) (fun i => (ks.take (ks.length - 1)).getD i 0 + 128) G (fun i v h => ?_) ⟨rfl, rfl, rfl⟩ (cells := []) (fun _ h => nomatch h) (fun p hp => by rw [List.mem_singleton.1 hp]; exact .head _) (fun i t hi => pv_add (pc_own rfl) pv_const) fun ys2 hy2 D3 s₁₀ S₁₀ F₁₀ N₁₀ off2 => ?_
  · obtain ⟨k, hk, h⟩ := h
    rw [List.getD_eq_getElem?_getD, hk]; exact h
  rw [map_getD (fun k => k + 128)] at hy2
  refine px_last G F₁₀ (nw_cons (N₁₀ _ (.tail _ (.tail _ (.head _)))) (nw_cons (N₁₀ _ (.head _)) fun p (hp : p ∈ news) => N₁₀ p (.tail _ (.tail _ (.tail _ (.tail _ hp)))))) (Eq.refl (some (Value.ref _))) (.lst hys) hk1 rfl fun D4 o4 s₁₁ S₁₁ I₁₁ F₁₁ N₁₁ => ?_
  refine nt_addl G rfl F₁₁ (nw_cons (N₁₁ _ (.head _)) (nw_cons (N₁₁ _ (.tail _ (.tail _ (.head _)))) fun p (hp : p ∈ news) => N₁₁ p (.tail _ (.tail _ (.tail _ hp))))) (.lst hy2) I₁₁ ⟨by rw [List.length_map]; exact Nat.le_trans (List.length_take_le' _ _) hk1, by rw [List.length_drop]; exact Nat.le_trans (Nat.sub_le _ _) hk1⟩ fun D5 o5 s₁₂ S₁₂ I₁₂ F₁₂ N₁₂ => ?_
  rw [e9] at I₁₂
  have hl6 : (offOf x).length ≤ 1000 := Nat.le_trans (mid_off h0 (Int.lt_trans h1 (by decide)) (post := [])).1.len (by decide)
  refine ⟨_, _, _, _, rfl, I₁₂, offOf_in, hl6, F₁₂, N₁₂, fun b t s₁₃ hb S₁₃ F₁₃ N₁₃ => ?_⟩
  have S : Sm s₁ s₁₃ := (((Sm.trans .mk' S₂).trans S₃).trans (Sm.trans .mk' S₄)).trans (((((((h₅.2.trans S₆).trans S₇).trans S₈).trans S₉).trans S₁₀).trans S₁₁).trans (S₁₂.trans S₁₃))
  exact hq _ _ _ _ S F₁₃ N₁₃ fun Fz Nz => hret _ hb _ _ (S₁.trans S) Fz fun p hp => Nz p (.tail _ (.tail _ (.tail _ hp)))
end
noncomputable section
noncomputable def wide (way : Int) : Nat := if way = 0 then 2 else if way = 1 then 4 else 8
noncomputable abbrev toldSc : Scope := { kind := .function, names := [("way", .local), ("octets", .local), ("at", .local), ("found", .local), ("at_be16", .globalImplicit), ("at_be32", .globalImplicit), ("at_be64", .globalImplicit), ("at_size", .globalImplicit), ("at_offset", .globalImplicit), ("BadObject", .globalImplicit), ("BadDelta", .globalImplicit), ("BadPack", .globalImplicit)], isGenerator := false, isCoroutine := false }
theorem way_three {way : Int} (h : 0 ≤ way) (a : way ≠ 0) (b : way ≠ 1) (c : way ≠ 2) : 3 ≤ way := by (first | lia | omega)
theorem way_four {way : Int} (h : 3 ≤ way) (h5 : way < 5) (a : way ≠ 3) : way = 4 := by (first | lia | omega)
/-- the five readings, one by one -/
theorem told_ways {w : World} {mg mb : Str → Option Value} {mean : ExcName → Option Value} {dp un : Nat} {gd : Option (List Code)} {cn : Str} {cs : Scope} {a : Addr} {ccd : Value} {cl : List (Str × Addr)} {outer : List Env} {A₀ : Around} {base h₀ : Heap} {L : Addr} {l : List (Str × Option Value)} {news : List (Addr × Obj)} {s : Shared} {Q E : Value → Shared → Prop}
  (B : Below A₀ base outer h₀) (F : Fr h₀ L s.heap (lk l)) (X : (hd.heap_39 w.params).In h₀) (N : News h₀ L s.heap news) (T : Top hd.view_39 (looseW hd.view_39 [PySem.Str.ofString "GitError"]) mean mg mb h₀) (hk : cs.kind = .function) (hdp : dp + 7 < recursionLimit) (hun : un + 56 < cLine) {l' : Value → List (Str × Option Value)}
  {b : Array UInt8} {tb t t2 : Tok} {way : Int} {n : Nat} {ks pre mid post : List Int} (hb : KBw.bInts b = ks) (hn : ks.length ≤ 1000) (hw : 0 ≤ way) (hw5 : way < 5)
  (h3 : 3 ≤ way → Mid mid post ∧ ks = pre ++ mid ++ post ∧ (n : Int) = pre.length)
  (hW : lk l "way" = some (.int way t2)) (hO : lk l "octets" = some (.bytes b tb)) (hA : lk l "at" = some (.int n t)) (hl : ∀ v, setL "found" v l = l' v)
  (sW : Loc cs "way") (sO : Loc cs "octets") (sA : Loc cs "at") (sF : Loc cs "found") (g0 : Glo cs "at_be16") (g1 : Glo cs "at_be32") (g2 : Glo cs "at_be64") (g3 : Glo cs "at_size") (g4 : Glo cs "at_offset")
  {Q2 : Flow → Shared → Prop}
  (k : ∀ v nx s', (way < 3 ∧ n + wide way ≤ ks.length ∧ nx = news ∧ (∃ t, v = .int (beVal (cutOf ks n (wide way))) t) ∨ (∃ T tA tB, way = 3 ∧ ¬ Big mid ∧ v = .ref T ∧ nx = (T, { cls := .type "tuple", data := .seq #[.int (leVal mid) tA, .int ((pre.length : Int) + mid.length) tB] }) :: news) ∨ (∃ T tA tB, way = 4 ∧ ¬ Big mid ∧ v = .ref T ∧ nx = (T, { cls := .type "tuple", data := .seq #[.int (offVal mid) tA, .int ((pre.length : Int) + mid.length) tB] }) :: news)) → Sm s s' → Fr h₀ L s'.heap (lk (l' v)) → News h₀ L s'.heap nx → Q2 .next s')
  (ke : ∀ (C e : Addr) g₂ s₃, (C = 45 ∧ way < 3 ∨ C = 57 ∧ way = 3 ∨ C = 69 ∧ way = 4) → (way < 3 → ks.length < n + wide way) → (3 ≤ way → Big mid) → Sm s s₃ → Fr h₀ L g₂ (lk l) → RaisedSN base g₂ ((envX cn cs L a ccd cl) :: outer) e (.ref C) news s₃.heap → g₂.UpToSlots s₃.heap → E (.ref e) s₃) :
  wpAny (MO w) (ktrTop dp un gd cn cs L a ccd cl outer) (execs [.If (.Compare (.Name "way" p1) [.Eq] [.Constant (.int 0) k1 p2] p3) [.Assign [.Name "found" p4] (.Call (.Name "at_be16" p5) [.Name "octets" p6, .Name "at" p7] [] p8) p9]
    [.If (.Compare (.Name "way" q1) [.Eq] [.Constant (.int 1) k2 q2] q3) [.Assign [.Name "found" q4] (.Call (.Name "at_be32" q5) [.Name "octets" q6, .Name "at" q7] [] q8) q9]
    [.If (.Compare (.Name "way" r1) [.Eq] [.Constant (.int 2) k3 r2] r3) [.Assign [.Name "found" r4] (.Call (.Name "at_be64" r5) [.Name "octets" r6, .Name "at" r7] [] r8) r9]
    [.If (.Compare (.Name "way" u1) [.Eq] [.Constant (.int 3) k4 u2] u3) [.Assign [.Name "found" u4] (.Call (.Name "at_size" u5) [.Name "octets" u6, .Name "at" u7] [] u8) u9]
    [.Assign [.Name "found" v1] (.Call (.Name "at_offset" v2) [.Name "octets" v3, .Name "at" v4] [] v5) v6] v7] v8] v9] w9] (envX cn cs L a ccd cl)) Q2 E s := by
  have G : Gr w mean mg mb h₀ := ⟨X, T⟩
  refine px_ifL G F (pt_eq (pv_name hW sW) pv_const (fun _ => rfl)) (fun tk h => ?_) fun tk h => ?_
  · obtain rfl := eq_of_beq h
    exact px_let (s := { s with toks := tk }) F sF hl (fun _ => rfl) (px_call2n (s := { s with toks := tk }) G F g0 rfl rfl hO sO hA sA fun tk₁ => at_be16_spec (s := { s with toks := tk₁ }) B F X N T hk (room hdp rfl) (room hun rfl) hb hn (fun h t s₄ S F N => ⟨_, F, N, fun s₅ S₅ F₅ N₅ => wpAny_execs_nil (k _ _ _ (.inl ⟨by decide, h, rfl, _, rfl⟩) (Sm.trans .mk' (S.trans S₅)) F₅ N₅)⟩) fun h e g₂ s₄ S F R U => ke 45 e g₂ s₄ (.inl ⟨rfl, by decide⟩) (fun _ => h) (fun h => absurd h (by decide)) (Sm.trans .mk' S) F R U)
  have c0 := ne_of_beq_false h
  refine px_ifL (s := { s with toks := tk }) G F (pt_eq (pv_name hW sW) pv_const (fun _ => rfl)) (fun tk h => ?_) fun tk h => ?_
  · obtain rfl := eq_of_beq h
    exact px_let (s := { s with toks := tk }) F sF hl (fun _ => rfl) (px_call2n (s := { s with toks := tk }) G F g1 rfl rfl hO sO hA sA fun tk₁ => at_be32_spec (s := { s with toks := tk₁ }) B F X N T hk (room hdp rfl) (room hun rfl) hb hn (fun h t s₄ S F N => ⟨_, F, N, fun s₅ S₅ F₅ N₅ => wpAny_execs_nil (k _ _ _ (.inl ⟨by decide, h, rfl, _, rfl⟩) (Sm.trans .mk' (S.trans S₅)) F₅ N₅)⟩) fun h e g₂ s₄ S F R U => ke 45 e g₂ s₄ (.inl ⟨rfl, by decide⟩) (fun _ => h) (fun h => absurd h (by decide)) (Sm.trans .mk' S) F R U)
  have c1 := ne_of_beq_false h
  refine px_ifL (s := { s with toks := tk }) G F (pt_eq (pv_name hW sW) pv_const (fun _ => rfl)) (fun tk h => ?_) fun tk h => ?_
  · obtain rfl := eq_of_beq h
    exact px_let (s := { s with toks := tk }) F sF hl (fun _ => rfl) (px_call2n (s := { s with toks := tk }) G F g2 rfl rfl hO sO hA sA fun tk₁ => at_be64_spec (s := { s with toks := tk₁ }) B F X N T hk (room hdp rfl) (room hun rfl) hb hn (fun h t s₄ S F N => ⟨_, F, N, fun s₅ S₅ F₅ N₅ => wpAny_execs_nil (k _ _ _ (.inl ⟨by decide, h, rfl, _, rfl⟩) (Sm.trans .mk' (S.trans S₅)) F₅ N₅)⟩) fun h e g₂ s₄ S F R U => ke 45 e g₂ s₄ (.inl ⟨rfl, by decide⟩) (fun _ => h) (fun h => absurd h (by decide)) (Sm.trans .mk' S) F R U)
  have c2 := ne_of_beq_false h
  have w3 := way_three hw c0 c1 c2
  obtain ⟨M, hks, hp⟩ := h3 w3
  refine px_ifL (s := { s with toks := tk }) G F (pt_eq (pv_name hW sW) pv_const (fun _ => rfl)) (fun tk h => ?_) fun tk h => ?_
  · have c3 := eq_of_beq h
    exact px_let (s := { s with toks := tk }) F sF hl (fun _ => rfl) (px_call2n (s := { s with toks := tk }) G F g3 rfl rfl hO sO hA sA fun tk₁ => at_size_spec (s := { s with toks := tk₁ }) B F X N T hk (room hdp rfl) (room hun rfl) (hb.trans hks) hp M (hks ▸ hn) (fun h T tA tB s₄ S F N => ⟨_, F, N, fun s₅ S₅ F₅ N₅ => wpAny_execs_nil (k _ _ _ (.inr (.inl ⟨T, tA, tB, c3, h, rfl, rfl⟩)) (Sm.trans .mk' (S.trans S₅)) F₅ N₅)⟩) fun h e g₂ s₄ S F R U => ke 57 e g₂ s₄ (.inr (.inl ⟨rfl, c3⟩)) (fun h => absurd w3 (Int.not_le.2 h)) (fun _ => h) (Sm.trans .mk' S) F R U)
  have c4 := way_four w3 hw5 (ne_of_beq_false h)
  exact px_let (s := { s with toks := tk }) F sF hl (fun _ => rfl) (px_call2n (s := { s with toks := tk }) G F g4 rfl rfl hO sO hA sA fun tk₁ => at_offset_spec (s := { s with toks := tk₁ }) B F X N T hk (room hdp rfl) (room hun rfl) (hb.trans hks) hp M (hks ▸ hn) (fun h T tA tB s₄ S F N => ⟨_, F, N, fun s₅ S₅ F₅ N₅ => wpAny_execs_nil (k _ _ _ (.inr (.inr ⟨T, tA, tB, c4, h, rfl, rfl⟩)) (Sm.trans .mk' (S.trans S₅)) F₅ N₅)⟩) fun h e g₂ s₄ S F R U => ke 69 e g₂ s₄ (.inr (.inr ⟨rfl, c4⟩)) (fun h => absurd w3 (Int.not_le.2 h)) (fun _ => h) (Sm.trans .mk' S) F R U)
theorem told_spec {w : World} {mg mb : Str → Option Value} {mean : ExcName → Option Value} {dp un : Nat} {gd : Option (List Code)} {cn : Str} {cs : Scope} {a : Addr} {ccd : Value} {A₀ : Around} {base h₀ : Heap} {L : Addr} {m : Str → Option Value} {news : List (Addr × Obj)} {s : Shared} {Q E : Value → Shared → Prop}
  (B : Below A₀ base [] h₀) (F : Fr h₀ L s.heap m) (X : (hd.heap_39 w.params).In h₀) (N : News h₀ L s.heap news) (T : Top hd.view_39 (looseW hd.view_39 [PySem.Str.ofString "GitError"]) mean mg mb h₀) (hk : cs.kind = .function) (hdp : dp + 8 < recursionLimit) (hun : un + 64 < cLine) (XB : (hd.heap_39 w.params).In base) (TB : Top hd.view_39 (looseW hd.view_39 [PySem.Str.ofString "GitError"]) mean mg mb base)
  {b : Array UInt8} {tb t t2 : Tok} {way : Int} {n : Nat} {ks pre mid post : List Int} (hb : KBw.bInts b = ks) (hn : ks.length ≤ 1000) (hw : 0 ≤ way) (hw5 : way < 5)
  (h3 : 3 ≤ way → Mid mid post ∧ ks = pre ++ mid ++ post ∧ (n : Int) = pre.length)
  (hnone : (way < 3 → ks.length < n + wide way) → (3 ≤ way → Big mid) → ∀ s₂, Sm s s₂ → Fr h₀ L s₂.heap m → News h₀ L s₂.heap news → Q .none s₂)
  (hret : way < 3 → n + wide way ≤ ks.length → ∀ (t : Tok) (s₂ : Shared), Sm s s₂ → Fr h₀ L s₂.heap m → News h₀ L s₂.heap news → Q (.int (beVal (cutOf ks n (wide way))) t) s₂)
  (hret3 : way = 3 → ¬ Big mid → ∀ T tA tB s₂, Sm s s₂ → Fr h₀ L s₂.heap m → News h₀ L s₂.heap ((T, { cls := .type "tuple", data := .seq #[.int (leVal mid) tA, .int ((pre.length : Int) + mid.length) tB] }) :: news) → Q (.ref T) s₂)
  (hret4 : way = 4 → ¬ Big mid → ∀ T tA tB s₂, Sm s s₂ → Fr h₀ L s₂.heap m → News h₀ L s₂.heap ((T, { cls := .type "tuple", data := .seq #[.int (offVal mid) tA, .int ((pre.length : Int) + mid.length) tB] }) :: news) → Q (.ref T) s₂) :
  wpAny (model PySem.Challenge.rw_nt0271_01.row.prog w) (ktrTop dp un gd cn cs L a ccd [] []) (call (.ref 238) [.int way t2, .bytes b tb, .int n t]) Q E s := by
  w_top off; revert X; k_fill; intro X; refine' nt_enterS (binds := [(Str.ofString "way", .int way t2), (Str.ofString "octets", .bytes b tb), (Str.ofString "at", .int n t)]) B F X N T hk 7 hdp hun ?hf ?hc ?hb ["found"] ?hl ?hs ?h; (case hf => k_is); (case hc => k_is); (case hb => exact fun _ => BindsTo.of_eq rfl); (case hl => exact Eq.refl [_, _, _, _]); (case hs => exact ⟨rfl, rfl, rfl, rfl, by decide⟩); intro g' L' s₁ Q' E' dp' un' hdp' hun' FG' F' N' B' X' T' D' S₁ hq hP'; have G : Gr w mean mg mb g' := ⟨X', T'⟩
  refine' px_let F' ?hx38 ?hl38 ?hs38 ?k38; (case hx38 => exact rfl); (case hl38 => exact fun _ => Eq.refl [_, _, _, _]); (case hs38 => exact fun _ => rfl); refine wpAny_Constant_none ⟨_, F', N', fun s₂ S₂ F₂ N₂ => ?_⟩
  refine px_try fun Q₂ E₂ k2 hx => ?_
  have fin : ∀ v nx s₃, Sm s₁ s₃ → Fr g' L' s₃.heap (lk [("at", some (.int n t)), ("octets", some (.bytes b tb)), ("way", some (.int way t2)), ("found", some v)]) → News g' L' s₃.heap nx → (Fr h₀ L s₃.heap m → News h₀ L s₃.heap nx → Q v s₃) → Q₂ .next s₃ := fun v nx s₃ S F N q =>
    k2 _ (px_rete (px_name F (Eq.refl (some _)) rfl (hq _ _ _ _ _ S .refl F N q)))
  have back : ∀ (C e : Addr) g₂ s₃, (C = 45 ∧ way < 3 ∨ C = 57 ∧ way = 3 ∨ C = 69 ∧ way = 4) → (way < 3 → ks.length < n + wide way) → (3 ≤ way → Big mid) → Sm s₁ s₃ → Fr g' L' g₂ (lk [("at", some (.int n t)), ("octets", some (.bytes b tb)), ("way", some (.int way t2)), ("found", some .none)]) → RaisedSN base g₂ (envOf "_law_told" toldSc L' 238 (.ref 237) :: [envX cn cs L a ccd []]) e (.ref C) news s₃.heap → g₂.UpToSlots s₃.heap → E₂ (.ref e) s₃ := by
    intro C e g₂ s₃ hC hA hB S F R U
    refine hx _ _ (px_catch3 hC R F B' U XB TB D' ⟨rfl, rfl, rfl⟩ hP' fun A₁ s₄ g₄ b₁ hb₁ S₄ T₄ G₄ F₄ N₄ => ?_)
    have fin4 : ∀ s₅, Sm s₄ s₅ → Fr g₄ L' s₅.heap (lk [("at", some (.int n t)), ("octets", some (.bytes b tb)), ("way", some (.int way t2)), ("found", some .none)]) → News g₄ L' s₅.heap news → Q' (.ret .none) s₅ := fun s₅ S₅ F₅ N₅ =>
      hq _ _ _ _ _ ((S.trans S₄).trans S₅) T₄ F₅ N₅ fun Fz Nz => hnone hA hB _ (S₁.trans ((S.trans S₄).trans S₅)) Fz Nz
    rcases hb₁ with ⟨r, rfl⟩ | ⟨r, rfl⟩ | ⟨r, rfl⟩
    · refine' px_let F₄ ?hx39 ?hl39 ?hs39 ?k39; (case hx39 => exact rfl); (case hl39 => exact fun _ => Eq.refl [_, _, _, _]); (case hs39 => exact fun _ => rfl); refine ?_
      refine' px_ifexp G₄ F₄ ?tlt ?ult ?vlt
      case tlt => exact pt_lt (pv_name (Eq.refl (some (Value.int _ _))) rfl) pv_const (fun _ => rfl)
      case ult => exact fun tk _ => wpAny_Constant_none ⟨_, F₄, N₄, fun s₅ S₅ F₅ N₅ => wpAny_execs_nil (px_rete (px_name F₅ (Eq.refl (some _)) rfl (fin4 _ (Sm.trans .mk' S₅) F₅ N₅)))⟩
      case vlt => exact fun tk h => absurd r (of_decide_eq_false h)
    · refine' px_let F₄ ?hx40 ?hl40 ?hs40 ?k40; (case hx40 => exact rfl); (case hl40 => exact fun _ => Eq.refl [_, _, _, _]); (case hs40 => exact fun _ => rfl); refine ?_
      refine' px_ifexp G₄ F₄ ?teq ?ueq ?veq
      case teq => exact pt_eq (pv_name (Eq.refl (some (Value.int _ _))) rfl) pv_const (fun _ => rfl)
      case ueq => exact fun tk _ => wpAny_Constant_none ⟨_, F₄, N₄, fun s₅ S₅ F₅ N₅ => wpAny_execs_nil (px_rete (px_name F₅ (Eq.refl (some _)) rfl (fin4 _ (Sm.trans .mk' S₅) F₅ N₅)))⟩
      case veq => exact fun tk h => absurd r (ne_of_beq_false h)
    · refine' px_let F₄ ?hx41 ?hl41 ?hs41 ?k41; (case hx41 => exact rfl); (case hl41 => exact fun _ => Eq.refl [_, _, _, _]); (case hs41 => exact fun _ => rfl); refine ?_
      refine' px_ifexp G₄ F₄ ?teq2 ?ueq2 ?veq2
      case teq2 => exact pt_eq (pv_name (Eq.refl (some (Value.int _ _))) rfl) pv_const (fun _ => rfl)
      case ueq2 => exact fun tk _ => wpAny_Constant_none ⟨_, F₄, N₄, fun s₅ S₅ F₅ N₅ => wpAny_execs_nil (px_rete (px_name F₅ (Eq.refl (some _)) rfl (fin4 _ (Sm.trans .mk' S₅) F₅ N₅)))⟩
      case veq2 => exact fun tk h => absurd r (ne_of_beq_false h)
  have S₂ : Sm s₁ s₂ := Sm.trans .mk' S₂
  refine' told_ways (Q := fun _ _ => True) ?B37 ?F37 ?X37 ?N37 ?T37 ?hk37 ?hd37 ?hu37 hb hn hw hw5 h3 ?w1 ?w2 ?w3 ?w4 ?u1 ?u2 ?u3 ?u4 ?u5 ?u6 ?u7 ?u8 ?u9 ?w6 ?w7; (case B37 => exact B'); (case F37 => exact F₂); (case X37 => exact X'); (case N37 => exact N₂); (case T37 => exact T'); (case hk37 => exact rfl); (case hd37 => first | exact room hdp' rfl | exact room hdp rfl | omega | ktr_room); (case hu37 => first | exact room hun' rfl | exact room hun rfl | omega | ktr_units)
  case w1 => exact rfl
  case w2 => exact rfl
  case w3 => exact rfl
  case w4 => exact fun _ => Eq.refl [_, _, _, _]
  case u1 => exact rfl
  case u2 => exact rfl
  case u3 => exact rfl
  case u4 => exact rfl
  case u5 => exact rfl
  case u6 => exact rfl
  case u7 => exact rfl
  case u8 => exact rfl
  case u9 => exact rfl
  case w7 => exact fun C e g₂ s₃ hC hA hB S F R U => back C e g₂ s₃ hC hA hB (S₂.trans S) F R U
  case w6 =>
   refine fun v nx s₃ hv S F N => fin v nx s₃ (S₂.trans S) F N fun Fz Nz => ?_
   have Sz := S₁.trans (S₂.trans S)
   rcases hv with ⟨a, b, rfl, t9, rfl⟩ | ⟨T, tA, tB, a, b, rfl, rfl⟩ | ⟨T, tA, tB, a, b, rfl, rfl⟩
   · exact hret a b _ _ Sz Fz Nz
   · exact hret3 a b _ _ _ _ Sz Fz Nz
   · exact hret4 a b _ _ _ _ Sz Fz Nz
end
noncomputable section
noncomputable def numGo (y : Int) : List Int → Int → Option Int
  | [], n => some n
  | k :: ks, n => if (decide (0 ≤ k - 48) && decide (k - 48 < y)) = true then numGo y ks (y * n + (k - 48)) else none
theorem numGo_cons (y k n : Int) (ks : List Int) : numGo y (k :: ks) n = if (decide (0 ≤ k - 48) && decide (k - 48 < y)) = true then numGo y ks (y * n + (k - 48)) else none := rfl
theorem bnot_t : ∀ {b : Bool}, (!b) = true → ¬ b = true
  | false, _ => Bool.false_ne_true
theorem bnot_f : ∀ {b : Bool}, (!b) = false → b = true
  | true, _ => rfl
noncomputable def numBy (y : Int) (ks : List Int) : Option Int := if ks.length = 0 then none else numGo y ks 0
/-- None or an int, as a value -/
noncomputable def IsON (o : Option Int) (v : Value) : Prop := match o with | none => v = .none | some n => ∃ t, v = .int n t
theorem number_by_spec {w : World} {mg mb : Str → Option Value} {mean : ExcName → Option Value} {dp un : Nat} {gd : Option (List Code)} {cn : Str} {cs : Scope} {a : Addr} {ccd : Value} {cl : List (Str × Addr)} {outer : List Env} {A₀ : Around} {base h₀ : Heap} {L : Addr} {m : Str → Option Value} {news : List (Addr × Obj)} {s : Shared} {Q E : Value → Shared → Prop}
  (B : Below A₀ base outer h₀) (F : Fr h₀ L s.heap m) (X : (hd.heap_39 w.params).In h₀) (N : News h₀ L s.heap news) (T : Top hd.view_39 (looseW hd.view_39 [PySem.Str.ofString "GitError"]) mean mg mb h₀) (hk : cs.kind = .function) (hdp : dp + 4 < recursionLimit) (hun : un + 32 < cLine)
  {b : Array UInt8} {tb t : Tok} {y : Int} {ks : List Int} (hb : KBw.bInts b = ks) (hn : ks.length ≤ 1000) (hy : ∀ n, IntMulOk y n)
  (hret : ∀ v s₂, IsON (numBy y ks) v → Sm s s₂ → Fr h₀ L s₂.heap m → News h₀ L s₂.heap news → Q v s₂) :
  wpAny (model PySem.Challenge.rw_nt0271_01.row.prog w) (ktrTop dp un gd cn cs L a ccd cl outer) (call (.ref 181) [.bytes b tb, .int y t]) Q E s := by
  w_top off; revert X; k_fill; intro X; refine' nt_enter (binds := [(Str.ofString "octets", .bytes b tb), (Str.ofString "base", .int y t)]) B F X N T hk 3 hdp hun ?hf ?hc ?hb ["number", "octet", "digit"] ?hl ?hs ?h; (case hf => k_is); (case hc => k_is); (case hb => exact fun _ => BindsTo.of_eq rfl); (case hl => exact Eq.refl [_, _, _, _, _]); (case hs => exact ⟨rfl, rfl, rfl, rfl, by decide⟩); intro g' L' s₁ Q' E' dp' un' hdp' hun' FG' F' N' B' X' T' S₁ hq he he2 hP'; have G : Gr w mean mg mb g' := ⟨X', T'⟩
  refine px_if1 G F' (pt_eq (pv_len (Eq.refl (some (Value.bytes _ _))) hb hn rfl rfl) pv_const (fun _ => rfl)) (fun tk Q₂ rt h => ?_) fun tk h => ?_
  · refine px_rete (wpAny_Constant_none (rt _ _ (hq _ _ _ _ .mk' F' N' fun Fz Nz => hret _ _ ?_ (S₁.trans .mk') Fz Nz)))
    have := eq_of_beq h
    unfold numBy; rw [if_pos (by (first | lia | omega))]; rfl
  have hl : numBy y ks = numGo y ks 0 := by
    have := ne_of_beq_false h
    unfold numBy; rw [if_neg (by (first | lia | omega))]
  refine' px_set G F' N' ?pa44 ?hx44 ?hl44 ?hs44 ?k44; (case pa44 => exact pv_const); (case hx44 => exact rfl); (case hl44 => exact fun _ => Eq.refl [_, _, _, _, _]); (case hs44 => exact fun _ => rfl); intro s₂ t₂ S₂ F₂ N₂
  refine' px_for (σ := Int × Tok × Option Value) (fun c o => [("base", some (.int y t)), ("octets", some (.bytes b tb)), ("number", some (.int c.1 c.2.1)), ("octet", o), ("digit", c.2.2)]) (fun _ => news) (news.map (·.1)) (fun i c => numGo y (ks.drop i) c.1 = numGo y ks 0) (_, _, _) F₂ hP' rfl (fun _ => rfl) (fun _ _ _ => Eq.refl [_, _, _, _, _]) (fun _ => rfl) ?hit ⟨_, rfl, rfl⟩ ?turn ?done
  case hit => exact px_name F₂ (Eq.refl (some (Value.bytes _ _))) rfl ⟨it_bytes rfl F₂ N₂ hb, .rfl⟩
  case turn =>
    rintro i ⟨x, tx, d⟩ v s₃ own Q₃ hi ⟨o, ho, to, rfl⟩ I S₃ F₃ N₃ off rt nx
    dsimp only at I F₃ nx
    rw [List.drop_eq_getElem_cons hi] at I
    obtain rfl : ks[i] = o := by rw [List.getElem?_eq_getElem hi] at ho; exact Option.some.inj ho
    rw [numGo_cons] at I
    refine' px_set G F₃ N₃ ?pa45 ?hx45 ?hl45 ?hs45 ?k45; (case pa45 => exact pv_sub (pv_name (Eq.refl (some (Value.int _ _))) rfl) (pv_nought rfl)); (case hx45 => exact rfl); (case hl45 => exact fun _ => Eq.refl [_, _, _, _, _]); (case hs45 => exact fun _ => rfl); intro s₄ t₄ S₄ F₄ N₄
    refine px_if1 G F₄ (pt_not (pt_chain pv_const (pv_name (Eq.refl (some (Value.int _ _))) rfl) (pv_name (Eq.refl (some (Value.int _ _))) rfl) rfl)) (fun tk Q₂ rt' h => ?_) fun tk h => ?_
    · refine px_rete (wpAny_Constant_none (rt' _ _ (rt _ _ (hq _ _ _ _ (((Sm.trans .mk' S₂).trans S₃).trans (S₄.trans .mk')) F₄ N₄ fun Fz Nz => hret _ _ ?_ (S₁.trans (((Sm.trans .mk' S₂).trans S₃).trans (S₄.trans .mk'))) Fz fun p hp => Nz p (List.mem_append_left _ hp)))))
      rw [if_neg (bnot_t h)] at I
      rw [hl, ← I]; rfl
    · rw [if_pos (bnot_f h)] at I
      refine' px_set G F₄ N₄ ?pa46 ?hx46 ?hl46 ?hs46 ?k46; (case pa46 => exact pv_add (pv_mul (pv_name (Eq.refl (some (Value.int _ _))) rfl) (pv_name (Eq.refl (some (Value.int _ _))) rfl) (hy _)) (pv_name (Eq.refl (some (Value.int _ _))) rfl)); (case hx46 => exact rfl); (case hl46 => exact fun _ => Eq.refl [_, _, _, _, _]); (case hs46 => exact fun _ => rfl); intro s₅ t₅ S₅ F₅ N₅
      exact wpAny_execs_nil (nx (_, _, _) _ I (S₄.trans (Sm.trans .mk' S₅)) F₅ N₅)
  case done =>
    rintro ⟨x, tx, d⟩ o s₃ I S₃ F₃ N₃
    dsimp only at I F₃
    rw [List.drop_length] at I
    have S : Sm s₁ s₃ := (Sm.trans .mk' S₂).trans S₃
    exact px_ret G F₃ (pv_name (Eq.refl (some (Value.int _ _))) rfl) fun t tk => hq _ _ _ _ (S.trans .mk') F₃ N₃ fun Fz Nz => hret _ _ (by rw [hl, ← I]; exact ⟨t, rfl⟩) (S₁.trans (S.trans .mk')) Fz Nz
noncomputable def numOf (ks : List Int) : Option Int := if ((decide ((1 : Int) < ks.length)) && (ks.getD 0 0 == 48)) = true then none else numBy 10 ks
theorem number_of_spec {w : World} {mg mb : Str → Option Value} {mean : ExcName → Option Value} {dp un : Nat} {gd : Option (List Code)} {cn : Str} {cs : Scope} {a : Addr} {ccd : Value} {cl : List (Str × Addr)} {outer : List Env} {A₀ : Around} {base h₀ : Heap} {L : Addr} {m : Str → Option Value} {news : List (Addr × Obj)} {s : Shared} {Q E : Value → Shared → Prop}
  (B : Below A₀ base outer h₀) (F : Fr h₀ L s.heap m) (X : (hd.heap_39 w.params).In h₀) (N : News h₀ L s.heap news) (T : Top hd.view_39 (looseW hd.view_39 [PySem.Str.ofString "GitError"]) mean mg mb h₀) (hk : cs.kind = .function) (hdp : dp + 5 < recursionLimit) (hun : un + 40 < cLine)
  {b : Array UInt8} {tb : Tok} {ks : List Int} (hb : KBw.bInts b = ks) (hn : ks.length ≤ 1000)
  (hret : ∀ v s₂, IsON (numOf ks) v → Sm s s₂ → Fr h₀ L s₂.heap m → News h₀ L s₂.heap news → Q v s₂) :
  wpAny (model PySem.Challenge.rw_nt0271_01.row.prog w) (ktrTop dp un gd cn cs L a ccd cl outer) (call (.ref 188) [.bytes b tb]) Q E s := by
  w_top off; revert X; k_fill; intro X; refine' nt_enter (binds := [(Str.ofString "octets", .bytes b tb)]) B F X N T hk 4 hdp hun ?hf ?hc ?hb [] ?hl ?hs ?h; (case hf => k_is); (case hc => k_is); (case hb => exact fun _ => BindsTo.of_eq rfl); (case hl => exact Eq.refl [_]); (case hs => exact ⟨rfl, rfl, rfl, rfl, by decide⟩); intro g' L' s₁ Q' E' dp' un' hdp' hun' FG' F' N' B' X' T' S₁ hq he he2 hP'; have G : Gr w mean mg mb g' := ⟨X', T'⟩
  refine px_if1 G F' (pt_and (pt_gt (pv_len (Eq.refl (some (Value.bytes _ _))) hb hn rfl rfl) pv_const (fun _ => rfl)) fun h => pt_eq (pv_item (o := ks.getD 0 0) (Eq.refl (some (Value.bytes _ _))) hb hn rfl pv_const (by decide) (by
    have := of_decide_eq_true h
    rw [List.getD_eq_getElem?_getD, List.getElem?_eq_getElem (show Int.toNat 0 < ks.length by show 0 < _; (first | lia | omega))]
    rw [List.getElem?_eq_getElem (show 0 < ks.length by (first | lia | omega))]; rfl) (fun _ _ => rfl)) (pv_nought rfl) (fun _ => rfl)) (fun tk Q₂ rt h => ?_) fun tk h => ?_
  · refine px_rete (wpAny_Constant_none (rt _ _ (hq _ _ _ _ .mk' F' N' fun Fz Nz => hret _ _ ?_ (S₁.trans .mk') Fz Nz)))
    unfold numOf; rw [if_pos h]; rfl
  · refine px_rete ?_
    refine' px_call2 G F' rfl rfl rfl ?p1 ?p2 (fun _ => ⟨rfl, rfl⟩) ?k
    case p1 => exact pe_name (Eq.refl (some (Value.bytes _ _))) rfl
    case p2 => exact pe_int pv_const
    case k =>
      rintro _ _ tk rfl ⟨t2, rfl⟩
      refine' number_by_spec ?B42 ?F42 ?X42 ?N42 ?T42 ?hk42 ?hd42 ?hu42 hb hn (fun _ => by mul_fits) ?r1; (case B42 => exact B'); (case F42 => exact F'); (case X42 => exact X'); (case N42 => exact N'); (case T42 => exact T'); (case hk42 => exact rfl); (case hd42 => first | exact room hdp' rfl | exact room hdp rfl | omega | ktr_room); (case hu42 => first | exact room hun' rfl | exact room hun rfl | omega | ktr_units)
      case r1 =>
        intro v s₂ hv S F N
        have S : Sm s₁ s₂ := Sm.trans .mk' S
        exact hq _ _ _ _ S F N fun Fz Nz => hret _ _ (by unfold numOf; rw [if_neg (by rw [h]; decide)]; exact hv) (S₁.trans S) Fz Nz
theorem octal_of_spec {w : World} {mg mb : Str → Option Value} {mean : ExcName → Option Value} {dp un : Nat} {gd : Option (List Code)} {cn : Str} {cs : Scope} {a : Addr} {ccd : Value} {cl : List (Str × Addr)} {outer : List Env} {A₀ : Around} {base h₀ : Heap} {L : Addr} {m : Str → Option Value} {news : List (Addr × Obj)} {s : Shared} {Q E : Value → Shared → Prop}
  (B : Below A₀ base outer h₀) (F : Fr h₀ L s.heap m) (X : (hd.heap_39 w.params).In h₀) (N : News h₀ L s.heap news) (T : Top hd.view_39 (looseW hd.view_39 [PySem.Str.ofString "GitError"]) mean mg mb h₀) (hk : cs.kind = .function) (hdp : dp + 5 < recursionLimit) (hun : un + 40 < cLine)
  {b : Array UInt8} {tb : Tok} {ks : List Int} (hb : KBw.bInts b = ks) (hn : ks.length ≤ 1000)
  (hret : ∀ v s₂, IsON (numBy 8 ks) v → Sm s s₂ → Fr h₀ L s₂.heap m → News h₀ L s₂.heap news → Q v s₂) :
  wpAny (model PySem.Challenge.rw_nt0271_01.row.prog w) (ktrTop dp un gd cn cs L a ccd cl outer) (call (.ref 195) [.bytes b tb]) Q E s := by
  w_top off; revert X; k_fill; intro X; refine' nt_enter (binds := [(Str.ofString "octets", .bytes b tb)]) B F X N T hk 4 hdp hun ?hf ?hc ?hb [] ?hl ?hs ?h; (case hf => k_is); (case hc => k_is); (case hb => exact fun _ => BindsTo.of_eq rfl); (case hl => exact Eq.refl [_]); (case hs => exact ⟨rfl, rfl, rfl, rfl, by decide⟩); intro g' L' s₁ Q' E' dp' un' hdp' hun' FG' F' N' B' X' T' S₁ hq he he2 hP'; have G : Gr w mean mg mb g' := ⟨X', T'⟩
  refine px_rete ?_
  refine' px_call2 G F' rfl rfl rfl ?p1 ?p2 (fun _ => ⟨rfl, rfl⟩) ?k
  case p1 => exact pe_name (Eq.refl (some (Value.bytes _ _))) rfl
  case p2 => exact pe_int pv_const
  case k =>
    rintro _ _ tk rfl ⟨t2, rfl⟩
    refine' number_by_spec ?B43 ?F43 ?X43 ?N43 ?T43 ?hk43 ?hd43 ?hu43 hb hn (fun _ => by mul_fits) ?r1; (case B43 => exact B'); (case F43 => exact F'); (case X43 => exact X'); (case N43 => exact N'); (case T43 => exact T'); (case hk43 => exact rfl); (case hd43 => first | exact room hdp' rfl | exact room hdp rfl | omega | ktr_room); (case hu43 => first | exact room hun' rfl | exact room hun rfl | omega | ktr_units)
    case r1 =>
      intro v s₂ hv S F N
      have S : Sm s₁ s₂ := Sm.trans .mk' S
      exact hq _ _ _ _ S F N fun Fz Nz => hret _ _ hv (S₁.trans S) Fz Nz
end
noncomputable section
section
variable {w : World} {A : Around} {E : Value → Shared → Prop} {s : Shared} {h₀ : Heap} {L a : Addr} {m mg mb : Str → Option Value} {mean : ExcName → Option Value} {l : List (Str × Option Value)} {cn : Str} {cs : Scope} {ccd : Value} {cl : List (Str × Addr)} {news : List (Addr × Obj)} {e f : Expr} {x y : Str} {p q r : Pos} {v : Value} {Ok : World → Env → Heap → Prop}
/-- an expression that is a text and moves the tokens alone -/
noncomputable def PS (Ok : World → Env → Heap → Prop) (e : Expr) (x : Str) : Prop :=
  ∀ (w : World) (A : Around) (env : Env) (E Q : Value → Shared → Prop) (s : Shared), Ok w env s.heap → (∀ t tk', Q (.str x t) { s with toks := tk' }) → wpAny (MO w) A (eval e env) Q E s
theorem ps_const {k : Nat} : PS Ok (.Constant (.str x) k p) x := fun _ _ _ _ _ _ _ k => by
  wp_walk
  exact k _ _
theorem ps_name {z : Str} {t : Tok} (hv : lk l z = some (.str x t)) (hx : Loc cs z) : PS (OkV cs l) (.Name z p) x := by
  rintro w A _ E Q s ⟨mean, mg, mb, cn, L, a, ccd, cl, h₀, rfl, G, F⟩ k
  exact nameX_L F hv (k t s.toks) hx.of.1.1 hx.of.1.2 hx.of.2
theorem ps_hex (hx : Glo cs "HEX_SIGNS") : PS (OkV cs l) (.Name "HEX_SIGNS" p) "0123456789abcdef" := by
  rintro w A _ E Q s ⟨mean, mg, mb, cn, L, a, ccd, cl, h₀, rfl, G, F⟩ k
  exact nameX_K F G.X (topRead_of G.T) rfl (k _ s.toks) hx.of.1.1 hx.of.1.2 rfl
section
local macro_rules | `(tactic| walk_at $s:str) => `(tactic| k_extra $s)
theorem ps_find {p2 p3 : Pos} (pe : PS Ok e x) (pf : PS Ok f y) (hst : ∀ env, starEach [f] env = (false, eval f env) :: starEach [] env) {pl : Env → Sem Bool}
    (hm : ∀ env, eval (.Call (.Attribute e "find" p2) [f] [] p3) env = (do
      let ov ← eval e env
      standAt p2.atName
      let (g, first) ← holding [ov] (getMethod ov "find" (pl env))
      callWith p3 g first (backTo p3 (starEach [f] env)) (backToKw p3 (keywordEach [] env)))) : PG Ok (.Call (.Attribute e "find" p2) [f] [] p3) (Txt.find x y) := by
  intro w A env E Q s F k
  refine methodCall_KW (pe _ A _ E _ _ F fun t1 k1 => ?_) (hm _)
  k_with_none
  k_steps
  show wpAny _ _ (callWith p3 (.builtin "str.find") [.str x t1] (backTo p3 (starEach [f] env)) []) _ _ _
  exact callWith_method1 (args_cons (pf _ A _ E _ _ F fun t2 k2 => args_nil (SC.find (k _ _))) (hst _)) (hst _) rfl
theorem ps_at {i : Int} {c : Nat} (pe : PS Ok e x) (pf : PG Ok f i) (h0 : 0 ≤ i) (hc : x.cps[i.toNat]? = some c) (hn : x.length ≤ 16777216) (hs : ∀ t i u, subscripted f false (.str x t) (.int i u) = operate [.str x t, .int i u] (getItem (.str x t) (.int i u))) (ht : ∀ t r, letTemporaryGo e (.str x t) r = pure ()) : PS Ok (.Subscript e f p) ⟨#[c]⟩ := by
  intro w A env E Q s F k
  refine Subscript_ (pe _ A _ E _ _ F fun t1 k1 => pf _ A _ E _ _ F fun t2 k2 => ?_)
  have hl : i.toNat < x.length := (Array.getElem?_eq_some_iff.1 hc).1
  have e1 : Txt.item x i = ⟨#[c]⟩ := by
    unfold Txt.item Txt.charAt seqIndex?
    have h2 : i < (x.length : Int) := by (first | lia | omega)
    simp [Int.not_lt.2 h0, h0, h2, hc]
  refine KXi.item (n := x.length) rfl (by (first | lia | omega)) (by (first | lia | omega)) hn (fun _ => ?_) (hs _ _ _) (ht _)
  rw [e1]; exact k _ _
theorem ps_add (pe : PS Ok e x) (pf : PS Ok f y) (hn : x.length + y.length ≤ 1000) : PS Ok (.BinOp e .Add f p) (x ++ y) := by
  intro w A env E Q s F k
  refine wpAny_BinOp (pe _ A _ E _ _ F fun t1 k1 => pf _ A _ E _ _ F fun t2 k2 => PyProof.Rows.add_str (fun _ _ => k _ _) (by rw [PySem.sizeLine_eq]; (first | lia | omega)))
theorem pt_in {b : Bool} (pe : PS Ok e y) (pf : PS Ok f x) (hb : (!(Builtin.Str.occurrences x y 0 x.length 1).isEmpty) = b) (hm : ∀ op, behindInMarks op f = false) : PT Ok (.Compare e [.In] [f] p) b :=
  fun _ A _ E _ s F k => wpAny_isTrue_Compare1 (pe _ A _ E _ s F fun _ _ => pf _ A _ E _ _ F fun _ tk2 => PyProof.Rows.in_str (by rw [hb]; exact wpAny_truthy_bool (k tk2))) (hm _)
theorem pe_str (h : PS (OkV cs l) e x) : PE cs l e (fun v => ∃ t, v = .str x t) := fun _ _ _ _ A _ _ _ _ _ _ E Q s G F k => h _ A _ E Q s (okV G F) fun t tk => k _ tk ⟨t, rfl⟩
theorem pv_lenS {z : Str} {t : Tok} (hv : lk l z = some (.str x t)) (hn : x.length ≤ 1000) (hx : Loc cs z) (hg : Glo cs "len") : PV cs l (.Call (.Name "len" p) [.Name z q] [] r) x.length := by
  refine pv_of ?_
  intro w mean mg mb A cn L a ccd cl h₀ E Q s G F k
  refine Call_ (nameX_B F G.X (topRead_of G.T) rfl bootS_len (by decide) ?_ hg.of.1.1 hg.of.1.2 rfl)
  refine callWith_builtin1 (args_cons (nameX_L F hv (args_nil (SBL.len (by (first | lia | omega)) (k _ _))) hx.of.1.1 hx.of.1.2 hx.of.2))
theorem pt_none {z : Str} {o : Option Int} {v : Value} {k : Nat} (hv : lk l z = some v) (ho : IsON o v) (hx : Loc cs z) : PT (OkV cs l) (.Compare (.Name z p) [.Is] [.Constant .none k q] r) o.isNone := by
  rintro w A _ E Q s ⟨mean, mg, mb, cn, L, a, ccd, cl, h₀, rfl, G, F⟩ k
  refine wpAny_isTrue_Compare1 (nameX_L F hv (wpAny_Constant_none ?_) hx.of.1.1 hx.of.1.2 hx.of.2) rfl
  cases o with
  | none => obtain rfl : v = .none := ho; wp_walk; exact k s.toks
  | some n => obtain ⟨t, rfl⟩ := ho; wp_walk; exact k s.toks
end
noncomputable abbrev tx (l : List Nat) : Str := ⟨l.toArray⟩
theorem join_codes : ∀ ls : List (List Nat), Str.join (tx []) (ls.map tx) = tx ls.flatten
  | [] => rfl
  | [a] => by show tx a = _; simp
  | a :: b :: r => by
    show tx a ++ tx [] ++ Str.join (tx []) ((b :: r).map tx) = _
    rw [join_codes (b :: r)]
    show (⟨a.toArray ++ #[] ++ ((b :: r).flatten).toArray⟩ : Str) = _
    simp [tx]
/-- the object of a list of texts whose signs, put together, are u -/
noncomputable def TL (u : List Nat) (k : Nat) (o : Obj) : Prop := ∃ (vs : List Value) (n : Nat) (ls : List (List Nat)), o = listOf vs.toArray n ∧ StrsAre vs (ls.map tx) ∧ ls.flatten = u ∧ ls.length = k
theorem TL.snoc {u a : List Nat} {k n : Nat} {vs : List Value} {ls : List (List Nat)} {t : Tok} (i : StrsAre vs (ls.map tx)) (e : ls.flatten = u) (hk : ls.length = k) : TL (u ++ a) (k + 1) (listOf (vs ++ [Value.str (tx a) t]).toArray n) := by
  refine ⟨_, n, ls ++ [a], rfl, ?_, by rw [List.flatten_append, e]; simp, by rw [List.length_append, hk]; rfl⟩
  rw [List.map_append]
  clear e hk
  generalize ls.map tx = ys at i
  induction i with
  | nil => exact .cons _ _ .nil
  | cons y t _ ih => exact .cons _ _ ih
/-- ''.join(..) -/
theorem px_join {k9 : Nat} {p2 p3 : Pos} {Q : Value → Shared → Prop} (hst : ∀ env, starEach [f] env = (false, eval f env) :: starEach [] env) {pl : Env → Sem Bool}
    (hm : ∀ env, eval (.Call (.Attribute (.Constant (.str "") k9 p) "join" p2) [f] [] p3) env = (do
      let ov ← eval (.Constant (.str "") k9 p) env
      standAt p2.atName
      let (g, first) ← holding [ov] (getMethod ov "join" (pl env))
      callWith p3 g first (backTo p3 (starEach [f] env)) (backToKw p3 (keywordEach [] env))))
    (h : ∀ t', wpAny (MO w) A (eval f (envX cn cs L a ccd cl)) (fun v s₁ => ∃ D o u k news₁, v = .ref D ∧ TL u k o ∧ u.length + k ≤ 1000 ∧ Fr h₀ L s₁.heap m ∧ News h₀ L s₁.heap ((D, o) :: news₁) ∧ ∀ t s₂, Sm s₁ s₂ → Fr h₀ L s₂.heap m → News h₀ L s₂.heap ((D, o) :: news₁) → Q (.str (tx u) t) s₂) E { s with toks := t' }) :
    wpAny (MO w) A (eval (.Call (.Attribute (.Constant (.str "") k9 p) "join" p2) [f] [] p3) (envX cn cs L a ccd cl)) Q E s := by
  refine methodCall_KW (ps_const (Ok := fun _ _ _ => True) _ A _ E _ _ trivial fun t1 k1 => ?_) (hm _)
  k_with_none
  k_steps
  show wpAny _ _ (callWith p3 (.builtin "str.join") [.str "" t1] (backTo p3 (starEach [f] _)) []) _ _ _
  refine callWith_method1 (args_cons (wpAny_mono (h k1) (fun v s₁ h₁ => args_nil ?_) fun _ _ x => x) (hst _)) (hst _) rfl
  obtain ⟨D, o, u, kk, news₁, rfl, ⟨vs, n, ls, rfl, i, e, hk⟩, hn, F, N, k⟩ := h₁
  have e2 : Txt.join (Str.ofString "") (ls.map tx) = tx u := by rw [← e]; exact (eq_of_beq (join_closes (sep := Str.ofString "") (sep' := tx []) (by decide +kernel))).trans (join_codes ls)
  refine join_listW (News.isList N (.head _)) i (by decide +kernel) ?_ fun t' k' => by rw [e2]; exact k _ _ .mk' F N
  have h2 : ∀ l : List (List Nat), ((l.map tx).map (·.length)).sum = l.flatten.length := fun l => by
    induction l with
    | nil => rfl
    | cons a r ih => rw [List.map_cons, List.map_cons, List.sum_cons, ih, List.flatten_cons, List.length_append]; rfl
  rw [h2, e, List.length_map, hk]
  first | lia | omega
end
theorem px_call1s {w : World} {A : Around} {E : Value → Shared → Prop} {s : Shared} {h₀ : Heap} {L a : Addr} {mg mb : Str → Option Value} {mean : ExcName → Option Value} {l : List (Str × Option Value)} {cn : Str} {cs : Scope} {ccd : Value} {cl : List (Str × Addr)} {Z : Str} {C : Addr} {x : Str} {e : Expr} {p q : Pos} {Q : Value → Shared → Prop} (G : Gr w mean mg mb h₀) (F : Fr h₀ L s.heap (lk l)) (hZ : Glo cs Z) (hC : nsIn (hd.heap_39 w.params) mainGlobals Z = some (some (.ref C))) (hkp : keepIn (hd.heap_39 w.params) (.ref C) = true) (pa : PS (OkV cs l) e x) (hst : ∀ env, starEach [e] env = (false, eval e env) :: starEach [] env)
    (k : ∀ t tk, wpAny (MO w) A (call (.ref C) [.str x t]) Q E { s with toks := tk }) : wpAny (MO w) A (eval (.Call (.Name Z p) [e] [] q) (envX cn cs L a ccd cl)) Q E s :=
  px_call1 G F hZ hC hkp (pe_str pa) hst fun _ tk e => by obtain ⟨t, rfl⟩ := e; exact k t tk
end
noncomputable section
noncomputable abbrev ch (c : Nat) : Str := ⟨#[c]⟩
noncomputable def inAF (c : Nat) : Bool := !(Builtin.Str.occurrences "ABCDEF" (ch c) 0 (Str.length "ABCDEF") 1).isEmpty
noncomputable def hexDig (c : Nat) : Option Int :=
  if (decide (Txt.find "0123456789abcdef" (ch c) < 0) && inAF c) = true then some (10 + Txt.find "ABCDEF" (ch c)) else
  if decide (0 ≤ Txt.find "0123456789abcdef" (ch c)) = true then some (Txt.find "0123456789abcdef" (ch c)) else none
theorem hex_digit_spec {w : World} {mg mb : Str → Option Value} {mean : ExcName → Option Value} {dp un : Nat} {gd : Option (List Code)} {cn : Str} {cs : Scope} {a : Addr} {ccd : Value} {cl : List (Str × Addr)} {outer : List Env} {A₀ : Around} {base h₀ : Heap} {L : Addr} {m : Str → Option Value} {news : List (Addr × Obj)} {s : Shared} {Q E : Value → Shared → Prop}
  (B : Below A₀ base outer h₀) (F : Fr h₀ L s.heap m) (X : (hd.heap_39 w.params).In h₀) (N : News h₀ L s.heap news) (T : Top hd.view_39 (looseW hd.view_39 [PySem.Str.ofString "GitError"]) mean mg mb h₀) (hk : cs.kind = .function) (hdp : dp + 4 < recursionLimit) (hun : un + 32 < cLine)
  {c : Nat} {t : Tok} (hret : ∀ v s₂, IsON (hexDig c) v → Sm s s₂ → Fr h₀ L s₂.heap m → News h₀ L s₂.heap news → Q v s₂) :
  wpAny (model PySem.Challenge.rw_nt0271_01.row.prog w) (ktrTop dp un gd cn cs L a ccd cl outer) (call (.ref 85) [.str (ch c) t]) Q E s := by
  w_top off; revert X; k_fill; intro X; refine' nt_enter (binds := [(Str.ofString "sign", .str (ch c) t)]) B F X N T hk 3 hdp hun ?hf ?hc ?hb ["place"] ?hl ?hs ?h; (case hf => k_is); (case hc => k_is); (case hb => exact fun _ => BindsTo.of_eq rfl); (case hl => exact Eq.refl [_, _]); (case hs => exact ⟨rfl, rfl, rfl, rfl, by decide⟩); intro g' L' s₁ Q' E' dp' un' hdp' hun' FG' F' N' B' X' T' S₁ hq he he2 hP'; have G : Gr w mean mg mb g' := ⟨X', T'⟩
  refine' px_set G F' N' ?pa53 ?hx53 ?hl53 ?hs53 ?k53; (case pa53 => exact ps_find (ps_hex rfl) (ps_name (Eq.refl (some (Value.str _ _))) rfl) (fun _ => rfl) (fun _ => rfl)); (case hx53 => exact rfl); (case hl53 => exact fun _ => Eq.refl [_, _]); (case hs53 => exact fun _ => rfl); intro s₂ t₂ S₂ F₂ N₂
  refine px_if1 G F₂ (pt_and (pt_lt (pv_name (Eq.refl (some (Value.int _ _))) rfl) pv_const (fun _ => rfl)) fun _ => pt_in (b := inAF c) (ps_name (Eq.refl (some (Value.str _ _))) rfl) ps_const rfl (fun _ => rfl)) (fun tk Q₂ rt h => ?_) fun tk h => ?_
  · refine px_ret G F₂ (pv_add pv_const (ps_find ps_const (ps_name (Eq.refl (some (Value.str _ _))) rfl) (fun _ => rfl) (fun _ => rfl))) fun t tk => rt _ _ (hq _ _ _ _ (S₂.trans .mk') F₂ N₂ fun Fz Nz => hret _ _ ?_ (S₁.trans (S₂.trans .mk')) Fz Nz)
    unfold hexDig; rw [if_pos h]; exact ⟨t, rfl⟩
  · have e : hexDig c = if decide (0 ≤ Txt.find "0123456789abcdef" (ch c)) = true then some (Txt.find "0123456789abcdef" (ch c)) else none := by
      unfold hexDig; rw [if_neg (by rw [h]; decide)]
    refine px_rete (px_ifexp G F₂ (pt_ge (pv_name (Eq.refl (some (Value.int _ _))) rfl) pv_const (fun _ => rfl)) (fun tk h => ?_) fun tk h => ?_)
    · exact px_name F₂ (Eq.refl (some (Value.int _ _))) rfl (hq _ _ _ _ (S₂.trans .mk') F₂ N₂ fun Fz Nz => hret _ _ (by rw [e, if_pos h]; exact ⟨_, rfl⟩) (S₁.trans (S₂.trans .mk')) Fz Nz)
    · exact wpAny_Constant_none (hq _ _ _ _ (S₂.trans .mk') F₂ N₂ fun Fz Nz => hret _ _ (by rw [e, if_neg (by rw [h]; decide)]; exact Eq.refl Value.none) (S₁.trans (S₂.trans .mk')) Fz Nz)
noncomputable def unhex : List Nat → Option (List Int)
  | [] => some []
  | [_] => none
  | a :: b :: r => match hexDig a, hexDig b with
    | some x, some y => (unhex r).map ((16 * x + y) :: ·)
    | _, _ => none
theorem unhex_cons (a b : Nat) (r : List Nat) : unhex (a :: b :: r) = match hexDig a, hexDig b with | some x, some y => (unhex r).map ((16 * x + y) :: ·) | _, _ => none := rfl
theorem hexDig_in {c : Nat} {h : Int} (e : hexDig c = some h) : 0 ≤ h ∧ h ≤ 15 := by
  have f1 := fact_find "0123456789abcdef" (ch c)
  have f2 := fact_find "ABCDEF" (ch c)
  have l1 : ((ch c).length : Int) = 1 := rfl
  have l2 : (Str.length "0123456789abcdef" : Int) = 16 := by decide +kernel
  have l3 : (Str.length "ABCDEF" : Int) = 6 := by decide +kernel
  rw [l1, l2] at f1
  rw [l1, l3] at f2
  unfold hexDig at e
  generalize Txt.find "0123456789abcdef" (ch c) = p at *
  generalize Txt.find "ABCDEF" (ch c) = q at *
  clear l1 l2 l3
  by_cases h1 : (decide (p < 0) && inAF c) = true
  · rw [if_pos h1] at e
    have h2 := Option.some.inj e
    first | lia | omega
  · rw [if_neg h1] at e
    by_cases h3 : decide (0 ≤ p) = true
    · rw [if_pos h3] at e
      have h2 := Option.some.inj e
      have h4 := of_decide_eq_true h3
      first | lia | omega
    · rw [if_neg h3] at e; cases e
theorem unhex_odd : ∀ us : List Nat, us.length % 2 = 1 → unhex us = none
  | [], h => by cases h
  | [_], _ => rfl
  | a :: b :: r, h => by
    have ih := unhex_odd r ((Nat.add_mod_right r.length 2).symm.trans h)
    rw [unhex_cons, ih]
    cases hexDig a with
    | none => rfl
    | some x => cases hexDig b <;> rfl
/-- what is found so far, and the rest -/
noncomputable def UnInv (us : List Nat) (i : Nat) (ks : List Int) : Prop := (unhex (us.drop (2 * i))).map (ks ++ ·) = unhex us ∧ KBa.In ks ∧ ks.length = i
theorem unInv_turn {us : List Nat} {i a b : Nat} {ks : List Int} (I : UnInv us i ks) (e : us.drop (2 * i) = a :: b :: us.drop (2 * (i + 1))) :
    (((hexDig a).isNone || (hexDig b).isNone) = true → unhex us = none) ∧ ∀ x y, hexDig a = some x → hexDig b = some y → UnInv us (i + 1) (ks ++ [16 * x + y]) := by
  obtain ⟨j, k, l⟩ := I
  rw [e, unhex_cons] at j
  refine ⟨fun h => ?_, fun x y hx hy => ?_⟩
  · rw [← j]
    cases ha : hexDig a with
    | none => rfl
    | some x =>
      cases hb : hexDig b with
      | none => rfl
      | some y => rw [ha, hb] at h; cases h
  · rw [hx, hy] at j
    have h1 := hexDig_in hx
    have h2 := hexDig_in hy
    refine ⟨?_, fun n hn => ?_, by rw [List.length_append, l]; rfl⟩
    · rw [← j]
      cases unhex (us.drop (2 * (i + 1))) with
      | none => rfl
      | some r => simp
    · rcases List.mem_append.1 hn with hn | hn
      · exact k n hn
      · rw [List.mem_singleton.1 hn]; (first | lia | omega)
theorem unInv_start (us : List Nat) : UnInv us 0 [] :=
  ⟨by show Option.map (fun z => [] ++ z) (unhex us) = unhex us; cases unhex us <;> rfl, (fun _ h => nomatch h), rfl⟩
theorem small_two {n : Int} (h0 : 0 ≤ n) (h1 : n ≤ 1000) : Builtin.Range.small 0 n 2 = true := by
  have h := (by decide +kernel : ∀ m : Nat, m < 1001 → Builtin.Range.small 0 (m : Int) 2 = true) n.toNat ((Int.toNat_lt h0).2 (Int.lt_add_one_of_le h1))
  rwa [Int.toNat_of_nonneg h0] at h
theorem size_two {k : Nat} (h : k < 501) : Builtin.Range.rangeSize 0 ((2 * k : Nat) : Int) 2 = (k : Int) :=
  (by decide +kernel : ∀ m : Nat, m < 501 → Builtin.Range.rangeSize 0 ((2 * m : Nat) : Int) 2 = (m : Int)) k h
theorem two_odd {x n : Nat} (e : x = n) (h : (!((x : Int).fmod 2 == 0)) = true) : n % 2 = 1 := by
  have h := bnot_t h
  rw [e, Int.fmod_eq_emod_of_nonneg _ (by decide)] at h
  have h : ¬ (n : Int) % 2 = 0 := fun q => h (by rw [q]; rfl)
  first | lia | omega
theorem two_even {x n : Nat} (e : x = n) (hn : n ≤ 1000) (h : (!((x : Int).fmod 2 == 0)) = false) : ∃ k, n = 2 * k ∧ k < 501 := by
  have h := eq_of_beq (bnot_f h)
  rw [e, Int.fmod_eq_emod_of_nonneg _ (by decide)] at h
  exact ⟨n / 2, by (first | lia | omega)⟩
theorem two_lt {n k i : Nat} (e : n = 2 * k) (h : i < k) : 2 * i + 1 < n := by (first | lia | omega)
theorem two_at (i : Nat) : 0 + (i : Int) * 2 = ((2 * i : Nat) : Int) := by rw [Int.zero_add, Int.mul_comm]; rfl
theorem two_at1 (i : Nat) : 0 + (i : Int) * 2 + 1 = ((2 * i + 1 : Nat) : Int) := by rw [two_at]; rfl
/-- hex_digit(text[..]) -/
theorem px_hexAt {w : World} {mg mb : Str → Option Value} {mean : ExcName → Option Value} {dp un : Nat} {gd : Option (List Code)} {cn : Str} {cs : Scope} {a : Addr} {ccd : Value} {cl : List (Str × Addr)} {outer : List Env} {A₀ : Around} {base h₀ : Heap} {L : Addr} {l : List (Str × Option Value)} {news : List (Addr × Obj)} {s : Shared} {Q E : Value → Shared → Prop}
  (B : Below A₀ base outer h₀) (F : Fr h₀ L s.heap (lk l)) (X : (hd.heap_39 w.params).In h₀) (N : News h₀ L s.heap news) (T : Top hd.view_39 (looseW hd.view_39 [PySem.Str.ofString "GitError"]) mean mg mb h₀) (hk : cs.kind = .function) (hdp : dp + 4 < recursionLimit) (hun : un + 32 < cLine) {us : List Nat} {x : Str} {t : Tok} {i : Int} {n c : Nat} {f : Expr} {p1 p2 p3 p4 : Pos} (hx : x = ⟨us.toArray⟩) (hn : us.length ≤ 1000) (hv : lk l "text" = some (.str x t)) (pf : PV cs l f i) (hi : i = (n : Int)) (hc : us[n]? = some c) (sT : Loc cs "text") (sH : Glo cs "hex_digit")
  (h1 : ∀ t i u, subscripted f false (.str x t) (.int i u) = operate [.str x t, .int i u] (getItem (.str x t) (.int i u))) (h2 : ∀ t r, letTemporaryGo (.Name "text" p2) (.str x t) r = pure ()) (h3 : ∀ env, starEach [.Subscript (.Name "text" p2) f p3] env = (false, eval (.Subscript (.Name "text" p2) f p3) env) :: starEach [] env)
  (k : ∀ v s₂, IsON (hexDig c) v → Sm s s₂ → Fr h₀ L s₂.heap (lk l) → News h₀ L s₂.heap news → Q v s₂) :
  wpAny (MO w) (ktrTop dp un gd cn cs L a ccd cl outer) (eval (.Call (.Name "hex_digit" p1) [.Subscript (.Name "text" p2) f p3] [] p4) (envX cn cs L a ccd cl)) Q E s := by
  subst hi hx
  exact px_call1s ⟨X, T⟩ F sH rfl rfl (ps_at (c := c) (ps_name hv sT) pf (Int.natCast_nonneg n) (by simpa using hc) (Nat.le_trans hn (by decide)) h1 h2) h3 fun t tk => hex_digit_spec (s := { s with toks := tk }) B F X N T hk (room hdp rfl) (room hun rfl) fun v s₂ hv S => k v s₂ hv (Sm.trans .mk' S)
theorem octets_of_hex_spec {w : World} {mg mb : Str → Option Value} {mean : ExcName → Option Value} {dp un : Nat} {gd : Option (List Code)} {cn : Str} {cs : Scope} {a : Addr} {ccd : Value} {cl : List (Str × Addr)} {outer : List Env} {A₀ : Around} {base h₀ : Heap} {L : Addr} {m : Str → Option Value} {news : List (Addr × Obj)} {s : Shared} {Q E : Value → Shared → Prop}
  (B : Below A₀ base outer h₀) (F : Fr h₀ L s.heap m) (X : (hd.heap_39 w.params).In h₀) (N : News h₀ L s.heap news) (T : Top hd.view_39 (looseW hd.view_39 [PySem.Str.ofString "GitError"]) mean mg mb h₀) (hk : cs.kind = .function) (hdp : dp + 5 < recursionLimit) (hun : un + 40 < cLine)
  {us : List Nat} {x : Str} {t : Tok} (hx : x = ⟨us.toArray⟩) (hn : us.length ≤ 1000)
  (hret : ∀ ks (b : Array UInt8), unhex us = some ks → KBw.bInts b = ks → ∀ (t : Tok) (s₂ : Shared), Sm s s₂ → Fr h₀ L s₂.heap m → News h₀ L s₂.heap news → Q (.bytes b t) s₂)
  (hexc : unhex us = none → ∀ e g₂ s₂, Sm s s₂ → Fr h₀ L g₂ m → RaisedSN base g₂ (envX cn cs L a ccd cl :: outer) e (.ref 45) news s₂.heap → g₂.UpToSlots s₂.heap → E (.ref e) s₂) :
  wpAny (model PySem.Challenge.rw_nt0271_01.row.prog w) (ktrTop dp un gd cn cs L a ccd cl outer) (call (.ref 92) [.str x t]) Q E s := by
  have hlen : x.length = us.length := by rw [hx]; rfl
  have hl1 : x.length ≤ 1000 := hlen.symm ▸ hn
  w_top off; revert X; k_fill; intro X; refine' nt_enter (binds := [(Str.ofString "text", .str x t)]) B F X N T hk 4 hdp hun ?hf ?hc ?hb ["found", "at", "high", "low"] ?hl ?hs ?h; (case hf => k_is); (case hc => k_is); (case hb => exact fun _ => BindsTo.of_eq rfl); (case hl => exact Eq.refl [_, _, _, _, _]); (case hs => exact ⟨rfl, rfl, rfl, rfl, by decide⟩); intro g' L' s₁ Q' E' dp' un' hdp' hun' FG' F' N' B' X' T' S₁ hq he he2 hP'; have G : Gr w mean mg mb g' := ⟨X', T'⟩
  refine px_if1 G F' (pt_ne (pv_mod (pv_lenS (Eq.refl (some (Value.str _ _))) hl1 rfl rfl) pv_const (by decide)) pv_const (fun _ => rfl)) (fun tk Q₂ rt h => ?_) fun tk h => ?_
  · exact px_raise B' G F' N' .mk' (pa_name (Eq.refl (some _)) rfl) rfl rfl rfl (fun _ _ => cls_45) (room hdp' rfl) (room hun' rfl) (fun _ => rfl) he fun e s' S R U => hexc (unhex_odd _ (two_odd hlen h)) _ _ _ (S₁.trans S) FG' R U
  refine' px_let F' ?hx49 ?hl49 ?hs49 ?k49; (case hx49 => exact rfl); (case hl49 => exact fun _ => Eq.refl [_, _, _, _, _]); (case hs49 => exact fun _ => rfl); refine (px_list0 F' N' fun D o s₂ S₂ I₂ F₂ N₂ l₂ => ⟨_, F₂, N₂, fun s₃ S₃ F₃ N₃ => ?_⟩)
  obtain ⟨k, hk, hk5⟩ := two_even hlen hn h
  refine' px_for (σ := List Int × Obj × Option Value × Option Value) (fun c o => [("text", some (.str x t)), ("found", some (.ref D)), ("at", o), ("high", c.2.2.1), ("low", c.2.2.2)]) (fun c => (D, c.2.1) :: news) (D :: news.map (·.1)) (fun i c => IL c.1 c.2.1 ∧ UnInv us i c.1) (_, _, _, _) F₃ hP' rfl (fun _ => rfl) (fun _ _ _ => Eq.refl [_, _, _, _, _]) (fun _ => rfl) ?hit ⟨_, rfl, I₂, ?h0⟩ ?turn ?done
  case hit => exact px_range3 (n := k) G F₃ N₃ rfl rfl (okV G F₃) pv_const (pv_lenS (Eq.refl (some (Value.str _ _))) hl1 rfl rfl) pv_const ⟨rfl, by decide, by decide⟩ (small_two (Int.natCast_nonneg _) (Int.ofNat_le.2 hl1)) (by rw [hlen, hk]; exact size_two hk5) (fun _ => ⟨rfl, rfl, rfl⟩)
  case h0 => exact unInv_start us
  case turn =>
    rintro i ⟨ks, o, vh, vl⟩ v s₄ own Q₄ hi ⟨ta, rfl⟩ ⟨I, J⟩ S₄ F₄ N₄ off rt nx
    dsimp only at I J F₄ N₄ nx
    have hlt : 2 * i + 1 < us.length := two_lt hk hi
    have e2 := unInv_turn J (by
      rw [List.drop_eq_getElem_cons (Nat.lt_of_succ_lt hlt), List.drop_eq_getElem_cons hlt]; rfl)
    have ha := List.getElem?_eq_getElem (Nat.lt_of_succ_lt hlt)
    have hb := List.getElem?_eq_getElem hlt
    generalize us[2 * i] = ca at ha e2
    generalize us[2 * i + 1] = cb at hb e2
    refine' px_let F₄ ?hx50 ?hl50 ?hs50 ?k50; (case hx50 => exact rfl); (case hl50 => exact fun _ => Eq.refl [_, _, _, _, _]); (case hs50 => exact fun _ => rfl); refine ?_
    refine' px_hexAt ?B47 ?F47 ?X47 ?N47 ?T47 ?hk47 ?hd47 ?hu47 hx hn ?y1 ?y2 (two_at i) ha ?y3 ?y4 ?y5 ?y6 ?y7 ?r1; (case B47 => exact B'); (case F47 => exact F₄); (case X47 => exact X'); (case N47 => exact N₄); (case T47 => exact T'); (case hk47 => exact rfl); (case hd47 => first | exact room hdp' rfl | exact room hdp rfl | omega | ktr_room); (case hu47 => first | exact room hun' rfl | exact room hun rfl | omega | ktr_units)
    case y1 => exact rfl
    case y2 => exact (pv_name (Eq.refl (some (Value.int _ _))) rfl)
    case y3 => exact rfl
    case y4 => exact rfl
    case y5 => exact fun _ _ _ => rfl
    case y6 => exact fun _ _ => by with_unfolding_all rfl
    case y7 => exact fun _ => rfl
    case r1 =>
        intro v1 s₅ hv1 S₅ F₅ N₅
        refine ⟨_, F₅, N₅, fun s₆ S₆ F₆ N₆ => ?_⟩
        refine' px_let F₆ ?hx51 ?hl51 ?hs51 ?k51; (case hx51 => exact rfl); (case hl51 => exact fun _ => Eq.refl [_, _, _, _, _]); (case hs51 => exact fun _ => rfl); refine ?_
        refine' px_hexAt ?B48 ?F48 ?X48 ?N48 ?T48 ?hk48 ?hd48 ?hu48 hx hn ?z1 ?z2 (two_at1 i) hb ?z3 ?z4 ?z5 ?z6 ?z7 ?r2; (case B48 => exact B'); (case F48 => exact F₆); (case X48 => exact X'); (case N48 => exact N₆); (case T48 => exact T'); (case hk48 => exact rfl); (case hd48 => first | exact room hdp' rfl | exact room hdp rfl | omega | ktr_room); (case hu48 => first | exact room hun' rfl | exact room hun rfl | omega | ktr_units)
        case z1 => exact rfl
        case z2 => exact pv_add (pv_name (Eq.refl (some (Value.int _ _))) rfl) pv_const
        case z3 => exact rfl
        case z4 => exact rfl
        case z5 => exact fun _ _ _ => rfl
        case z6 => exact fun _ _ => by with_unfolding_all rfl
        case z7 => exact fun _ => rfl
        case r2 =>
            intro v2 s₇ hv2 S₇ F₇ N₇
            refine ⟨_, F₇, N₇, fun s₈ S₈ F₈ N₈ => ?_⟩
            have S48 : Sm s₄ s₈ := (S₅.trans S₆).trans (S₇.trans S₈)
            have S18 : Sm s₁ s₈ := (((Sm.trans .mk' S₂).trans S₃).trans S₄).trans S48
            refine px_if1 G F₈ (pt_or (pt_none (Eq.refl (some _)) hv1 rfl) fun _ => pt_none (Eq.refl (some _)) hv2 rfl) (fun tk Q₂ rt' h => ?_) fun tk h => ?_
            · exact px_raise B' G F₈ (fun p hp => N₈ p (.tail _ (List.mem_append_left _ hp))) (S18.trans .mk') (pa_name (Eq.refl (some _)) rfl) rfl rfl rfl (fun _ _ => cls_45) (room hdp' rfl) (room hun' rfl) (fun _ => rfl) he fun e s' S R U => hexc (e2.1 h) _ _ _ (S₁.trans S) FG' R U
            · cases h1 : hexDig ca with
              | none => rw [h1] at h; cases h
              | some x1 =>
                cases h2 : hexDig cb with
                | none => rw [h1, h2] at h; cases h
                | some x2 =>
                  rw [h1] at hv1
                  rw [h2] at hv2
                  obtain ⟨t3, rfl⟩ := hv1
                  obtain ⟨t4, rfl⟩ := hv2
                  have J2 := e2.2 x1 x2 h1 h2
                  have hl := J.2.2
                  have l9 : ∀ p ∈ news ++ own, p.1 ≠ D := fun p hp => by
                    rcases List.mem_append.1 hp with hp | hp
                    · exact l₂ p hp
                    · exact fun q => off p hp (q ▸ .head _)
                  refine' px_append G F₈ N₈ ?hv52 I l9 ?hn52 ?hx52 ?pa52 ?hst52 ?hi52 ?hm52 ?k52; (case hv52 => exact Eq.refl (some (Value.ref _))); (case hn52 => (first | lia | omega)); (case hx52 => exact rfl); (case pa52 => exact pv_add (pv_mul pv_const (pv_name (Eq.refl (some (Value.int _ _))) rfl) (by mul_fits)) (pv_name (Eq.refl (some (Value.int _ _))) rfl)); (case hst52 => exact fun _ => ⟨rfl, rfl⟩); (case hi52 => exact rfl); (case hm52 => exact fun _ => rfl); intro o' s₉ S₉ I₉ F₉ N₉
                  exact wpAny_execs_nil (nx (_, _, _, _) _ ⟨I₉, J2⟩ (S48.trans (Sm.trans .mk' S₉)) F₉ N₉)
  case done =>
    rintro ⟨ks, o, vh, vl⟩ vo s₄ ⟨I, J⟩ S₄ F₄ N₄
    dsimp only at I J F₄ N₄
    obtain ⟨j1, j2, j3⟩ := J
    rw [← hk, List.drop_length] at j1
    have e : unhex us = some ks := by rw [← j1]; simp [unhex]
    refine px_rete (px_bytes G F₄ rfl rfl (fun _ => rfl) (px_name F₄ (Eq.refl (some (Value.ref _))) rfl ⟨_, _, _, _, rfl, I, j2, j3.symm ▸ Nat.le_trans (Nat.le_of_lt hk5) (by decide), F₄, N₄, fun b t s₅ hb S₅ F₅ N₅ => ?_⟩))
    have S : Sm s₁ s₅ := ((Sm.trans .mk' S₂).trans S₃).trans (S₄.trans S₅)
    exact hq _ _ _ _ S F₅ N₅ fun Fz Nz => hret _ _ e hb _ _ (S₁.trans S) Fz fun p hp => Nz p (.tail _ hp)
end
noncomputable section
noncomputable def hexSign (d : Nat) : Nat := if d < 10 then 48 + d else 87 + d
theorem hex_cps : ∀ d : Nat, d < 16 → (Str.ofString "0123456789abcdef").cps[d]? = some (hexSign d) := by decide +kernel
noncomputable def hexCodes (ks : List Int) : List Nat := (ks.map fun k => [hexSign (k / 16).toNat, hexSign (k % 16).toNat]).flatten
theorem hexCodes_snoc (ks : List Int) (k : Int) : hexCodes (ks ++ [k]) = hexCodes ks ++ [hexSign (k / 16).toNat] ++ [hexSign (k % 16).toNat] := by
  simp [hexCodes]
theorem hexCodes_length (ks : List Int) : (hexCodes ks).length = 2 * ks.length := by
  induction ks with
  | nil => rfl
  | cons k r ih => show (hexCodes r).length + 1 + 1 = 2 * (r.length + 1); rw [ih]; rfl
theorem hx_in {k : Int} (h : 0 ≤ k ∧ k < 256) : 0 ≤ k / 16 ∧ (k / 16).toNat < 16 :=
  have h1 : 0 ≤ k / 16 := Int.ediv_nonneg h.1 (by decide)
  ⟨h1, (Int.toNat_lt h1).2 (Int.ediv_lt_of_lt_mul (by decide) h.2)⟩
theorem lx_in (k : Int) : 0 ≤ k % 16 ∧ (k % 16).toNat < 16 :=
  have h1 : 0 ≤ k % 16 := Int.emod_nonneg k (by decide)
  ⟨h1, (Int.toNat_lt h1).2 (Int.emod_lt_of_pos k (by decide))⟩
theorem hx_le {i n : Nat} (h : i < n) (hn : n ≤ 100) : 2 * i ≤ 998 := Nat.le_trans (Nat.mul_le_mul_left 2 (Nat.le_of_lt (Nat.lt_of_lt_of_le h hn))) (by decide)
theorem hi_16 {k : Int} (h : 0 ≤ k ∧ k < 256) : 0 ≤ k.fdiv (2 ^ Int.toNat 4) ∧ (Str.ofString "0123456789abcdef").cps[(k.fdiv (2 ^ Int.toNat 4)).toNat]? = some (hexSign (k / 16).toNat) := by
  have e : k.fdiv (2 ^ Int.toNat 4) = k / 16 := by rw [Int.fdiv_eq_ediv_of_nonneg _ (by decide)]; rfl
  rw [e]
  exact ⟨(hx_in h).1, hex_cps _ (hx_in h).2⟩
theorem lo_16 (k : Int) : 0 ≤ Builtin.bitAnd k 15 ∧ (Str.ofString "0123456789abcdef").cps[(Builtin.bitAnd k 15).toNat]? = some (hexSign (k % 16).toNat) := by
  have e : Builtin.bitAnd k 15 = k % 16 := bitAnd_m4 k
  rw [e]
  exact ⟨(lx_in k).1, hex_cps _ (lx_in k).2⟩
theorem IL.tl {o : Obj} (I : IL [] o) : TL [] 0 o := by
  obtain ⟨vs, n, rfl, i⟩ := I
  cases i
  exact ⟨[], n, [], rfl, .nil, rfl, rfl⟩
theorem hex_of_spec {w : World} {mg mb : Str → Option Value} {mean : ExcName → Option Value} {dp un : Nat} {gd : Option (List Code)} {cn : Str} {cs : Scope} {a : Addr} {ccd : Value} {cl : List (Str × Addr)} {outer : List Env} {A₀ : Around} {base h₀ : Heap} {L : Addr} {m : Str → Option Value} {news : List (Addr × Obj)} {s : Shared} {Q E : Value → Shared → Prop}
  (B : Below A₀ base outer h₀) (F : Fr h₀ L s.heap m) (X : (hd.heap_39 w.params).In h₀) (N : News h₀ L s.heap news) (T : Top hd.view_39 (looseW hd.view_39 [PySem.Str.ofString "GitError"]) mean mg mb h₀) (hk : cs.kind = .function) (hdp : dp + 4 < recursionLimit) (hun : un + 32 < cLine)
  {b : Array UInt8} {tb : Tok} {ks : List Int} (hb : KBw.bInts b = ks) (hn : ks.length ≤ 100)
  (hret : ∀ (t : Tok) (s₂ : Shared), Sm s s₂ → Fr h₀ L s₂.heap m → News h₀ L s₂.heap news → Q (.str (tx (hexCodes ks)) t) s₂) :
  wpAny (model PySem.Challenge.rw_nt0271_01.row.prog w) (ktrTop dp un gd cn cs L a ccd cl outer) (call (.ref 78) [.bytes b tb]) Q E s := by
  w_top off; revert X; k_fill; intro X; refine' nt_enter (binds := [(Str.ofString "octets", .bytes b tb)]) B F X N T hk 3 hdp hun ?hf ?hc ?hb ["found", "octet"] ?hl ?hs ?h; (case hf => k_is); (case hc => k_is); (case hb => exact fun _ => BindsTo.of_eq rfl); (case hl => exact Eq.refl [_, _, _]); (case hs => exact ⟨rfl, rfl, rfl, rfl, by decide⟩); intro g' L' s₁ Q' E' dp' un' hdp' hun' FG' F' N' B' X' T' S₁ hq he he2 hP'; have G : Gr w mean mg mb g' := ⟨X', T'⟩
  refine' px_let F' ?hx54 ?hl54 ?hs54 ?k54; (case hx54 => exact rfl); (case hl54 => exact fun _ => Eq.refl [_, _, _]); (case hs54 => exact fun _ => rfl); refine (px_list0 F' N' fun D o s₂ S₂ I₂ F₂ N₂ l₂ => ⟨_, F₂, N₂, fun s₃ S₃ F₃ N₃ => ?_⟩)
  refine' px_for (σ := Obj) (fun c o => [("octets", some (.bytes b tb)), ("found", some (.ref D)), ("octet", o)]) (fun c => (D, c) :: news) (D :: news.map (·.1)) (fun i c => TL (hexCodes (ks.take i)) (2 * i) c) o F₃ hP' rfl (fun _ => rfl) (fun _ _ _ => Eq.refl [_, _, _]) (fun _ => rfl) ?hit ⟨_, rfl, IL.tl I₂⟩ ?turn ?done
  case hit => exact px_name F₃ (Eq.refl (some (Value.bytes _ _))) rfl ⟨it_bytes rfl F₃ N₃ hb, .rfl⟩
  case turn =>
    rintro i c v s₄ own Q₄ hi ⟨k, hk, to, rfl⟩ ⟨vs, n, ls, rfl, i1, e1, l1⟩ S₄ F₄ N₄ off rt nx
    have hk9 := KBw.ints_in (hb ▸ List.mem_of_getElem? hk)
    have l9 : ∀ p ∈ news ++ own, p.1 ≠ D := fun p hp => by
      rcases List.mem_append.1 hp with hp | hp
      · exact l₂ p hp
      · exact fun q => off p hp (q ▸ .head _)
    have hv : vs.length ≤ 998 := by rw [i1.length, List.length_map, l1]; exact hx_le hi hn
    have h16 := hi_16 hk9
    have l16 := lo_16 k
    refine' px_appendV G F₄ N₄ (Eq.refl (some (Value.ref _))) l9 (Nat.le_trans hv (by decide)) ?x1 ?p1 ?s1 ?i1 ?m1 ?kk1
    case x1 => exact rfl
    case p1 => exact pe_str (ps_at (ps_hex rfl) (pv_shr (pv_name (Eq.refl (some (Value.int _ _))) rfl) pv_const (by decide)) h16.1 h16.2 (by decide +kernel) (fun _ _ _ => rfl) (fun _ _ => by with_unfolding_all rfl))
    case s1 => exact fun _ => ⟨rfl, rfl⟩
    case i1 => exact rfl
    case m1 => exact fun _ => rfl
    case kk1 =>
      rintro _ s₅ S₅ ⟨t5, rfl⟩ F₅ N₅
      obtain ⟨vs2, n2, ls2, e9, i2, e2, l2⟩ := TL.snoc (t := t5) (n := n + 1) (a := [hexSign (k / 16).toNat]) i1 e1 l1
      rw [e9] at N₅
      have hv2 : vs2.length ≤ 999 := by rw [i2.length, List.length_map, l2]; exact Nat.succ_le_succ (hx_le hi hn)
      refine' px_appendV G F₅ N₅ (Eq.refl (some (Value.ref _))) l9 (Nat.le_trans hv2 (by decide)) ?x2 ?p2 ?s2 ?i2 ?m2 ?kk2
      case x2 => exact rfl
      case p2 => exact pe_str (ps_at (ps_hex rfl) (pv_and (pv_name (Eq.refl (some (Value.int _ _))) rfl) pv_const) l16.1 l16.2 (by decide +kernel) (fun _ _ _ => rfl) (fun _ _ => by with_unfolding_all rfl))
      case s2 => exact fun _ => ⟨rfl, rfl⟩
      case i2 => exact rfl
      case m2 => exact fun _ => rfl
      case kk2 =>
        rintro _ s₆ S₆ ⟨t6, rfl⟩ F₆ N₆
        refine wpAny_execs_nil (nx _ _ ?_ (S₅.trans S₆) F₆ N₆)
        rw [List.take_add_one, hk]
        show TL (hexCodes (ks.take i ++ [k])) _ _
        rw [hexCodes_snoc]
        exact TL.snoc i2 e2 l2
  case done =>
    rintro c vo s₄ J S₄ F₄ N₄
    rw [List.take_length] at J
    refine px_rete (px_join (fun _ => rfl) (fun _ => rfl) fun t' => px_name F₄ (Eq.refl (some (Value.ref _))) rfl ⟨_, _, _, _, _, rfl, J, by rw [hexCodes_length]; exact Nat.le_trans (Nat.add_le_add (Nat.mul_le_mul_left 2 hn) (Nat.mul_le_mul_left 2 hn)) (by decide), F₄, N₄, fun t s₅ S₅ F₅ N₅ => ?_⟩)
    have S : Sm s₁ s₅ := (S₂.trans S₃).trans (S₄.trans (Sm.trans .mk' S₅))
    exact hq _ _ _ _ S F₅ N₅ fun Fz Nz => hret _ _ (S₁.trans S) Fz fun p hp => Nz p (.tail _ hp)
end
noncomputable section
section
variable {w : World} {mg mb : Str → Option Value} {mean : ExcName → Option Value} {dp un : Nat} {gd : Option (List Code)} {cn : Str} {cs : Scope} {a : Addr} {ccd : Value} {cl : List (Str × Addr)} {outer : List Env} {A₀ : Around} {base h₀ : Heap} {L : Addr} {m : Str → Option Value} {news : List (Addr × Obj)} {s : Shared} {Q E : Value → Shared → Prop}
/-- the ground may have turned -/
noncomputable def Turned (A₀ : Around) (base : Heap) (outer : List Env) (h₀ : Heap) (L : Addr) (m : Str → Option Value) (news : List (Addr × Obj)) (h' : Heap) : Prop :=
  ∃ h₁, KtsTurn (outer.filterMap (·.frame)) h₀ h₁ ∧ Fr h₁ L h' m ∧ News h₁ L h' news ∧ Below A₀ base outer h₁
theorem turn_back {h h' g' : Heap} {L' : Addr} {m' : Str → Option Value} {news' : List (Addr × Obj)} {env : Env} (B : Below A₀ base outer h₀) (FG : Fr h₀ L h m) (hf : env.frame = some L) (T : KtsTurn ((env :: outer).filterMap (·.frame)) h g') (F' : Fr g' L' h' m') (N' : News g' L' h' news') : Turned A₀ base outer h₀ L m news' h' := by
  have up : h.UpToSlots h' := fun b o e _ => by
    obtain ⟨sl, hs⟩ := T.up e
    exact ⟨sl, F'.keep _ _ hs⟩
  have ef : ∀ b, b ∈ (env :: outer).filterMap (·.frame) → b ∈ (envOf "" (default : Scope) L 0 .none :: outer).filterMap (·.frame) := fun b hb => by
    rw [List.filterMap_cons, hf] at hb; exact hb
  obtain ⟨g, T1, F1, B1⟩ := kts_ground (name := "") (scope := default) (a := 0) (cd := .none) (B := hideAll h' ((envOf "" (default : Scope) L 0 .none :: outer).filterMap (·.frame))) B FG (fun b o e hb => hideAll_get _ (F'.keep _ _ (T.other b o e fun q => hb (ef b q))) hb) (fun b o e => of_hideAll _ e) up
  have nn : ∀ p ∈ news', h.get? p.1 = none := fun p hp => by
    cases q : h.get? p.1 with
    | none => rfl
    | some o =>
      obtain ⟨sl, hs⟩ := T.up q
      have := (N' p hp).2.2
      rw [hs] at this; cases this
  refine ⟨g, T1, F1, fun p hp => ⟨(N' p hp).1, fun q => ?_, T1.none_ _ ?_⟩, B1⟩
  · obtain ⟨o, _, _, e, _⟩ := FG.ns
    have e2 : h.get? L = some o := e
    have := nn p hp
    rw [q, e2] at this; cases this
  · cases q : h₀.get? p.1 with
    | none => rfl
    | some o =>
      have := nn p hp
      rw [FG.keep _ _ q] at this; cases this
/-- the way back out of a body behind which the ground may have turned -/
noncomputable def OutG (A₀ : Around) (base : Heap) (outer : List Env) (h₀ : Heap) (L : Addr) (m : Str → Option Value) (Q : Value → Shared → Prop) (fs : List Addr) (g : Heap) (L' : Addr) (s₁ : Shared) (Q' : Flow → Shared → Prop) : Prop :=
  ∀ v news' m' g' s', Sm s₁ s' → KtsTurn fs g g' → Fr g' L' s'.heap m' → News g' L' s'.heap news' → (Turned A₀ base outer h₀ L m news' s'.heap → Q v s') → Q' (.ret v) s'
theorem nt_enterG {name qual : Str} {params : Arguments} {body : List Stmt} {scope : Scope} {dV kV doc pm cdv ct oc : Value} {an od : Option Addr} {osl : Array (Option Value)} {f : Addr} {args : List Value} {binds : List (Str × Value)} {ls : List (Str × Option Value)} {cm : Str → Option Value} {cls : Addr → List (Str × Addr)}
  (B : Below A₀ base outer h₀) (F : Fr h₀ L s.heap m) (X : (hd.heap_39 w.params).In h₀) (N : News h₀ L s.heap news) (T : Top hd.view_39 (looseW hd.view_39 [PySem.Str.ofString "GitError"]) mean mg mb h₀) (hk : cs.kind = .function) (D : KtsDicts (outer.filterMap (·.frame)) h₀) (k : Nat) (hdp : dp + (k + 1) < recursionLimit) (hun : un + 8 * (k + 1) < cLine)
  (hf : (hd.heap_39 w.params).lookup f = some { cls := oc, dict := od, data := .func (fnOf name qual params body scope dV kV doc pm an cdv ct), slots := osl })
  (hc : codeIn (hd.heap_39 w.params) cdv qual = true) (hb : ∀ s, BindsTo s (fnOf name qual params body scope dV kV doc pm an cdv ct) ⟨args, []⟩ binds) (ns : List Str)
  (hl : bindLs (fun z => scope.names.lookup z) binds [] ++ nons ns = ls) (hcm : bindC (fun z => scope.names.lookup z) binds (fun _ => none) = cm) (hcl : ∀ n, cellsFrom n scope.names [] = cls n)
  (hs : (binds.all fun y => List.lookup y.fst scope.names == some NameKind.local || List.lookup y.fst scope.names == some NameKind.cell) = true ∧ (List.map (fun x => x.fst) (cellsFrom 0 scope.names [])).Nodup ∧ scope.isCoroutine = false ∧ scope.isGenerator = false ∧ scope.kind = .function)
  (h : ∀ g L' s₁ Q' E' dp' un' cells A', A' = (ktrTop dp un gd cn cs L a ccd cl outer).deeper (envX qual scope L' f cdv (cls (L' + 1))) → A' = ktrTop dp' un' gd qual scope L' f cdv (cls (L' + 1)) (envX cn cs L a ccd cl :: outer) → dp' + k < recursionLimit → un' + 8 * k < cLine → Fr h₀ L g m → Fr g L' s₁.heap (lk ls) → News g L' s₁.heap (cells ++ news) → CellsAre cm (cls (L' + 1)) cells → (∀ p ∈ news, p.1 < L') → Below (ktrTop dp un gd cn cs L a ccd cl outer) base (envX cn cs L a ccd cl :: outer) g → (hd.heap_39 w.params).In g → Top hd.view_39 (looseW hd.view_39 [PySem.Str.ofString "GitError"]) mean mg mb g →
    KtsDicts ((envX cn cs L a ccd cl :: outer).filterMap (·.frame)) g → Sm s s₁ → OutG A₀ base outer h₀ L m Q ((envX cn cs L a ccd cl :: outer).filterMap (·.frame)) g L' s₁ Q' → PassesOwn (MO w) A' (envX qual scope L' f cdv (cls (L' + 1))) E' → (∀ e, PassesOwnAt (MO w) (A'.mark (some (.ref e))) A' (envX qual scope L' f cdv (cls (L' + 1))) E') →
    wpAny (MO w) A' (execs body (envX qual scope L' f cdv (cls (L' + 1)))) Q' E' s₁) :
  wpAny (model PySem.Challenge.rw_nt0271_01.row.prog w) (ktrTop dp un gd cn cs L a ccd cl outer) (call (.ref f) args) Q E s := by
  refine wpAny_call ?_
  obtain ⟨FG, BG, st, -⟩ := groundX (A := ktrTop dp un gd cn cs L a ccd cl outer) (env := envX cn cs L a ccd cl) (R := fun _ _ => True) B F N rfl rfl hk
  have XH := X.keeps F.keep
  refine codeAny_call_function (Nat.lt_of_le_of_lt (Nat.le_add_right _ _) hdp) (XH _ _ hf) rfl hs.2.2.1 hs.2.2.2.1 rfl (codeRec_of XH hc) (hb s _ _ _ _ ?_)
  refine wpAny_newFunctionEnv_cells hs.2.2.2.2 (kindsX hs.1 _) fun env' he s' x => ?_
  subst he
  refine ⟨(T.nolimit.keeps F.keep).keeps x.toInCall.keep, codeAny_func ?_⟩
  obtain ⟨h₁, tk, rfl, _⟩ := x.done
  have hk₁ := x.toInCall.keep
  obtain ⟨cells, NC, Y⟩ := Cl.news (h₀ := s.heap) (Nat.le_refl _) fun n c hm => ⟨x.cell n c (lookup_of_mem_nodup (cellsFrom_names scope.names 0 (s.heap.objs.size + 1) [] [] rfl ▸ hs.2.1) hm), x.above n c hm⟩
  obtain rfl : cls = fun n => cellsFrom n scope.names [] := funext fun n => (hcl n).symm
  have F2 : Fr (hideAll s.heap (news.map (·.1))) s.heap.objs.size h₁ (lk ls) := by
    rw [← hl, lk_pad (nons_none ns), ← bindL_lk]
    exact ⟨x.toInCall.ns, fun b o e => hk₁ b o (of_hideAll _ e), Nat.le_of_eq (hideAll_size _ _)⟩
  refine h (hideAll s.heap (news.map (·.1))) s.heap.objs.size _ _ _ (dp + 1) (un + 3) cells _ (Eq.refl _) (Eq.refl _) (room1 hdp) (room3 hun) FG F2 (fun p hp => ?_) (hcm ▸ Y) (fun p hp => Heap.lt_size (N p hp).1) BG (X.keeps st) (T.keeps st) ?_ .mk' ?_ ?_ ?_
  · rcases List.mem_append.mp hp with hp | hp
    · refine ⟨(NC p hp).1, (NC p hp).2.1, ?_⟩
      cases q : (hideAll s.heap (news.map (·.1))).get? p.1 with
      | none => rfl
      | some o => have := of_hideAll _ q; rw [(NC p hp).2.2] at this; cases this
    · exact ⟨hk₁ _ _ (N p hp).1, Nat.ne_of_lt (Heap.lt_size (N p hp).1), hideAll_none _ (List.mem_map_of_mem hp)⟩
  · intro b hb
    rw [List.filterMap_cons] at hb
    rcases List.mem_cons.1 hb with rfl | hb
    · obtain ⟨o, es, n, e, d, _⟩ := FG.ns
      exact ⟨o, es, n, e, d⟩
    · obtain ⟨o, es, n, e, d⟩ := D b hb
      exact ⟨o, es, n, st _ _ e, d⟩
  · intro v news' m' g' s' S T3 F3 N3 q
    exact q (turn_back B FG rfl T3 F3 N3)
  · passes_own
  · intro e; passes_own
/-- one own handler -/
theorem px_catch1 {scope : Scope} {g : Heap} {L' a' : Addr} {cd : Value} {name : Str} {e : Addr} {g₂ : Heap} {m' : Str → Option Value} {b1 : Stmt} {n1 p1 : Pos} {Q : Flow → Shared → Prop} {E : Value → Shared → Prop} {s : Shared} {A : Around} {hsr : List ExceptHandler}
  (R : RaisedSN base g₂ (envOf name scope L' a' cd :: outer) e (.ref 45) news s.heap) (F : Fr g L' g₂ m') (B : Below A base outer g) (U : g₂.UpToSlots s.heap)
  (XB : (hd.heap_39 w.params).In base) (TB : Top hd.view_39 (looseW hd.view_39 [PySem.Str.ofString "GitError"]) mean mg mb base) (D : KtsDicts (outer.filterMap (·.frame)) g) (hg : Glo scope "BadObject")
  (hE : ∀ e, PassesOwnAt (MO w) ((A.deeper (envOf name scope L' a' cd)).mark (some (.ref e))) (A.deeper (envOf name scope L' a' cd)) (envOf name scope L' a' cd) E)
  (k : ∀ A' s' g', Sm s s' → KtsTurn (outer.filterMap (·.frame)) g g' → Fr g' L' s'.heap m' → News g' L' s'.heap news → Below A base outer g' → wpAny (MO w) A' (execs [b1] (envX name scope L' a' cd [])) Q E s') :
  wpAny (MO w) (A.deeper (envOf name scope L' a' cd)) (noteFrame (.ref e) (envX name scope L' a' cd [])) (fun _ s₂ => wpAny (MO w) (A.deeper (envOf name scope L' a' cd)) (setFlight (.ref e) none) (fun _ s₃ =>
    wpAny (MO w) (A.deeper (envOf name scope L' a' cd)) (handleBy (.ref e) (envX name scope L' a' cd []) (.ExceptHandler (some (.Name "BadObject" n1)) none [b1] p1 :: hsr)) Q E s₃) E s₂) E s := by
  have t1 : ∀ (cls : Value) (b : Bool), exmOne (hd.heap_39 w.params) cls (.ref 45) = some b → KtsTest PySem.Challenge.rw_nt0271_01.row.prog w (hd.heap_39 w.params) hd.view_39 (looseW hd.view_39 [PySem.Str.ofString "GitError"]) mg mb name scope L' a' cd cls (.Name "BadObject" n1) b := fun cls b h => test_name (.inl rfl) h hg.of.1.1 hg.of.1.2 rfl
  refine kts_lookSN R F B U D fun h₁ R U => ?_
  exact hit_SN0 R F B U XB TB D .refl (t1 _ _ rfl) (fun h' g' T3 F3 N3 B3 X3 P3 D3 => k _ _ g' .mk' T3 F3 N3 B3) (hE e)
end
end
noncomputable section
theorem cells_zero {cm : Str → Option Value} {cells : List (Addr × Obj)} (x : CellsAre cm [] cells) : cells = [] := by cases x; rfl
theorem back_spec {w : World} {mg mb : Str → Option Value} {mean : ExcName → Option Value} {dp un : Nat} {gd : Option (List Code)} {cn : Str} {cs : Scope} {a : Addr} {ccd : Value} {cl : List (Str × Addr)} {outer : List Env} {A₀ : Around} {base h₀ : Heap} {L : Addr} {m : Str → Option Value} {news : List (Addr × Obj)} {s : Shared} {Q E : Value → Shared → Prop}
  (B : Below A₀ base outer h₀) (F : Fr h₀ L s.heap m) (X : (hd.heap_39 w.params).In h₀) (N : News h₀ L s.heap news) (T : Top hd.view_39 (looseW hd.view_39 [PySem.Str.ofString "GitError"]) mean mg mb h₀) (hk : cs.kind = .function) (hdp : dp + 7 < recursionLimit) (hun : un + 56 < cLine) (XB : (hd.heap_39 w.params).In base) (TB : Top hd.view_39 (looseW hd.view_39 [PySem.Str.ofString "GitError"]) mean mg mb base) (D : KtsDicts (outer.filterMap (·.frame)) h₀)
  {us : List Nat} {x : Str} {t : Tok} (hx : x = ⟨us.toArray⟩) (hn : us.length ≤ 1000)
  (hret : ∀ ks (b : Array UInt8), unhex us = some ks → KBw.bInts b = ks → ∀ t s₂, Sm s s₂ → Turned A₀ base outer h₀ L m news s₂.heap → Q (.bytes b t) s₂)
  (hnone : unhex us = none → ∀ s₂, Sm s s₂ → Turned A₀ base outer h₀ L m news s₂.heap → Q .none s₂) :
  wpAny (model PySem.Challenge.rw_nt0271_01.row.prog w) (ktrTop dp un gd cn cs L a ccd cl outer) (call (.ref 245) [.str x t]) Q E s := by
  w_top off; revert X; k_fill; intro X; refine' nt_enterG (binds := [(Str.ofString "text", .str x t)]) B F X N T hk (by assumption) 6 hdp hun ?hf ?hc ?hb ["found"] ?hl ?hcm ?hcl ?hs ?h; (case hf => k_is); (case hc => k_is); (case hb => exact fun _ => BindsTo.of_eq rfl); (case hl => exact Eq.refl [_, _]); (case hcm => exact rfl); (case hcl => exact fun _ => Eq.refl []); (case hs => exact ⟨rfl, by decide, rfl, rfl, rfl⟩); intro g' L' s₁ Q' E' dp' un' cells A' hA hA' hdp' hun' FG' F' N' Y' l1 B' X' T' D' S₁ hq hP' hP2; obtain rfl := cells_zero Y'; have G : Gr w mean mg mb g' := ⟨X', T'⟩
  refine' px_let F' ?hx56 ?hl56 ?hs56 ?k56; (case hx56 => exact rfl); (case hl56 => exact fun _ => Eq.refl [_, _]); (case hs56 => exact fun _ => rfl); refine wpAny_Constant_none ⟨_, F', N', fun s₂ S₂ F₂ N₂ => ?_⟩
  refine px_try fun Q₂ E₂ k2 hx2 => ?_
  subst hA
  refine' px_let F₂ ?hx57 ?hl57 ?hs57 ?k57; (case hx57 => exact rfl); (case hl57 => exact fun _ => Eq.refl [_, _]); (case hs57 => exact fun _ => rfl); refine ?_
  refine' px_call1 G F₂ rfl rfl rfl ?q1 (fun _ => rfl) ?q2
  case q1 => exact pe_name (Eq.refl (some (Value.str _ _))) rfl
  case q2 =>
    rintro _ tk rfl
    refine' octets_of_hex_spec ?B55 ?F55 ?X55 ?N55 ?T55 ?hk55 ?hd55 ?hu55 hx hn ?r1 ?e1; (case B55 => exact B'); (case F55 => exact F₂); (case X55 => exact X'); (case N55 => exact N₂); (case T55 => exact T'); (case hk55 => exact rfl); (case hd55 => first | exact room hdp' rfl | exact room hdp rfl | omega | ktr_room); (case hu55 => first | exact room hun' rfl | exact room hun rfl | omega | ktr_units)
    case r1 =>
      exact fun ks b hu hb t2 s₃ S₃ F₃ N₃ => ⟨_, F₃, N₃, fun s₄ S₄ F₄ N₄ => wpAny_execs_nil (k2 _ (px_rete (px_name F₄ (Eq.refl (some _)) rfl (hq _ _ _ _ _ (S₂.trans ((Sm.trans .mk' S₃).trans S₄)) .refl F₄ N₄ fun Z => hret _ _ hu hb _ _ (S₁.trans (S₂.trans ((Sm.trans .mk' S₃).trans S₄))) Z))))⟩
    case e1 =>
      refine fun hu e g₂ s₃ S₃ F₃ R U => hx2 _ _ (px_catch1 R F₃ B' U XB TB D' rfl hP2 fun A₁ s₄ g₄ S₄ T₄ F₄ N₄ _ => ?_)
      refine' px_let F₄ ?hx58 ?hl58 ?hs58 ?k58; (case hx58 => exact rfl); (case hl58 => exact fun _ => Eq.refl [_, _]); (case hs58 => exact fun _ => rfl); refine wpAny_Constant_none ⟨_, F₄, N₄, fun s₅ S₅ F₅ N₅ => wpAny_execs_nil (px_rete (px_name F₅ (Eq.refl (some _)) rfl (hq _ _ _ _ _ ((S₂.trans (Sm.trans .mk' S₃)).trans (S₄.trans S₅)) T₄ F₅ N₅ fun Z => hnone hu _ (S₁.trans ((S₂.trans (Sm.trans .mk' S₃)).trans (S₄.trans S₅))) Z)))⟩
end
noncomputable section
open PyProof.V in
/-- the deck's dict -/
noncomputable def DkO (w : World) (Lf : Addr) (mx : Int) (o : Obj) : Prop := ∃ t, o.IsDictOf (PySem.strKind PySem.Challenge.rw_nt0271_01.row.prog w) [("left", .ref Lf), ("mixed", .int mx t)]
/-- the deck: its dict and its list -/
noncomputable def Dk (w : World) (Lf : Addr) (oD oL : Obj) : Prop := ∃ xs mx, DkO w Lf mx oD ∧ IL xs oL ∧ xs.length ≤ 24 ∧ 0 ≤ mx ∧ mx < 1000003
section
variable {w : World} {A : Around} {E : Value → Shared → Prop} {s : Shared} {h₀ : Heap} {L a : Addr} {m mg mb : Str → Option Value} {mean : ExcName → Option Value} {l : List (Str × Option Value)} {cn : Str} {cs : Scope} {ccd : Value} {cl : List (Str × Addr)} {news : List (Addr × Obj)} {e f : Expr} {x y : Int} {p q r : Pos} {v : Value}
/-- deck['left'] -/
theorem px_left {z : Str} {D Lf : Addr} {oD : Obj} {mx : Int} {k9 : Nat} {p2 p3 : Pos} {Q : Value → Shared → Prop} (F : Fr h₀ L s.heap (lk l)) (hv : lk l z = some (.ref D)) (N : News h₀ L s.heap ((D, oD) :: news)) (hd : DkO w Lf mx oD) (hx : Loc cs z)
    (k : ∀ tk, Q (.ref Lf) { s with toks := tk }) : wpAny (MO w) A (eval (.Subscript (.Name z p) (.Constant (.str "left") k9 p2) p3) (envX cn cs L a ccd cl)) Q E s := by
  obtain ⟨t, hd⟩ := hd
  exact Subscript_ (px_name F hv hx (ps_const (Ok := fun _ _ _ => True) _ A _ E _ _ trivial fun t1 k1 => kda_item (knd := PySem.strKind _ _) N (.head _) hd (PySem.strKind_is _ _ _ _) (by rfl) (k _)))
/-- deck['mixed'] -/
noncomputable def OkD (cs : Scope) (l : List (Str × Option Value)) (D Lf : Addr) (mx : Int) (w : World) (env : Env) (h : Heap) : Prop :=
  ∃ h₀ L oD cn a ccd cl, env = envX cn cs L a ccd cl ∧ Fr h₀ L h (lk l) ∧ News h₀ L h [(D, oD)] ∧ DkO w Lf mx oD
theorem okD {D Lf : Addr} {mx : Int} {oD : Obj} {h : Heap} (F : Fr h₀ L h (lk l)) (N : News h₀ L h ((D, oD) :: news)) (hd : DkO w Lf mx oD) : OkD cs l D Lf mx w (envX cn cs L a ccd cl) h :=
  ⟨_, _, _, _, _, _, _, rfl, F, fun p hp => N p (by rw [List.mem_singleton.1 hp]; exact .head _), hd⟩
theorem px_g {Ok : World → Env → Heap → Prop} {env : Env} {Q : Value → Shared → Prop} (ok : Ok w env s.heap) (pa : PG Ok e x) (k : ∀ t tk, Q (.int x t) { s with toks := tk }) : wpAny (MO w) A (eval e env) Q E s := pa _ _ _ _ _ _ ok k
theorem pg_mixed {z : Str} {D Lf : Addr} {mx : Int} {k9 : Nat} {p2 p3 : Pos} (hv : lk l z = some (.ref D)) (hx : Loc cs z) : PG (OkD cs l D Lf mx) (.Subscript (.Name z p) (.Constant (.str "mixed") k9 p2) p3) mx := by
  rintro w A _ E Q s ⟨h₀, L, oD, cn, a, ccd, cl, rfl, F, N, t, hd⟩ k
  exact Subscript_ (px_name F hv hx (ps_const (Ok := fun _ _ _ => True) _ A _ E _ _ trivial fun t1 k1 => kda_item (knd := PySem.strKind _ _) N (.head _) hd (PySem.strKind_is _ _ _ _) (by rfl) (k _ _)))
theorem pg_more {z : Str} {t : Tok} {D Lf : Addr} {mx : Int} (hv : lk l z = some (.int x t)) (hx : Loc cs z) : PG (OkD cs l D Lf mx) (.Name z p) x := by
  rintro w A _ E Q s ⟨h₀, L, oD, cn, a, ccd, cl, rfl, F, N, _⟩ k
  exact px_name F hv hx (k t s.toks)
end
theorem fmod_in {x y : Int} (h : 0 < y) : 0 ≤ x.fmod y ∧ x.fmod y < y := by
  rw [Int.fmod_eq_emod_of_nonneg _ (Int.le_of_lt h)]
  exact ⟨Int.emod_nonneg _ (Int.ne_of_gt h), Int.emod_lt_of_pos _ h⟩
theorem draw_spec {D Lf : Addr} {oD oL : Obj} {w : World} {mg mb : Str → Option Value} {mean : ExcName → Option Value} {dp un : Nat} {gd : Option (List Code)} {cn : Str} {cs : Scope} {a : Addr} {ccd : Value} {cl : List (Str × Addr)} {outer : List Env} {A₀ : Around} {base h₀ : Heap} {L : Addr} {m : Str → Option Value} {news : List (Addr × Obj)} {s : Shared} {Q E : Value → Shared → Prop}
  (B : Below A₀ base outer h₀) (F : Fr h₀ L s.heap m) (X : (hd.heap_39 w.params).In h₀) (N : News h₀ L s.heap ((D, oD) :: (Lf, oL) :: news)) (T : Top hd.view_39 (looseW hd.view_39 [PySem.Str.ofString "GitError"]) mean mg mb h₀) (hk : cs.kind = .function) (hdp : dp + 11 < recursionLimit) (hun : un + 88 < cLine)
  {many : Int} {t : Tok} (h0 : 0 < many) (hm : many ≤ 1000) (hD : Dk w Lf oD oL) (ne : D ≠ Lf) (off : ∀ p ∈ news, p.1 ≠ D ∧ p.1 ≠ Lf)
  (hret : ∀ k t oD' oL' s₂, 0 ≤ k → k < many → Dk w Lf oD' oL' → Sm s s₂ → Fr h₀ L s₂.heap m → News h₀ L s₂.heap ((D, oD') :: (Lf, oL') :: news) → Q (.int k t) s₂) :
  wpAny (model PySem.Challenge.rw_nt0271_01.row.prog w) (ktrTop dp un gd cn cs L a ccd cl outer) (call (.ref 207) [.ref D, .int many t]) Q E s := by
  w_top off; revert X; k_fill; intro X; refine' nt_enter (binds := [(Str.ofString "deck", .ref D), (Str.ofString "many", .int many t)]) B F X N T hk 10 hdp hun ?hf ?hc ?hb [] ?hl ?hs ?h; (case hf => k_is); (case hc => k_is); (case hb => exact fun _ => BindsTo.of_eq rfl); (case hl => exact Eq.refl [_, _]); (case hs => exact ⟨rfl, rfl, rfl, rfl, by decide⟩); intro g' L' s₁ Q' E' dp' un' hdp' hun' FG' F' N' B' X' T' S₁ hq he he2 hP'; have G : Gr w mean mg mb g' := ⟨X', T'⟩
  obtain ⟨xs, mx, hd, I, hl, m0, m1⟩ := hD
  refine wpAny_execs_cons (wpAny_If (wpAny_isTrue_Compare1 (px_left F' (Eq.refl (some (Value.ref _))) N' hd rfl fun tk => px_list0 (s := ⟨_, _, _, _, _⟩) F' N' fun Z oZ s₂ S₂ IZ F₂ N₂ lZ => ?_) rfl))
  obtain ⟨vs, n, rfl, i⟩ := id I
  obtain ⟨us, n2, rfl, j⟩ := IZ
  refine ke_ne_ints (News.isList N₂ (.tail _ (.tail _ (.head _)))) (News.isList N₂ (.head _)) i j ?_ (wpAny_truthy_bool ?_)
  · exact room hun' rfl
  have N₃ : News g' L' s₂.heap ((D, oD) :: (Lf, listOf vs.toArray n) :: news) := fun p hp => N₂ p (.tail _ hp)
  have lv : lk [("many", some (.int many t)), ("deck", some (.ref D))] "deck" = some (.ref D) := rfl
  have offL : ∀ p ∈ news, p.1 ≠ Lf := fun p hp => (off p hp).2
  have offD : ∀ p ∈ (Lf, listOf vs.toArray n) :: news, p.1 ≠ D := fun p hp => by
    rcases List.mem_cons.1 hp with rfl | hp
    · exact Ne.symm ne
    · exact (off p hp).1
  cases i with
  | cons x t2 r =>
    refine px_rete (wpAny_BinOp (methodCall_KW (px_left F₂ lv N₃ hd rfl fun tk => ?_) rfl))
    refine kl_method (s := ⟨_, _, _, _, _⟩) N₃ (.tail _ (.head _)) PySem.F.slot_list_pop PySem.F.type_list_pop ?_
    refine callWith_method1 (args_cons (pv_const (Ok := fun _ _ _ => True) _ _ _ _ _ _ trivial fun t3 k3 => args_nil ?_) rfl) rfl rfl
    refine kl_popAt F₂ N₃ rfl (k := 0) (by simp [seqIndex?]) rfl (.tail ne (.head offL)) ?_ fun h' F₃ N₃ => ?_
    · have := r.length
      rw [PySem.sizeLine_eq]; simp only [List.length_cons] at hl ⊢; (first | lia | omega)
    refine px_name F₃ (Eq.refl (some (Value.int _ _))) rfl (mod_int (Int.ne_of_gt h0) ?_)
    have hk := fmod_in (x := x) h0
    refine hq _ _ _ _ ?_ F₃ N₃ fun Fz Nz => hret _ _ _ _ _ hk.1 hk.2 ⟨_, mx, hd, ⟨_, _, rfl, r⟩, ?_, m0, m1⟩ ?_ Fz Nz
    · exact Sm.trans (Sm.trans .mk' S₂) .mk'
    · exact Nat.le_of_succ_le hl
    · exact S₁.trans (Sm.trans (Sm.trans .mk' S₂) .mk')
  | nil =>
    refine wpAny_execs_nil (wpAny_execs_cons (wpAny_Assign_Subscript ?_ rfl))
    refine px_g (okD F₂ N₃ hd) (pv_mod (pv_add (pv_mul (pg_mixed lv rfl) pv_const (by mul_fits)) pv_const) pv_const (by decide)) fun t3 k3 => ?_
    refine px_name F₂ lv rfl (ps_const (Ok := fun _ _ _ => True) _ _ _ _ _ _ trivial fun t4 k4 => ?_)
    obtain ⟨t0, hd⟩ := hd
    have hk := fmod_in (x := mx * 4801 + 97) (y := 1000003) (by decide)
    generalize (mx * 4801 + 97).fmod 1000003 = my at hk ⊢
    refine kda_set (knd := PySem.strKind _ _) F₂ N₃ (.head offD) hd (PySem.strKind_is _ _ _ _) (by rw [PySem.sizeLine_eq]; exact Nat.le_of_ble_eq_true rfl) fun h' o' F₃ N₃ hd' => ?_
    have hd2 : DkO w Lf my o' := ⟨t3, hd'⟩
    refine px_rete (px_g (okD F₃ N₃ hd2) (pv_mod (pv_div (pg_mixed lv rfl) pv_const (by decide)) (pg_more (Eq.refl (some (Value.int _ _))) rfl) (Int.ne_of_gt h0)) fun t5 k5 => ?_)
    have hk5 := fmod_in (x := my.fdiv 7) h0
    have S : Sm s₁ _ := Sm.trans (Sm.trans .mk' S₂) (Sm.mk' (h := h') (t := k5))
    exact hq _ _ _ _ S F₃ N₃ fun Fz Nz => hret _ _ _ _ _ hk5.1 hk5.2 ⟨_, _, hd2, ⟨_, _, rfl, .nil⟩, Nat.zero_le _, hk.1, hk.2⟩ (S₁.trans S) Fz Nz
section
variable {w : World} {A : Around} {E : Value → Shared → Prop} {s : Shared} {h₀ : Heap} {L a : Addr} {m mg mb : Str → Option Value} {mean : ExcName → Option Value} {l : List (Str × Option Value)} {cn : Str} {cs : Scope} {ccd : Value} {cl : List (Str × Addr)} {news : List (Addr × Obj)} {e f : Expr} {x y : Int} {p q r : Pos} {v : Value}
/-- a for over a list of the ledger; the ledger stays -/
theorem px_forL {σ : Type} {z u : Str} {body rest : List Stmt} {px pos : Pos} {D : Addr} {o : Obj} {ks : List Int} {Q : Flow → Shared → Prop} (S : σ → Option Value → List (Str × Option Value)) (P : Nat → σ → Prop) (c₀ : σ)
    (F₀ : Fr h₀ L s.heap (lk l)) (N₀ : News h₀ L s.heap ((D, o) :: news)) (I : IL ks o) (hv : lk l u = some (.ref D)) (hu : Loc cs u) (hh : A.handled = none) (hE : PassesOwn (MO w) A (envX cn cs L a ccd cl) E) (hz : Loc cs z) (hs : ∀ x, foldedSetIterable (.Name u p) (envX cn cs L a ccd cl) x = pure x) (hS : ∀ c o v, setL z v (S c o) = S c (some v))
    (h0 : ∃ o, lk l = lk (S c₀ o) ∧ P 0 c₀)
    (turn : ∀ i c k t (s₁ : Shared) nx (Q' : Flow → Shared → Prop), ks[i]? = some k → P i c → Sm s s₁ → Fr h₀ L s₁.heap (lk (S c (some (.int k t)))) → News h₀ L s₁.heap nx →
      (∀ c' s', P (i + 1) c' → Sm s₁ s' → Fr h₀ L s'.heap (lk (S c' (some (.int k t)))) → News h₀ L s'.heap nx → Q' .next s') → wpAny (MO w) A (execs body (envX cn cs L a ccd cl)) Q' E s₁)
    (done : ∀ c o' s', P ks.length c → Sm s s' → Fr h₀ L s'.heap (lk (S c o')) → News h₀ L s'.heap ((D, o) :: news) → wpAny (MO w) A (execs rest (envX cn cs L a ccd cl)) Q E s') :
    wpAny (MO w) A (execs (.For (.Name z px) (.Name u p) body [] pos :: rest) (envX cn cs L a ccd cl)) Q E s := by
  obtain ⟨o₀, hl, hp0⟩ := h0
  refine wpAny_execs_cons (For_invVF F₀ hz.of.1.2 (by show (cs.kind == .class || (cs.kind == .module && _)) = false; rw [hz.of.1.1]; rfl) (px_name F₀ hv hu (it_list hh F₀ N₀ I _ _ fun J St s₂ W _ _ st _ hLI hI₀ off S₂ F N => ?_)) hs hE)
  have ne : ∀ p ∈ (D, o) :: news, p.1 ∉ [J] := fun p hp hm => off p hp (List.mem_singleton.1 hm)
  refine ⟨J, [J, D], [J], _, _, St, _, _, fun i m₁ nx => ∃ c o', nx = (D, o) :: news ∧ m₁ = lk (S c o') ∧ P i c, rfl, W, ?_, ?_, ne, st, F, N, ⟨c₀, o₀, rfl, hl, hp0⟩, ?_, ?_⟩
  · intro hm
    rcases List.mem_cons.1 hm with q | hm
    · exact hLI q
    · exact (N _ (.head _)).2.1 (List.mem_singleton.1 hm).symm
  · intro b hb; rw [List.mem_singleton.1 hb]; exact hI₀
  · rintro i v m₁ nx s₁ own ⟨h, tk, rfl⟩ hi ⟨k, hk, t, rfl⟩ ⟨c, o', rfl, rfl, hp⟩ hoff hown h1 h2 h3 F₁ N₁
    rw [lk_set, hS] at F₁
    refine turn i c k t _ _ _ hk hp (S₂.trans .mk') F₁ N₁ fun c' s' hp' S' F' N' => ?_
    exact .next ⟨rfl, s'.heap, s'.toks, _, _, S', F', N', ne, c', _, rfl, rfl, hp'⟩
  · rintro h tk m₁ nx F₁ N₁ _ ⟨c, o', rfl, rfl, hp⟩
    exact done c o' _ hp (S₂.trans .mk') F₁ N₁
/-- int(..) of an int, in a comprehension -/
theorem pc_int {rs : Scope} {z : Str} {cells : List (Addr × Obj)} (pa : PG (OkC rs cl z v cells) e x) (hg : Glo rs "int") (hst : ∀ env, starEach [e] env = (false, eval e env) :: starEach [] env) : PG (OkC rs cl z v cells) (.Call (.Name "int" p) [e] [] q) x := by
  intro w A env E Q s ok k
  obtain ⟨sc, C, oC, m₂, env₀, h₀, L, m, mean, mg, mb, rfl, rfl, hg', hb, G, F, N, hC, hx⟩ := id ok
  refine Call_ (LCgL.ld_built F G.X G.T rfl (by decide +kernel : bootBuiltins "int" = some (.type "int")) (by decide) ?_ hg' hb hg.of.1.1 hg.of.1.2 rfl)
  exact callWith_type1 (args_cons (pa _ A _ E _ _ ok fun t1 k1 => args_nil (call_int_int (k _ _))) (hst _)) (hst _) rfl
/-- z[:e] of a list -/
theorem px_upto {z : Str} {D : Addr} {vs : List Value} {ks : List Int} {j : Int} {k9 : Nat} {p2 p3 p4 : Pos} {Q : Value → Shared → Prop} (F : Fr h₀ L s.heap (lk l)) (N : News h₀ L s.heap news) (hv : lk l z = some (.ref D)) (hl : ∀ h' : Heap, (∀ b o, h₀.get? b = some o → h'.get? b = some o) → h'.IsList D vs.toArray) (hi : IntsAre vs ks) (hn : ks.length ≤ 1000) (hj : 0 ≤ j) (hx : Loc cs z)
    (k : ∀ D' o' s', Sm s s' → IL (ks.take j.toNat) o' → Fr h₀ L s'.heap (lk l) → News h₀ L s'.heap ((D', o') :: news) → (∀ p ∈ news, p.1 ≠ D') → Q (.ref D') s') :
    wpAny (MO w) A (eval (.Subscript (.Name z p) (.Slice none (some (.Constant (.int j) k9 p2)) none p3) p4) (envX cn cs L a ccd cl)) Q E s := by
  refine Subscript_ (px_name F hv hx (wpAny_Slice (evalPart_none_step (evalPart_some_step (pv_const (Ok := fun _ _ _ => True) _ A _ E _ _ trivial fun t1 k1 => evalPart_none_step ?_)))))
  refine kmk_slice_ints (s := ⟨_, _, _, _, _⟩) F N (hl _ F.keep) .none (.int _ _) hi (kmk_upto hi hj) rfl (fun D' ws h' F' N' off i' _ _ => ?_) ?_ ?_ ?_
  · exact k _ _ _ .mk' ⟨_, _, rfl, i'⟩ F' N' fun p hp => Nat.ne_of_lt (off p hp)
  · rfl
  · intro r; with_unfolding_all rfl
  · rw [List.size_toArray, hi.length, PySem.sizeLine_eq]; (first | lia | omega)
end
end
noncomputable section
theorem deck_spec {w : World} {mg mb : Str → Option Value} {mean : ExcName → Option Value} {dp un : Nat} {gd : Option (List Code)} {cn : Str} {cs : Scope} {a : Addr} {ccd : Value} {cl : List (Str × Addr)} {outer : List Env} {A₀ : Around} {base h₀ : Heap} {L : Addr} {m : Str → Option Value} {news : List (Addr × Obj)} {s : Shared} {Q E : Value → Shared → Prop}
  (B : Below A₀ base outer h₀) (F : Fr h₀ L s.heap m) (X : (hd.heap_39 w.params).In h₀) (N : News h₀ L s.heap news) (T : Top hd.view_39 (looseW hd.view_39 [PySem.Str.ofString "GitError"]) mean mg mb h₀) (hk : cs.kind = .function) (hdp : dp + 2 < recursionLimit) (hun : un + 16 < cLine)
  {ax : Addr} {vs : List Value} {ns : List Int} (hl : h₀.IsList ax vs.toArray) (hi : IntsAre vs ns) (hn : ns.length ≤ 1000)
  (hret : ∀ D Lf oD oL s₂, Dk w Lf oD oL → D ≠ Lf → (∀ p ∈ news, p.1 ≠ D ∧ p.1 ≠ Lf) → Sm s s₂ → Fr h₀ L s₂.heap m → News h₀ L s₂.heap ((D, oD) :: (Lf, oL) :: news) → Q (.ref D) s₂) :
  wpAny (model PySem.Challenge.rw_nt0271_01.row.prog w) (ktrTop dp un gd cn cs L a ccd cl outer) (call (.ref 200) [.ref ax]) Q E s := by
  skip
  w_top off; revert X; k_fill; intro X; refine' nt_enter (binds := [(Str.ofString "script", .ref ax)]) B F X N T hk 1 hdp hun ?hf ?hc ?hb ["cell", "left", "mixed"] ?hl ?hs ?h; (case hf => k_is); (case hc => k_is); (case hb => exact fun _ => BindsTo.of_eq rfl); (case hl => exact Eq.refl [_, _, _, _]); (case hs => exact ⟨rfl, rfl, rfl, rfl, by decide⟩); intro g' L' s₁ Q' E' dp' un' hdp' hun' FG' F' N' B' X' T' S₁ hq he he2 hP'; have G : Gr w mean mg mb g' := ⟨X', T'⟩
  have hl' : g'.IsList ax vs.toArray := hl.at fun o e => FG'.keep _ _ e
  refine' px_pairS F' ?hh59 ?hz59 ?hu59 ?hl59 ?hm59 ?hst59 ?hs59 ?h59 ?hw59; (case hh59 => exact rfl); (case hz59 => exact rfl); (case hu59 => exact rfl); (case hl59 => exact fun _ _ => Eq.refl [_, _, _, _]); (case hm59 => exact fun _ _ => Eq.refl [_, _, _, _]); (case hst59 => exact fun _ => ⟨rfl, rfl⟩); (case hs59 => exact rfl); (case hw59 => exact rfl); refine ?_
  refine' px_comp F' ?c160 ?c260 ?c360 ?c460 ?c560 ?c660 ?c760; (case c160 => with_unfolding_all exact rfl); (case c260 => decide); (case c360 => exact rfl); (case c460 => decide); (case c560 => exact rfl); (case c660 => exact fun _ => rfl)
  refine px_upto F' N' (Eq.refl (some (Value.ref _))) (fun h k => hl'.at fun o e => k _ _ e) hi hn (by decide) rfl fun D o s₂ S₂ I₂ F₂ N₂ off₂ => ?_
  refine ⟨_, [D], [(D, o)], _, _, by rw [PySem.sizeLine_eq, List.length_take]; (first | lia | omega), fun p hp => by rw [List.mem_singleton.1 hp]; exact .head _, it_list rfl F₂ N₂ I₂, fun s₃ S₃ => ?_⟩
  refine comp_pure (fun i => (ns.take 24).getD i 0) (fun i => ((ns.take 24).getD i 0).fmod 1000003) G (fun i v h => ?_) ⟨rfl, rfl, rfl⟩ (cells := []) (fun _ h => nomatch h) (fun p hp => by rw [List.mem_singleton.1 hp]; exact .head _) (fun i t hi => pv_mod (pc_int (pc_own rfl) rfl (fun _ => rfl)) pv_const (by decide)) fun ys hy Lf s₄ S₄ F₄ N₄ off₄ => ?_
  · obtain ⟨k, hk, h⟩ := h
    rw [List.getD_eq_getElem?_getD, show (ns.take 24)[i]? = some k from hk]; exact h
  refine px_eval G F₄ pv_const fun t5 k5 => ⟨_, F₄, N₄, fun s₅ S₅ F₅ N₅ => ?_⟩
  have hlen : ∃ ks, IntsAre ys ks ∧ ks.length ≤ 24 := ⟨_, hy, by rw [List.length_map, List.length_range, List.length_take]; exact Nat.min_le_left _ _⟩
  clear hy
  obtain ⟨ks, hy, hlen⟩ := hlen
  refine' px_forL (σ := Int × Tok) (fun c o => [("script", some (.ref ax)), ("cell", o), ("left", some (.ref Lf)), ("mixed", some (.int c.1 c.2))]) (fun _ c => 0 ≤ c.1 ∧ c.1 < 1000003) (_, _) F₅ N₅ (.lst hy) (Eq.refl (some (Value.ref _))) rfl rfl hP' rfl (fun _ => rfl) (fun _ _ _ => Eq.refl [_, _, _, _]) ⟨_, rfl, (by decide : (0 : Int) ≤ 409), (by decide : (409 : Int) < 1000003)⟩ ?turn ?done
  case turn =>
    rintro i ⟨c, tc⟩ k t s₆ nx Q₆ hk hc S₆ F₆ N₆ nxt
    dsimp only at hc F₆ nxt
    refine' px_set G F₆ N₆ ?pa61 ?hx61 ?hl61 ?hs61 ?k61; (case pa61 => exact pv_mod (pv_add (pv_add (pv_mul (pv_name (Eq.refl (some (Value.int _ _))) rfl) pv_const (by mul_fits)) (pv_name (Eq.refl (some (Value.int _ _))) rfl)) pv_const) pv_const (by decide)); (case hx61 => exact rfl); (case hl61 => exact fun _ => Eq.refl [_, _, _, _]); (case hs61 => exact fun _ => rfl); intro s₇ t₇ S₇ F₇ N₇
    exact wpAny_execs_nil (nxt (_, _) _ (fmod_in (by decide)) S₇ F₇ N₇)
  case done =>
    rintro ⟨mx, tm⟩ o' s₆ hc S₆ F₆ N₆
    dsimp only at hc F₆
    refine px_rete (kdn_str rfl F₆ N₆ T'.nolimit rfl rfl (List.cons_ne_nil _ _) (Nat.le_of_ble_eq_true rfl) fun Z h₇ oZ F₇ N₇ l₇ lo₇ d₇ => ?_)
    refine pairTrees_cons_walk (ps_const (Ok := fun _ _ _ => True) _ _ _ _ _ _ trivial fun t8 k8 => px_name F₇ (Eq.refl (some (Value.ref _))) rfl (pairTrees_cons_walk (ps_const (Ok := fun _ _ _ => True) _ _ _ _ _ _ trivial fun t9 k9 => px_name F₇ (Eq.refl (some (Value.int _ _))) rfl (pairTrees_nil_walk ?_))))
    refine kdn_made_str F₇ N₇ (.head fun p hp => Nat.ne_of_lt (l₇ p hp)) d₇ rfl (of_decide_eq_true rfl) fun h₈ o₈ F₈ N₈ d₈ => ?_
    have S : Sm s₁ s₆ := (((S₂.trans S₃).trans S₄).trans (Sm.trans .mk' S₅)).trans S₆
    refine hq _ _ _ _ (S.trans .mk') F₈ N₈ fun Fz Nz => hret _ _ _ _ _ ⟨ks, mx, ⟨_, d₈⟩, .lst hy, hlen, hc⟩ (Ne.symm (Nat.ne_of_lt (l₇ _ (.head _)))) (fun p hp => ⟨Nat.ne_of_lt (l₇ p (.tail _ (.tail _ hp))), off₄ p (.tail _ hp)⟩) (S₁.trans (S.trans .mk')) Fz fun p hp => ?_
    rcases hp with _ | ⟨_, _ | ⟨_, hp⟩⟩
    · exact Nz _ (.head _)
    · exact Nz _ (.tail _ (.head _))
    · exact Nz _ (.tail _ (.tail _ (.tail _ hp)))
end
noncomputable section
/-- a row of int expressions -/
noncomputable def EI (Ok : World → Env → Heap → Prop) : List Expr → List Int → Prop
  | [], [] => True
  | e :: es, k :: ks => PG Ok e k ∧ (∀ env r, starEach (e :: r) env = (false, eval e env) :: starEach r env) ∧ EI Ok es ks
  | _, _ => False
theorem px_ints {w : World} {A : Around} {env : Env} {E : Value → Shared → Prop} {Ok : World → Env → Heap → Prop} {pos : Pos} : ∀ {es : List Expr} {ks : List Int} {s : Shared} {Q : List Value → Shared → Prop}, EI Ok es ks → Ok w env s.heap → (∀ vs tk, IntsAre vs ks → Q vs { s with toks := tk }) → wpAny (MO w) A (spliced (backTo pos (starEach es env))) Q E s
  | [], [], s, _, _, _, k => args_nil (k [] s.toks .nil)
  | _ :: _, _ :: _, _, _, h, ok, k => args_cons (h.1 _ A _ E _ _ ok fun t1 _ => px_ints h.2.2 ok fun vs tk i => k _ tk (.cons _ t1 i)) (h.2.1 _ _)
  | [], _ :: _, _, _, h, _, _ => h.elim
  | _ :: _, [], _, _, h, _, _ => h.elim
section
variable {w : World} {A : Around} {E : Value → Shared → Prop} {s : Shared} {h₀ : Heap} {L : Addr} {m : Str → Option Value} {news : List (Addr × Obj)} {env : Env} {p : Pos}
theorem px_listN {Ok : World → Env → Heap → Prop} {es : List Expr} {ks : List Int} {Q : Value → Shared → Prop} (h : EI Ok es ks) (ok : Ok w env s.heap) (F : Fr h₀ L s.heap m) (N : News h₀ L s.heap news) (hn : ks.length ≤ 1000)
    (k : ∀ D o s', Sm s s' → IL ks o → Fr h₀ L s'.heap m → News h₀ L s'.heap ((D, o) :: news) → (∀ p ∈ news, p.1 ≠ D) → Q (.ref D) s') : wpAny (MO w) A (eval (.List es p) env) Q E s :=
  List_ (px_ints h ok fun vs tk i => newList_K F N (fun D h' F' N' l1 => k D _ _ .mk' ⟨_, 0, rfl, i⟩ F' N' fun q hq => Nat.ne_of_lt (l1 q hq)) (i.length ▸ le_line hn))
/-- an item of a list of the ledger -/
theorem px_at {D : Addr} {o : Obj} {ks : List Int} {k : Int} {u : Tok} {value slice : Expr} {Q : Value → Shared → Prop} (N : News h₀ L s.heap ((D, o) :: news)) (I : IL ks o) (h0 : 0 ≤ k) (h1 : k < ks.length) (hn : ks.length ≤ 1000) (hs : subscripted slice false (.ref D) (.int k u) = operate [.ref D, .int k u] (getItem (.ref D) (.int k u)))
    (h : ∀ t, Q (.int (ks.getD k.toNat 0) t) s) : wpAny (MO w) A (subscriptTail value slice (.ref D) (.int k u)) Q E s := by
  obtain ⟨vs, hl, i⟩ := I.list N
  exact item_anyK hl i h0 h1 (by (first | lia | omega)) h hs
end
theorem px_draw {D Lf : Addr} {oD oL : Obj} {w : World} {mg mb : Str → Option Value} {mean : ExcName → Option Value} {dp un : Nat} {gd : Option (List Code)} {cn : Str} {cs : Scope} {a : Addr} {ccd : Value} {cl : List (Str × Addr)} {outer : List Env} {A₀ : Around} {base h₀ : Heap} {L : Addr} {m : Str → Option Value} {news : List (Addr × Obj)} {s : Shared} {Q E : Value → Shared → Prop}
  (B : Below A₀ base outer h₀) (F : Fr h₀ L s.heap m) (X : (hd.heap_39 w.params).In h₀) (N : News h₀ L s.heap ((D, oD) :: (Lf, oL) :: news)) (T : Top hd.view_39 (looseW hd.view_39 [PySem.Str.ofString "GitError"]) mean mg mb h₀) (hk : cs.kind = .function) (hdp : dp + 12 < recursionLimit) (hun : un + 96 < cLine) {env : Env} {e : Expr} {many : Int} {k9 : Nat} {p p2 q : Pos}
  (h0 : 0 < many) (hm : many ≤ 1000) (hD : Dk w Lf oD oL) (ne : D ≠ Lf) (off : ∀ p ∈ news, p.1 ≠ D ∧ p.1 ≠ Lf)
  (hf : ∀ Q : Value → Shared → Prop, Q (.ref 207) s → wpAny (MO w) (ktrTop dp un gd cn cs L a ccd cl outer) (eval (.Name "_law_draw" p) env) Q E s)
  (he : ∀ Q : Value → Shared → Prop, Q (.ref D) s → wpAny (MO w) (ktrTop dp un gd cn cs L a ccd cl outer) (eval e env) Q E s)
  (hst : ∀ env r, starEach (e :: r) env = (false, eval e env) :: starEach r env)
  (hret : ∀ k t oD' oL' s₂, 0 ≤ k → k < many → Dk w Lf oD' oL' → Sm s s₂ → Fr h₀ L s₂.heap m → News h₀ L s₂.heap ((D, oD') :: (Lf, oL') :: news) → Q (.int k t) s₂) :
  wpAny (model PySem.Challenge.rw_nt0271_01.row.prog w) (ktrTop dp un gd cn cs L a ccd cl outer) (eval (.Call (.Name "_law_draw" p) [e, .Constant (.int many) k9 p2] [] q) env) Q E s := by
  refine Call_ (hf _ ?_)
  have G : Gr w mean mg mb h₀ := ⟨X, T⟩
  refine callWith_K (K := hd.heap_39 w.params) (h₀ := h₀) X rfl (args_cons (he _ (args_cons (pv_const (Ok := fun _ _ _ => True) _ _ _ _ _ _ trivial fun t1 k1 => args_nil ⟨G.at F, ?_⟩) rfl)) (hst _ _)) (hst _ _) rfl
  show wpAny _ _ (call (.ref 207) [.ref D, .int many t1]) Q E _
  exact draw_spec (dp := dp) (un := un) (s := { s with toks := k1 }) B F X N T hk (room hdp rfl) (room hun rfl) h0 hm hD ne off fun k t oD' oL' s₂ h1 h2 hD' S₂ F₂ N₂ => hret k t oD' oL' s₂ h1 h2 hD' (Sm.trans .mk' S₂) F₂ N₂
theorem near_in : ∀ n : Nat, n < 8 → 0 ≤ [(0 : Int), 2 ^ Int.toNat 7, 2 ^ Int.toNat 14, 2 ^ Int.toNat 14 + 2 ^ Int.toNat 7, 2 ^ Int.toNat 21, 2 ^ Int.toNat 31, 2 ^ Int.toNat 32, 2 ^ Int.toNat 40].getD n 0 ∧ [(0 : Int), 2 ^ Int.toNat 7, 2 ^ Int.toNat 14, 2 ^ Int.toNat 14 + 2 ^ Int.toNat 7, 2 ^ Int.toNat 21, 2 ^ Int.toNat 31, 2 ^ Int.toNat 32, 2 ^ Int.toNat 40].getD n 0 ≤ 1099511627776 := by decide +kernel
theorem nw_one {h₀ h : Heap} {L : Addr} {news : List (Addr × Obj)} {p : Addr × Obj} (N : News h₀ L h news) (hp : p ∈ news) : News h₀ L h [p] := fun q hq => by
  rw [List.mem_singleton.1 hq]; exact N p hp
theorem nw_two {h₀ h : Heap} {L : Addr} {news : List (Addr × Obj)} {p q r : Addr × Obj} (N : News h₀ L h (p :: q :: r :: news)) : News h₀ L h (p :: q :: news) :=
  nw_cons (N p (.head _)) (nw_cons (N q (.tail _ (.head _))) fun r hr => N r (.tail _ (.tail _ (.tail _ hr))))
theorem nw_rot {h₀ h : Heap} {L : Addr} {news : List (Addr × Obj)} {p q r : Addr × Obj} (N : News h₀ L h (r :: p :: q :: news)) : News h₀ L h (p :: q :: r :: news) :=
  nw_cons (N p (.tail _ (.head _))) (nw_cons (N q (.tail _ (.tail _ (.head _)))) (nw_cons (N r (.head _)) fun r hr => N r (.tail _ (.tail _ (.tail _ hr)))))
theorem off_cons {D Lf : Addr} {news : List (Addr × Obj)} {oD oL : Obj} {q : Addr × Obj} (h : ∀ p ∈ (D, oD) :: (Lf, oL) :: news, p.1 ≠ q.1) (off : ∀ p ∈ news, p.1 ≠ D ∧ p.1 ≠ Lf) : ∀ p ∈ q :: news, p.1 ≠ D ∧ p.1 ≠ Lf := fun p hp => by
  rcases List.mem_cons.1 hp with rfl | hp
  · exact ⟨Ne.symm (h _ (.head _)), Ne.symm (h _ (.tail _ (.head _)))⟩
  · exact off p hp
theorem number_spec {D Lf : Addr} {oD oL : Obj} {w : World} {mg mb : Str → Option Value} {mean : ExcName → Option Value} {dp un : Nat} {gd : Option (List Code)} {cn : Str} {cs : Scope} {a : Addr} {ccd : Value} {cl : List (Str × Addr)} {outer : List Env} {A₀ : Around} {base h₀ : Heap} {L : Addr} {m : Str → Option Value} {news : List (Addr × Obj)} {s : Shared} {Q E : Value → Shared → Prop}
  (B : Below A₀ base outer h₀) (F : Fr h₀ L s.heap m) (X : (hd.heap_39 w.params).In h₀) (N : News h₀ L s.heap ((D, oD) :: (Lf, oL) :: news)) (T : Top hd.view_39 (looseW hd.view_39 [PySem.Str.ofString "GitError"]) mean mg mb h₀) (hk : cs.kind = .function) (hdp : dp + 15 < recursionLimit) (hun : un + 120 < cLine)
  (hD : Dk w Lf oD oL) (ne : D ≠ Lf) (off : ∀ p ∈ news, p.1 ≠ D ∧ p.1 ≠ Lf)
  (hret : ∀ k t oD' oL' s₂, 0 ≤ k → k < 2199023255552 → Dk w Lf oD' oL' → Sm s s₂ → Fr h₀ L s₂.heap m → News h₀ L s₂.heap ((D, oD') :: (Lf, oL') :: news) → Q (.int k t) s₂) :
  wpAny (model PySem.Challenge.rw_nt0271_01.row.prog w) (ktrTop dp un gd cn cs L a ccd cl outer) (call (.ref 214) [.ref D]) Q E s := by
  w_top off; revert X; k_fill; intro X; refine' nt_enter (binds := [(Str.ofString "deck", .ref D)]) B F X N T hk 14 hdp hun ?hf ?hc ?hb ["near"] ?hl ?hs ?h; (case hf => k_is); (case hc => k_is); (case hb => exact fun _ => BindsTo.of_eq rfl); (case hl => exact Eq.refl [_, _]); (case hs => exact ⟨rfl, rfl, rfl, rfl, by decide⟩); intro g' L' s₁ Q' E' dp' un' hdp' hun' FG' F' N' B' X' T' S₁ hq he he2 hP'; have G : Gr w mean mg mb g' := ⟨X', T'⟩
  refine' px_let F' ?hx62 ?hl62 ?hs62 ?k62; (case hx62 => exact rfl); (case hl62 => exact fun _ => Eq.refl [_, _]); (case hs62 => exact fun _ => rfl); refine ?_
  refine Subscript_ (px_listN (ks := [0, 2 ^ Int.toNat 7, 2 ^ Int.toNat 14, 2 ^ Int.toNat 14 + 2 ^ Int.toNat 7, 2 ^ Int.toNat 21, 2 ^ Int.toNat 31, 2 ^ Int.toNat 32, 2 ^ Int.toNat 40]) ?ei (okV G F') F' N' (by decide) fun Z oZ s₂ S₂ I₂ F₂ N₂ off₂ => ?_)
  case ei =>
    refine ⟨pv_const, fun _ _ => rfl, pv_pow pv_const pv_const (by decide) (by decide), fun _ _ => rfl, pv_pow pv_const pv_const (by decide) (by decide), fun _ _ => rfl, pv_add (pv_pow pv_const pv_const (by decide) (by decide)) (pv_pow pv_const pv_const (by decide) (by decide)), fun _ _ => rfl, pv_pow pv_const pv_const (by decide) (by decide), fun _ _ => rfl, pv_pow pv_const pv_const (by decide) (by decide), fun _ _ => rfl, pv_pow pv_const pv_const (by decide) (by decide), fun _ _ => rfl, pv_pow pv_const pv_const (by decide) (by decide), fun _ _ => rfl, trivial⟩
  refine px_draw B' F₂ X' (nw_rot N₂) T' rfl (room hdp' rfl) (room hun' rfl) (by decide) (by decide) hD ne (off_cons off₂ off) (fun Q h => nameX_K F₂ X' (topRead_of T') rfl h) (fun Q h => px_name F₂ (Eq.refl (some (Value.ref _))) rfl h) (fun _ _ => rfl) fun k tk o₁ o₂ s₃ h1 h2 hD₃ S₃ F₃ N₃ => ?_
  obtain ⟨x, hx, hx0, hx1⟩ : ∃ x, [0, 2 ^ Int.toNat 7, 2 ^ Int.toNat 14, 2 ^ Int.toNat 14 + 2 ^ Int.toNat 7, 2 ^ Int.toNat 21, 2 ^ Int.toNat 31, 2 ^ Int.toNat 32, 2 ^ Int.toNat 40].getD k.toNat 0 = x ∧ 0 ≤ x ∧ x ≤ 1099511627776 :=
    ⟨_, rfl, near_in k.toNat (by (first | lia | omega))⟩
  refine px_at (nw_one N₃ (.tail _ (.tail _ (.head _)))) I₂ h1 h2 (by decide) rfl fun t₄ => ⟨_, F₃, nw_two N₃, fun s₄ S₄ F₄ N₄ => ?_⟩
  rw [hx] at F₄
  refine px_rete (Call_ (nameX_B F₄ X' (topRead_of T') rfl boot_max (by decide) (callWith_builtin1 (args_cons (pv_const (Ok := fun _ _ _ => True) _ _ _ _ _ _ trivial fun t5 k5 => args_cons (wpAny_BinOp (wpAny_BinOp (px_name F₄ (Eq.refl (some (Value.int _ _))) rfl ?_))) rfl) rfl) rfl rfl)))
  refine px_draw (s := { s₄ with toks := k5 }) B' F₄ X' N₄ T' rfl (room hdp' rfl) (room hun' rfl) (by decide) (by decide) hD₃ ne off (fun Q h => nameX_K F₄ X' (topRead_of T') rfl h) (fun Q h => px_name F₄ (Eq.refl (some (Value.ref _))) rfl h) (fun _ _ => rfl) fun y ty o₃ o₄ s₆ y0 y1 hD₆ S₆ F₆ N₆ => add_int ?_
  refine Subscript_ (px_listN (s := { s₆ with toks := s₆.toks + 1 }) (Ok := fun _ _ _ => True) (ks := [0, 200]) ⟨pv_const, fun _ _ => rfl, pv_const, fun _ _ => rfl, trivial⟩ trivial F₆ N₆ (by decide) fun W oW s₇ S₇ I₇ F₇ N₇ off₇ => ?_)
  refine px_draw B' F₇ X' (nw_rot N₇) T' rfl (room hdp' rfl) (room hun' rfl) (by decide) (by decide) hD₆ ne (off_cons off₇ off) (fun Q h => nameX_K F₇ X' (topRead_of T') rfl h) (fun Q h => px_name F₇ (Eq.refl (some (Value.ref _))) rfl h) (fun _ _ => rfl) fun k2 tk2 o₅ o₆ s₈ h3 h4 hD₈ S₈ F₈ N₈ => ?_
  obtain ⟨z, hz, hz0⟩ : ∃ z, [(0 : Int), 200].getD k2.toNat 0 = z ∧ 0 ≤ z := ⟨_, rfl, by
    rcases (show k2 = 0 ∨ k2 = 1 by (first | lia | omega)) with rfl | rfl <;> decide⟩
  refine px_at (nw_one N₈ (.tail _ (.tail _ (.head _)))) I₇ h3 h4 (by decide) rfl fun t₉ => sub_int (args_nil ?_)
  rw [hz]
  refine max_two_N (s := { s₈ with toks := s₈.toks + 1 }) rfl F₈ (nw_two N₈) fun h' tk' F' N' => ?_
  have S : Sm s₁ _ := ((S₂.trans S₃).trans S₄).trans ((Sm.trans .mk' S₆).trans ((Sm.trans .mk' S₇).trans (S₈.trans (Sm.mk' (h := h') (t := tk')))))
  refine hq _ _ _ _ S F' N' fun Fz Nz => hret _ _ _ _ _ ?_ ?_ hD₈ (S₁.trans S) Fz Nz
  · split <;> (first | lia | omega)
  · split <;> (first | lia | omega)
end
noncomputable section
theorem unhex_sign : ∀ d : Nat, d < 16 → hexDig (hexSign d) = some (d : Int) ∧ hexDig (up1 (hexSign d)) = some (d : Int) ∧ hexSign d < 128 := by decide +kernel
theorem hexCodes_cons (k : Int) (ks : List Int) : hexCodes (k :: ks) = hexSign (k / 16).toNat :: hexSign (k % 16).toNat :: hexCodes ks := rfl
theorem unhex_app {f : Nat → Nat} (hf : ∀ d, d < 16 → hexDig (f (hexSign d)) = some (d : Int)) (r : List Nat) : ∀ ks : List Int, KBa.In ks → unhex ((hexCodes ks).map f ++ r) = (unhex r).map (ks ++ ·)
  | [], _ => by show unhex r = (unhex r).map fun x => x; cases unhex r <;> rfl
  | k :: ks, h => by
    have hk := h k (.head _)
    rw [hexCodes_cons, List.map_cons, List.map_cons, List.cons_append, List.cons_append, unhex_cons, hf _ (hx_in hk).2, hf _ (lx_in k).2, unhex_app hf r ks fun n hn => h n (.tail _ hn)]
    have e : 16 * (((k / 16).toNat : Nat) : Int) + ((k % 16).toNat : Nat) = k := by
      rw [Int.toNat_of_nonneg (hx_in hk).1, Int.toNat_of_nonneg (lx_in k).1]; exact Int.mul_ediv_add_emod k 16
    cases unhex r with
    | none => rfl
    | some z => show some _ = some _; rw [e]; rfl
theorem unhex_id {ks : List Int} (h : KBa.In ks) (r : List Nat) : unhex (hexCodes ks ++ r) = (unhex r).map (ks ++ ·) := by
  have := unhex_app (f := id) (fun d hd => (unhex_sign d hd).1) r ks h
  rwa [List.map_id] at this
theorem unhex_low {ks : List Int} (h : KBa.In ks) : unhex (hexCodes ks) = some ks := by
  have := unhex_id h []
  rw [List.append_nil] at this
  rw [this]; show some (ks ++ []) = _; rw [List.append_nil]
theorem unhex_up {ks : List Int} (h : KBa.In ks) : unhex ((hexCodes ks).map up1) = some ks := by
  have := unhex_app (f := up1) (fun d hd => (unhex_sign d hd).2.1) [] ks h
  rw [List.append_nil] at this
  rw [this]; show some (ks ++ []) = _; rw [List.append_nil]
theorem unhex_bad {c : Nat} (hc : hexDig c = none) : ∀ l : List Nat, unhex (c :: l) = none
  | [] => rfl
  | a :: r => by rw [unhex_cons, hc]
/-- the five odd texts -/
noncomputable def odds (us : List Nat) : List (List Nat) := [us ++ [48], us ++ [103, 48], us ++ [48, 103], [45] ++ us ++ [49], us ++ [32, 49]]
theorem odds_none {ks : List Int} (h : KBa.In ks) : ∀ x ∈ odds (hexCodes ks), unhex x = none := by
  have n103 : hexDig 103 = none := by decide +kernel
  have n32 : hexDig 32 = none := by decide +kernel
  have n45 : hexDig 45 = none := by decide +kernel
  have z48 : unhex [48, 103] = none := by rw [unhex_cons, n103]; cases hexDig 48 <;> rfl
  intro x hx
  rcases hx with _ | ⟨_, _ | ⟨_, _ | ⟨_, _ | ⟨_, _ | ⟨_, hx⟩⟩⟩⟩⟩
  · rw [unhex_id h]; rfl
  · rw [unhex_id h, unhex_bad n103]; rfl
  · rw [unhex_id h, z48]; rfl
  · exact unhex_bad n45 _
  · rw [unhex_id h, unhex_bad n32]; rfl
  · nomatch hx
theorem odds_len {us : List Nat} : ∀ x ∈ odds us, x.length ≤ us.length + 2 := by
  intro x hx
  rcases hx with _ | ⟨_, _ | ⟨_, _ | ⟨_, _ | ⟨_, _ | ⟨_, hx⟩⟩⟩⟩⟩
  · rw [List.length_append]; exact Nat.add_le_add_left (by decide) _
  · rw [List.length_append]; exact Nat.le_refl _
  · rw [List.length_append]; exact Nat.le_refl _
  · rw [List.length_append, List.length_append, Nat.add_right_comm, Nat.add_comm]; exact Nat.le_refl _
  · rw [List.length_append]; exact Nat.le_refl _
  · nomatch hx
theorem hex_upper (ks : List Int) (h : KBa.In ks) : Txt.upper (tx (hexCodes ks)) = tx ((hexCodes ks).map up1) := by
  rw [upper_ascii]
  · show (⟨_⟩ : Str) = ⟨_⟩
    rw [List.map_toArray]
  · intro c hc
    have hc : c ∈ hexCodes ks := by simpa using hc
    unfold hexCodes at hc
    obtain ⟨l, hl, hc⟩ := List.mem_flatten.1 hc
    obtain ⟨k, hk, rfl⟩ := List.mem_map.1 hl
    have hk := h k hk
    rcases hc with _ | ⟨_, _ | ⟨_, hc⟩⟩
    · exact (unhex_sign _ (hx_in hk).2).2.2
    · exact (unhex_sign _ (lx_in k).2).2.2
    · nomatch hc
theorem octets_inj : ∀ x y : List UInt8, x.map (fun c => (c.toNat : Int)) = y.map (fun c => (c.toNat : Int)) → x = y
  | [], [], _ => rfl
  | [], _ :: _, h => by cases h
  | _ :: _, [], h => by cases h
  | a :: r, d :: q, h => by
    rw [List.map_cons, List.map_cons] at h
    injection h with h1 h2
    rw [octets_inj r q h2, UInt8.toNat_inj.1 (Int.ofNat.inj h1)]
theorem bytes_same {b c : Array UInt8} (h : KBw.bInts b = KBw.bInts c) : (b.toList != c.toList) = false := by
  rw [octets_inj b.toList c.toList h]
  exact bne_self_eq_false _
theorem ne_strF {w : World} {A : Around} {E : Value → Shared → Prop} {s : Shared} {x : Str} {t u : Tok} {Q : Value → Shared → Prop} (h : Q (.bool false) s) : wpAny (MO w) A (compareOp .NotEq (.str x t) (.str x u)) Q E s :=
  ne_str (by rw [bne_self_eq_false]; exact h)
theorem ne_bytesF {w : World} {A : Around} {E : Value → Shared → Prop} {s : Shared} {b c : Array UInt8} {t u : Tok} {Q : Value → Shared → Prop} (e : KBw.bInts b = KBw.bInts c) (h : Q (.bool false) s) : wpAny (MO w) A (compareOp .NotEq (.bytes b t) (.bytes c u)) Q E s :=
  ne_bytes (by rw [bytes_same e]; exact h)
theorem isnot_none {w : World} {A : Around} {E : Value → Shared → Prop} {s : Shared} {Q : Bool → Shared → Prop} (h : Q false s) : wpAny (MO w) A (compareOp .IsNot .none .none) (fun c s' => wpAny (MO w) A (truthy c) Q E s') E s := by
  wp_walk
  exact h
end
noncomputable section
theorem strs_snoc {vs : List Value} {ys : List Str} (i : StrsAre vs ys) (x : Str) (t : Tok) : StrsAre (vs ++ [.str x t]) (ys ++ [x]) := by
  induction i with
  | nil => exact .cons _ _ .nil
  | cons y t _ ih => exact .cons _ _ ih
theorem strs_at {vs : List Value} {ys : List Str} (h : StrsAre vs ys) : ∀ v ∈ vs, ∃ x ∈ ys, ∃ t, v = .str x t := by
  induction h with
  | nil => intro v hv; cases hv
  | cons y t _ ih =>
    intro v hv
    rcases List.mem_cons.1 hv with rfl | hv
    · exact ⟨y, .head _, t, rfl⟩
    · obtain ⟨x, hx, r⟩ := ih v hv
      exact ⟨x, .tail _ hx, r⟩
theorem map_getDs {β : Type} {l : List Int} (f : Int → β) : ((List.range l.length).map fun i => f (l.getD i 0)) = l.map f := by
  apply List.ext_getElem
  · simp
  · intro i h1 h2
    simp at h1 h2 ⊢
    rw [List.getElem?_eq_getElem h2]; rfl
theorem tx_app (a b : List Nat) : tx a ++ tx b = tx (a ++ b) := by
  show (⟨a.toArray ++ b.toArray⟩ : Str) = _
  simp [tx]
section
variable {w : World} {A : Around} {E : Value → Shared → Prop} {s : Shared} {h₀ : Heap} {L : Addr} {m mg mb : Str → Option Value} {mean : ExcName → Option Value} {news : List (Addr × Obj)} {e f : Expr} {x y : Str} {p q r : Pos} {env : Env} {Ok : World → Env → Heap → Prop}
theorem ps_lit {b : List Nat} {k : Nat} (hy : y = tx b) : PS Ok (.Constant (.str y) k p) (tx b) := hy ▸ ps_const
theorem ps_addT {a b : List Nat} (pe : PS Ok e (tx a)) (pf : PS Ok f (tx b)) (hn : a.length + b.length ≤ 1000) : PS Ok (.BinOp e .Add f p) (tx (a ++ b)) := by
  rw [← tx_app]
  exact ps_add pe pf hn
local macro_rules | `(tactic| walk_at $s:str) => `(tactic| k_extra $s)
theorem ps_upper {p2 p3 : Pos} (pe : PS Ok e x) (hx : x.length ≤ 1000) {pl : Env → Sem Bool}
    (hm : ∀ env, eval (.Call (.Attribute e "upper" p2) [] [] p3) env = (do
      let ov ← eval e env
      standAt p2.atName
      let (g, first) ← holding [ov] (getMethod ov "upper" (pl env))
      callWith p3 g first (backTo p3 (starEach [] env)) (backToKw p3 (keywordEach [] env)))) : PS Ok (.Call (.Attribute e "upper" p2) [] [] p3) (Txt.upper x) := by
  intro w A env E Q s F k
  refine methodCall_KW (pe _ A _ E _ _ F fun t1 k1 => GM.upper ?_) (hm _)
  show wpAny _ _ (callWith p3 (.builtin "str.upper") [.str x t1] (backTo p3 (starEach [] env)) []) _ _ _
  exact callWith_builtin rfl (PyProof.Rows.evalArgs_none (SC.upper (fit_upper (by (first | lia | omega))) (k _ _)))
/-- a comprehension whose elements are texts told by pure expressions -/
theorem comp_pureS {elt : Expr} {z : Str} {scope rs : Scope} {cl : List (Str × Addr)} {K : List Value → List (Addr × Obj) → Prop} {n : Nat} {P : Nat → Value → Prop} (kf : Nat → Int) (g : Nat → Str) (G : Gr w mean mg mb h₀) (hP : ∀ i v, P i v → IsI (kf i) v) (hrs : relabel scope env = rs ∧ env.globals = mainGlobals ∧ env.builtins = builtinsNs)
    (turn : ∀ i t, i < n → PS (OkC rs cl z (.int (kf i) t) []) elt (g i))
    (fin : ∀ ys, StrsAre ys ((List.range n).map g) → K ys news) :
    LCg.CompRest PySem.Challenge.rw_nt0271_01.row.prog w A h₀ L m env elt z scope cl s (fun nx => ∀ p ∈ ([] : List (Addr × Obj)), p ∈ nx) P K n 0 [] news := by
  refine comp_run (fun i ys nx => nx = news ∧ StrsAre ys ((List.range i).map g)) ⟨rfl, .nil⟩ (fun _ _ _ _ _ h => nomatch h) ?_ (by rintro ys _ ⟨rfl, hy⟩; exact fin ys hy)
  rintro i v C oC m₂ ys _ own s₁ Q' E' hi hv ⟨rfl, hy⟩ hCo hC hx S F N off k
  obtain ⟨t, rfl⟩ := hP i v hv
  refine turn i t hi _ _ _ _ _ _ ⟨_, C, oC, m₂, env, h₀, L, m, mean, mg, mb, rfl, hrs.1, hrs.2.1, hrs.2.2, G, F, nw_one N (List.mem_append_right _ hCo), hC, hx⟩ fun t' tk' => ?_
  exact k _ _ _ .mk' F N rfl ⟨rfl, by rw [List.range_succ, List.map_append]; exact strs_snoc hy _ _⟩
end
end
noncomputable section
section
variable {w : World} {A : Around} {E : Value → Shared → Prop} {s : Shared} {h₀ : Heap} {L a : Addr} {m mg mb : Str → Option Value} {mean : ExcName → Option Value} {l : List (Str × Option Value)} {cn : Str} {cs : Scope} {ccd : Value} {cl : List (Str × Addr)} {news : List (Addr × Obj)} {e f : Expr} {x y : Int} {p q r : Pos} {v : Value} {env : Env}
/-- the turns of a comprehension with a test -/
theorem comp_runT {ct elt : Expr} {z : Str} {scope : Scope} {cl : List (Str × Addr)} {P : Nat → Value → Prop} {Fin : List Value → List (Addr × Obj) → Prop} {n : Nat} {kp : List (Addr × Obj)} (J : Nat → List Value → List (Addr × Obj) → Prop) (h0 : J 0 [] news) (hkp : ∀ i ys nx, J i ys nx → ∀ p ∈ kp, p ∈ nx)
    (turn : ∀ i v C oC m₂ ys nx own (s₁ : Shared) (Q' : Bool → Shared → Prop) (E' : Value → Shared → Prop), i < n → P i v → J i ys nx → (C, oC) ∈ own → LCg.NsObj oC m₂ → m₂ z = some v → Sm s s₁ → Fr h₀ L s₁.heap m → News h₀ L s₁.heap (nx ++ own) → (∀ p ∈ own, ∀ q ∈ nx, p.1 ≠ q.1) →
      (∀ nx' s', Sm s₁ s' → Fr h₀ L s'.heap m → News h₀ L s'.heap (nx' ++ own) → nx'.map (·.1) = nx.map (·.1) → J (i + 1) ys nx' → Q' false s') →
      (∀ s' y, Sm s₁ s' → Fr h₀ L s'.heap m → News h₀ L s'.heap (nx ++ own) → J (i + 1) (ys ++ [y]) nx → (∀ (Q₂ E₂ : Value → Shared → Prop), Q₂ y s' → wpAny (MO w) A (eval elt (compEnvC scope cl C env)) Q₂ E₂ s') → Q' true s') →
      wpAny (MO w) A (isTrue ct (compEnvC scope cl C env) (eval ct (compEnvC scope cl C env))) Q' E' s₁)
    (fin : ∀ ys nx, J n ys nx → Fin ys nx) :
    LCt.CompRestT PySem.Challenge.rw_nt0271_01.row.prog w A h₀ L m env ct elt z scope cl s (fun nx => ∀ p ∈ kp, p ∈ nx) P Fin n 0 [] news := by
  suffices H : ∀ j i ys nx, i + j = n → J i ys nx → LCt.CompRestT PySem.Challenge.rw_nt0271_01.row.prog w A h₀ L m env ct elt z scope cl s (fun nx => ∀ p ∈ kp, p ∈ nx) P Fin j i ys nx from H n 0 [] news (Nat.zero_add n) h0
  intro j
  induction j with
  | zero =>
    intro i ys nx e hj
    have e : i = n := e
    exact .zero (fin ys nx (e ▸ hj))
  | succ j ih =>
    intro i ys nx e hj
    refine .succ fun v I oI C oC D m₂ h tk E' hv hC hx F N off ne => ?_
    have o3 := off.mem
    have sep : ∀ p ∈ [(I, oI), (C, oC), (D, LCg.lst ys)], ∀ q ∈ nx, p.1 ≠ q.1 := fun p hp q hq => by
      have z := o3 q hq
      rcases hp with _ | ⟨_, _ | ⟨_, _ | ⟨_, hp⟩⟩⟩
      · exact Ne.symm z.1
      · exact Ne.symm z.2.1
      · exact Ne.symm z.2.2
      · nomatch hp
    have back : ∀ {nx' : List (Addr × Obj)} {s' : Shared}, News h₀ L s'.heap (nx' ++ [(I, oI), (C, oC), (D, LCg.lst ys)]) → News h₀ L s'.heap ((I, oI) :: (C, oC) :: (D, LCg.lst ys) :: nx') := fun N' p hp => by
      refine N' p ?_
      rcases hp with _ | ⟨_, _ | ⟨_, _ | ⟨_, hp⟩⟩⟩
      · exact List.mem_append_right _ (.head _)
      · exact List.mem_append_right _ (.tail _ (.head _))
      · exact List.mem_append_right _ (.tail _ (.tail _ (.head _)))
      · exact List.mem_append_left _ hp
    have offs : ∀ {nx' : List (Addr × Obj)}, nx'.map (·.1) = nx.map (·.1) → LCg.Off3 I C D nx' := fun ha => LCg.Off3.of fun p hp => by
      have q : p.1 ∈ _ := List.mem_map.2 ⟨p, hp, rfl⟩
      rw [ha] at q
      obtain ⟨p', hp', e9⟩ := List.mem_map.1 q
      rw [← e9]; exact o3 p' hp'
    refine turn i v C oC m₂ ys nx [(I, oI), (C, oC), (D, LCg.lst ys)] _ _ _ (by (first | lia | omega)) hv hj (.tail _ (.head _)) hC hx .mk' F (fun p hp => N p ?_) sep (fun nx' s' S' F' N' ha hj' => ?_) (fun s' y S' F' N' hj' ev => ?_)
    · rcases List.mem_append.1 hp with hp | hp
      · exact .tail _ (.tail _ (.tail _ hp))
      · rcases hp with _ | ⟨_, _ | ⟨_, _ | ⟨_, hp⟩⟩⟩
        · exact .head _
        · exact .tail _ (.head _)
        · exact .tail _ (.tail _ (.head _))
        · nomatch hp
    · have e' : s' = _ := S'
      exact ⟨_, _, nx', e', F', back N', offs ha, hkp _ _ _ hj', ih (i + 1) _ nx' (by (first | lia | omega)) hj'⟩
    · have e' : s' = _ := S'
      exact ev _ _ ⟨_, _, nx, e', F', back N', offs rfl, hkp _ _ _ hj', ih (i + 1) _ nx (by (first | lia | omega)) hj'⟩
/-- what a comprehension with a test asks of its source -/
noncomputable def CompOfT (w : World) (A : Around) (h₀ : Heap) (L : Addr) (m : Str → Option Value) (env : Env) (ct elt : Expr) (z : Str) (scope : Scope) (cl : List (Str × Addr)) (K : List Value → List (Addr × Obj) → Shared → Prop) (xv : Value) (s₁ : Shared) : Prop :=
  ∃ news fx kp n P, n ≤ sizeLine ∧ (∀ p ∈ kp, p ∈ news) ∧ ItSrc w A h₀ L m news fx kp n P xv s₁ ∧ ∀ s₂, Sm s₁ s₂ → LCt.CompRestT PySem.Challenge.rw_nt0271_01.row.prog w A h₀ L m env ct elt z scope cl s₂ (fun nx => ∀ p ∈ kp, p ∈ nx) P (fun ys nx => K ys nx s₂) n 0 [] news
theorem px_compT {ct elt iter : Expr} {z : Str} {px : Pos} {scope : Scope} {cl : List (Str × Addr)} {pos : Pos} {Q : Value → Shared → Prop}
    (hclos : closureFor scope env = pure cl) (hcell : ∀ y ∈ scope.names, y.2 ≠ .cell) (hkind : scope.kind = .function)
    (hnames : ∀ y ∈ scope.names, y.2 = .local → scope.names.lookup y.1 = some .local) (hx : scope.names.lookup z = some .local) (hs : ∀ x, foldedSetIterable iter env x = pure x)
    (h : wpAny (MO w) A (eval iter env) (CompOfT w A h₀ L m env ct elt z scope cl fun ys nx s₂ => ∀ D s', Sm s₂ s' → Fr h₀ L s'.heap m → News h₀ L s'.heap ((D, LCg.lst ys) :: nx) → (∀ p ∈ nx, p.1 ≠ D) → Q (.ref D) s') E s) :
    wpAny (MO w) A (eval (.ListComp elt [⟨.Name z px, iter, [ct], 0⟩] scope pos) env) Q E s := by
  rw [eval_ListComp]
  refine wpAny_comprehension_free (use := none) rfl hs hclos hkind hnames (wpAny_mono h (fun xv s₁ h₁ => ?_) fun _ _ e => e)
  obtain ⟨news, fx, kp, n, P, hsz, hkp, it, R⟩ := h₁
  refine it _ _ fun I St s₂ W hIo hSt st hlt hLI hI₀ off S₂ F' N' => ?_
  refine LCt.block_T W hsz hIo (fun i h h' o nw st e e' _ k1 k2 => hSt i h h' o nw st e e' k1 k2) hcell hkind hx st hlt F' N' hLI hI₀ off hkp (R s₂ S₂) ?_
  intro D C h tk m' ys news' F'' N'' o1 hn hC₀ hD₀ hCL hDL hCD offC fin
  refine ⟨m', hn, fun h'' hs'' => fin D _ .mk' (F''.change hs'' hCL hC₀) (fun p hp => ?_) ?_⟩
  · refine ⟨hs''.extBut _ _ ?_ (N'' p hp).1, (N'' p hp).2⟩
    rcases List.mem_cons.mp hp with rfl | hp
    · exact Ne.symm hCD
    · exact offC p hp
  · exact off1_mem _ o1
/-- range(e), where e is any int -/
theorem px_rangeW {Q : Value → Shared → Prop} (G : Gr w mean mg mb h₀) (F : Fr h₀ L s.heap m) (hh : A.handled = none) (hg : Glo cs "range") (hst : ∀ env, starEach [e] env = (false, eval e env) :: starEach [] env)
    (h : wpAny (MO w) A (eval e (envX cn cs L a ccd cl)) (fun v s₁ => ∃ (n : Nat) (t : Tok) (nx : List (Addr × Obj)) (m₁ : Str → Option Value), v = .int n t ∧ n ≤ 1000 ∧ Fr h₀ L s₁.heap m₁ ∧ News h₀ L s₁.heap nx ∧ ∀ xv s₂, RangeSrc w A h₀ L m₁ nx n 0 1 s₁ xv s₂ → Q xv s₂) E s) :
    wpAny (MO w) A (eval (.Call (.Name "range" p) [e] [] q) (envX cn cs L a ccd cl)) Q E s := by
  refine Call_ (nameX_B F G.X (topRead_of G.T) rfl (by decide +kernel : bootBuiltins "range" = some (.type "range")) (by decide) ?_ hg.of.1.1 hg.of.1.2 rfl)
  refine callWith_type1 (args_cons (wpAny_mono h (fun v s₁ h₁ => ?_) fun _ _ x => x) (hst _)) (hst _) rfl
  obtain ⟨n, t, nx, m₁, rfl, hn, F, N, k⟩ := h₁
  exact args_nil (call_range_1 (k _ _ ⟨it_range hh (nt_push F N rfl).1 (fun p hp => (nt_push F N rfl).2 p (.tail _ hp)) (Heap.get?_push_size _ rfl) (small_one (by decide) (by decide) (by (first | lia | omega)) (by (first | lia | omega))) (by rw [rangeSize_nat, Int.sub_zero, Int.toNat_natCast]), .mk'⟩))
/-- a tuple of the ledger as a source -/
theorem it_tuple {D : Addr} {vs : List Value} (hh : A.handled = none) (F : Fr h₀ L s.heap m) (N : News h₀ L s.heap ((D, { cls := .type "tuple", data := .seq vs.toArray }) :: news)) :
    ItSrc w A h₀ L m ((D, { cls := .type "tuple", data := .seq vs.toArray }) :: news) [D] [(D, { cls := .type "tuple", data := .seq vs.toArray })] vs.length (fun i v => vs[i]? = some v) (.ref D) s := fun Q E k => by
  have hs := (N _ (.head _)).1
  have hl : s.heap.IsTuple D vs.toArray := ⟨_, hs, rfl, _, rfl⟩
  have hne : D ≠ s.heap.objs.size := Nat.ne_of_lt (Heap.lt_size hs)
  have W0 := Walks.tuple (prog := PySem.Challenge.rw_nt0271_01.row.prog) (w := w) hh s.heap.objs.size D hne vs.toArray
  have W : Walks PySem.Challenge.rw_nt0271_01.row.prog w A s.heap.objs.size [s.heap.objs.size, D] [s.heap.objs.size] vs.length (fun i v => vs[i]? = some v) _ :=
    { sub := W0.sub, frame := W0.frame, done := W0.done, self := W0.self,
      item := fun i s Q E hi' st hQ => W0.item i s Q E hi' st fun v h' tk hP => hQ v h' tk (by simpa using hP) }
  refine wpAny_pyIter_tuple hl (it_push F N rfl W (fun b hb => by rw [List.mem_singleton.1 hb]; exact Heap.lt_size hs) (fun i h st => ?_) (fun i h h' o' nw st e e' N' hk => ?_) ?_ k)
  · obtain ⟨o1, e1, _⟩ := st.1
    exact ⟨o1, e1⟩
  · exact ⟨st.1.at fun o1 e1 => (by rw [e] at e1; cases e1; exact e'), ⟨_, (N' _ (hk _ (.head _))).1, rfl, _, rfl⟩⟩
  · exact ⟨⟨_, Heap.get?_push_size _ rfl, rfl, rfl⟩, hl.at fun o1 e1 => Heap.get?_push_of_some _ e1⟩
end
section
variable {outer : List Env} {A₀ : Around} {base g : Heap} {L Lo : Addr} {m : Str → Option Value} {rest : List (Addr × Obj)} {oo : Obj}
/-- the ground without the frame that turns -/
theorem unhide {h : Heap} {sl : Array (Option Value)} (hg : g.get? Lo = some oo) (F : Fr (hideAll g [Lo]) L h m) (N : News (hideAll g [Lo]) L h ((Lo, { oo with slots := sl }) :: rest)) (off : ∀ p ∈ rest, p.1 ≠ Lo) (B : Below A₀ base outer g) (hfs : outer.filterMap (·.frame) = [Lo]) : Turned A₀ base outer g L m rest h := by
  unfold Turned
  rw [hfs]
  have lo : ∀ {b : Addr}, b ∉ [Lo] → b ≠ Lo := fun hb q => hb (by rw [q]; exact .head _)
  obtain ⟨T, S⟩ := kts_turn_at (h := h) (fs := [Lo]) (g := g) (fun b hb => ⟨oo, by rw [List.mem_singleton.1 hb]; exact hg⟩) (fun b o e nm => F.keep b o (hideAll_get _ e nm)) (fun b o e hm => by
    obtain rfl := List.mem_singleton.1 hm
    rw [hg] at e
    cases e
    exact ⟨sl, (N _ (.head _)).1⟩)
  refine ⟨_, T, ⟨F.ns, S, by rw [T.size, ← hideAll_size [Lo] g]; exact F.above⟩, fun p hp => ⟨(N p (.tail _ hp)).1, (N p (.tail _ hp)).2.1, T.none_ _ ?_⟩, ⟨B.stack, fun b o e => T.other b o (B.stays b o e) (fun hm => ?_), B.frames.of_keeps fun b o e _ => ?_⟩⟩
  · cases q : g.get? p.1 with
    | none => rfl
    | some o =>
      have := (N p (.tail _ hp)).2.2
      rw [hideAll_get _ q (fun z => off p hp (List.mem_singleton.1 z))] at this; cases this
  · rw [(B.frames.mem (by rw [hfs]; exact hm)).1] at e; cases e
  · obtain ⟨sl', hs⟩ := T.up e
    exact ⟨_, hs, rfl⟩
theorem rehide {h' g' : Heap} (hg : g.get? Lo = some oo) (T : KtsTurn [Lo] g g') (F : Fr g' L h' m) (N : News g' L h' rest) : ∃ sl, Fr (hideAll g [Lo]) L h' m ∧ News (hideAll g [Lo]) L h' ((Lo, { oo with slots := sl }) :: rest) := by
  obtain ⟨sl, hs⟩ := T.frame Lo oo hg (.head _)
  refine ⟨sl, ⟨F.ns, fun b o e => F.keep b o (T.other b o (of_hideAll _ e) fun q => by rw [hideAll_none _ q] at e; cases e), by rw [hideAll_size, ← T.size]; exact F.above⟩, nw_cons ⟨F.keep _ _ hs, fun q => ?_, hideAll_none _ (.head _)⟩ fun p hp => ⟨(N p hp).1, (N p hp).2.1, ?_⟩⟩
  · have q : Lo = L := q
    rw [q, kts_self F] at hs; cases hs
  · cases q : (hideAll g [Lo]).get? p.1 with
    | none => rfl
    | some o =>
      obtain ⟨sl', hs'⟩ := T.up (of_hideAll _ q)
      have := (N p hp).2.2
      rw [hs'] at this; cases this
end
end
noncomputable section
theorem px_drawn {D Lf c : Addr} {oD oL oc : Obj} {w : World} {mg mb : Str → Option Value} {mean : ExcName → Option Value} {dp un : Nat} {gd : Option (List Code)} {cn : Str} {cs : Scope} {a : Addr} {ccd : Value} {cl : List (Str × Addr)} {outer : List Env} {A₀ : Around} {base h₀ : Heap} {L : Addr} {m : Str → Option Value} {news : List (Addr × Obj)} {s : Shared} {Q E : Value → Shared → Prop}
  (B : Below A₀ base outer h₀) (F : Fr h₀ L s.heap m) (X : (hd.heap_39 w.params).In h₀) (N : News h₀ L s.heap ((D, oD) :: (Lf, oL) :: news)) (T : Top hd.view_39 (looseW hd.view_39 [PySem.Str.ofString "GitError"]) mean mg mb h₀) (hk : cs.kind = .function) (hdp : dp + 13 < recursionLimit) (hun : un + 104 < cLine) {elt : Expr} {z : Str} {lim : Int} {scope : Scope} {cl2 : List (Str × Addr)} {K : List Value → List (Addr × Obj) → Shared → Prop} {k9 : Nat} {p p1 p2 p3 p4 p5 : Pos}
  (hD : Dk w Lf oD oL) (ne : D ≠ Lf) (off : ∀ p ∈ news, p.1 ≠ D ∧ p.1 ≠ Lf) (hlim : 0 < lim ∧ lim ≤ 1000) (hc : cl.lookup ("deck" : Str) = some c) (hm : (c, oc) ∈ news) (hd9 : oc.data = .cell (some (.ref D))) (hx : nameIs .cell cs "deck" = true) (hg : Glo cs "_law_draw") (hr : Glo cs "range") (R : Int → Prop)
  (helt : ∀ C own oD oL (s₁ : Shared) (Q' E' : Value → Shared → Prop), Dk w Lf oD oL → Fr h₀ L s₁.heap m → News h₀ L s₁.heap ((D, oD) :: (Lf, oL) :: (news ++ own)) → (∀ p ∈ news ++ own, p.1 ≠ D ∧ p.1 ≠ Lf) →
    (∀ k t oD' oL' s', R k → Dk w Lf oD' oL' → Sm s₁ s' → Fr h₀ L s'.heap m → News h₀ L s'.heap ((D, oD') :: (Lf, oL') :: (news ++ own)) → Q' (.int k t) s') → wpAny (MO w) (ktrTop dp un gd cn cs L a ccd cl outer) (eval elt (compEnvC scope cl2 C (envX cn cs L a ccd cl))) Q' E' s₁)
  (fin : ∀ ys ks oD oL s₂, IntsAre ys ks → (∀ k ∈ ks, R k) → (ks.length : Int) < lim → Dk w Lf oD oL → Sm s s₂ → K ys ((D, oD) :: (Lf, oL) :: news) s₂) :
  wpAny (MO w) (ktrTop dp un gd cn cs L a ccd cl outer) (eval (.Call (.Name "range" p) [.Call (.Name "_law_draw" p1) [.Name "deck" p2, .Constant (.int lim) k9 p3] [] p4] [] p5) (envX cn cs L a ccd cl)) (CompOf w (ktrTop dp un gd cn cs L a ccd cl outer) h₀ L m (envX cn cs L a ccd cl) elt z scope cl2 K) E s := by
  refine px_rangeW ⟨X, T⟩ F rfl hr (fun _ => rfl) (px_draw B F X N T hk (room hdp rfl) (room hun rfl) hlim.1 hlim.2 hD ne off (fun Q h => nameX_K F X (topRead_of T) rfl h hg.of.1.1 hg.of.1.2 rfl) (fun Q h => nameX_C N hc (.tail _ (.tail _ hm)) hd9 h (nameIs_of hx).1.1 (nameIs_of hx).1.2 rfl) (fun _ _ => rfl) fun k t o₁ o₂ s₂ h1 h2 hD₂ S₂ F₂ N₂ => ?_)
  obtain ⟨n, rfl⟩ := Int.eq_ofNat_of_zero_le h1
  have hn9 : n ≤ 1000 := Int.ofNat_le.1 (Int.le_trans (Int.le_of_lt h2) hlim.2)
  refine ⟨n, t, _, m, rfl, hn9, F₂, N₂, fun xv s₃ h₃ => ?_⟩
  refine ⟨_, [], [], n, _, le_line hn9, (fun _ h => nomatch h), h₃.1, fun s₄ S₄ => ?_⟩
  refine comp_run (fun i ys nx => ∃ ks oD oL, nx = (D, oD) :: (Lf, oL) :: news ∧ IntsAre ys ks ∧ (∀ k ∈ ks, R k) ∧ ks.length = i ∧ Dk w Lf oD oL) ⟨[], _, _, rfl, .nil, (fun _ h => nomatch h), rfl, hD₂⟩ (fun _ _ _ _ _ h => nomatch h) ?_ ?_
  · intro i v C oC m₂ ys nx own s₅ Q' E' hi hv hJ hCo hC hx5 S₅ F₅ N₅ sep k₅
    obtain ⟨ks, oD5, oL5, rfl, hy, hR, hl, hD₅⟩ := hJ
    refine helt C own oD5 oL5 s₅ Q' E' hD₅ F₅ N₅ (fun p hp => ?_) fun k t oD6 oL6 s₆ hk6 hD₆ S₆ F₆ N₆ => k₅ _ ((D, oD6) :: (Lf, oL6) :: news) s₆ S₆ F₆ N₆ rfl ⟨ks ++ [k], _, _, rfl, hy.append (.cons _ _ .nil), fun n hn => ?_, by rw [List.length_append, hl]; rfl, hD₆⟩
    · rcases List.mem_append.1 hp with hp | hp
      · exact off p hp
      · exact ⟨sep p hp _ (.head _), sep p hp _ (.tail _ (.head _))⟩
    · rcases List.mem_append.1 hn with hn | hn
      · exact hR n hn
      · rw [List.mem_singleton.1 hn]; exact hk6
  · intro ys nx hJ
    obtain ⟨ks, oD5, oL5, rfl, hy, hR, hl, hD₅⟩ := hJ
    exact fin ys ks oD5 oL5 s₄ hy hR (hl ▸ h2) hD₅ ((S₂.trans h₃.2).trans S₄)
end
noncomputable section
theorem px_s {w : World} {A : Around} {E : Value → Shared → Prop} {s : Shared} {x : Str} {e : Expr} {Ok : World → Env → Heap → Prop} {env : Env} {Q : Value → Shared → Prop} (ok : Ok w env s.heap) (pa : PS Ok e x) (k : ∀ t tk, Q (.str x t) { s with toks := tk }) : wpAny (MO w) A (eval e env) Q E s := pa _ _ _ _ _ _ ok k
theorem nw_swap {h₀ h : Heap} {L : Addr} {news : List (Addr × Obj)} {p q : Addr × Obj} (N : News h₀ L h (p :: q :: news)) : News h₀ L h (q :: p :: news) :=
  nw_cons (N q (.tail _ (.head _))) (nw_cons (N p (.head _)) fun r hr => N r (.tail _ (.tail _ hr)))
noncomputable def AUn (un : Nat) : Prop := un < cLine
section
variable {b : Array UInt8} {tb t : Tok} {ks : List Int} {p1 p2 p3 p4 p5 p6 p7 p8 p9 q1 q2 q3 q4 q5 q6 q7 q8 q9 r1 r2 r3 r4 r5 r6 r7 r8 r9 : Pos} {k1 k2 k3 k4 k5 k6 k7 : Nat}
/-- hex there and back -/
theorem px_hexTest {w : World} {mg mb : Str → Option Value} {mean : ExcName → Option Value} {dp un : Nat} {gd : Option (List Code)} {cn : Str} {cs : Scope} {a : Addr} {ccd : Value} {cl : List (Str × Addr)} {outer : List Env} {A₀ : Around} {base h₀ : Heap} {L : Addr} {l : List (Str × Option Value)} {news : List (Addr × Obj)} {s : Shared} {Q E : Value → Shared → Prop}
  (B : Below A₀ base outer h₀) (F : Fr h₀ L s.heap (lk l)) (X : (hd.heap_39 w.params).In h₀) (N : News h₀ L s.heap news) (T : Top hd.view_39 (looseW hd.view_39 [PySem.Str.ofString "GitError"]) mean mg mb h₀) (hk : cs.kind = .function) (hdp : dp + 15 < recursionLimit) (hun : un + 120 < cLine) (XB : (hd.heap_39 w.params).In base) (TB : Top hd.view_39 (looseW hd.view_39 [PySem.Str.ofString "GitError"]) mean mg mb base) (D : KtsDicts (outer.filterMap (·.frame)) h₀) {P : Bool → Shared → Prop} {whole : Sem Value} (ho : lk l "octets" = some (.bytes b tb)) (ht : lk l "text" = some (.str (tx (hexCodes ks)) t)) (hb : KBw.bInts b = ks) (hR : KBa.In ks) (hl : ks.length ≤ 4) (pU : PS (OkV cs l) (.Call (.Attribute (.Name "text" q3) "upper" q4) [] [] q5) (Txt.upper (tx (hexCodes ks)))) (hs : Loc cs "octets" ∧ Loc cs "text" ∧ Glo cs "hex_of" ∧ Glo cs "_law_back")
  (k : ∀ h₁ s', KtsTurn (outer.filterMap (·.frame)) h₀ h₁ → Below A₀ base outer h₁ → Sm s s' → Fr h₁ L s'.heap (lk l) → News h₁ L s'.heap news → P false s') :
  wpAny (MO w) (ktrTop dp un gd cn cs L a ccd cl outer) (isTrue (.BoolOp .Or [.Compare (.Call (.Name "hex_of" p1) [.Name "octets" p2] [] p3) [.NotEq] [.Name "text" p4] p5, .Compare (.Call (.Name "_law_back" p6) [.Name "text" p7] [] p8) [.NotEq] [.Name "octets" p9] q1, .Compare (.Call (.Name "_law_back" q2) [.Call (.Attribute (.Name "text" q3) "upper" q4) [] [] q5] [] q6) [.NotEq] [.Name "octets" q7] q8] q9) (envX cn cs L a ccd cl) whole) P E s := by
  have G : Gr w mean mg mb h₀ := ⟨X, T⟩
  have hn : (hexCodes ks).length ≤ 8 := by rw [hexCodes_length]; exact Nat.mul_le_mul_left 2 hl
  refine wpAny_isTrue_BoolOp (wpAny_allTrue_Or_cons (wpAny_isTrue_Compare1 (px_call1 G F hs.2.2.1 rfl rfl (pe_name ho hs.1) (fun _ => rfl) fun v tk₁ e1 => ?_) rfl))
  subst e1
  refine hex_of_spec (s := { s with toks := tk₁ }) B F X N T hk (room hdp rfl) (room hun rfl) hb (Nat.le_trans hl (by decide)) fun t₁ s₁ S₁ F₁ N₁ => px_name F₁ ht hs.2.1 (ne_strF (wpAny_truthy_bool (wpAny_allTrue_Or_cons (wpAny_isTrue_Compare1 (px_call1s G F₁ hs.2.2.2 rfl rfl (ps_name ht hs.2.1) (fun _ => rfl) fun t₂ tk₂ => ?_) rfl))))
  refine back_spec B (s := { s₁ with toks := tk₂ }) F₁ X N₁ T hk (room hdp rfl) (room hun rfl) XB TB D (us := hexCodes ks) rfl (Nat.le_trans hn (by decide)) (fun ks₂ b₂ hu hb₂ t₃ s₂ S₂ Z => ?_) fun h => absurd (h.symm.trans (unhex_low hR)) (fun q => nomatch q)
  have e2 : ks = ks₂ := Option.some.inj ((unhex_low hR).symm.trans hu)
  obtain ⟨g₂, T₂, F₂, N₂, B₂⟩ := Z
  have G₂ : Gr w mean mg mb g₂ := ⟨XB.keeps B₂.stays, TB.keeps B₂.stays⟩
  refine px_name F₂ ho hs.1 (ne_bytesF (hb₂.trans (e2.symm.trans hb.symm)) (wpAny_truthy_bool (wpAny_allTrue_Or_cons (wpAny_isTrue_Compare1 (px_call1s G₂ F₂ hs.2.2.2 rfl rfl pU (fun _ => rfl) fun t₄ tk₃ => ?_) rfl))))
  refine back_spec B₂ (s := { s₂ with toks := tk₃ }) F₂ G₂.X N₂ G₂.T hk (room hdp rfl) (room hun rfl) XB TB (D.turn T₂) (us := (hexCodes ks).map up1) (hex_upper ks hR) (by rw [List.length_map]; exact Nat.le_trans hn (by decide)) (fun ks₃ b₃ hu hb₃ t₅ s₃ S₃ Z => ?_) fun h => absurd (h.symm.trans (unhex_up hR)) (fun q => nomatch q)
  have e3 : ks = ks₃ := Option.some.inj ((unhex_up hR).symm.trans hu)
  obtain ⟨g₃, T₃, F₃, N₃, B₃⟩ := Z
  exact px_name F₃ ho hs.1 (ne_bytesF (hb₃.trans (e3.symm.trans hb.symm)) (wpAny_truthy_bool (wpAny_allTrue_Or_nil (k g₃ s₃ (T₂.trans T₃) B₃ (((Sm.trans .mk' S₁).trans (Sm.trans .mk' S₂)).trans (Sm.trans .mk' S₃)) F₃ N₃))))
noncomputable abbrev oddSc : Scope := { kind := .function, names := [(".0", .local), ("odd", .local), ("_law_back", .globalImplicit)], isGenerator := false, isCoroutine := false }
/-- the five odd texts, made -/
theorem px_five {w : World} {A : Around} {E Q : Value → Shared → Prop} {s : Shared} {h₀ : Heap} {L a : Addr} {mg mb : Str → Option Value} {mean : ExcName → Option Value} {l : List (Str × Option Value)} {cn : Str} {cs : Scope} {ccd : Value} {cl : List (Str × Addr)} {t : Tok} {ks : List Int} {k1 k2 k3 k4 k5 k6 k7 : Nat} {p3 p4 p5 p6 p7 p8 p9 q1 q2 q3 q4 q5 q6 q7 q8 q9 r1 r2 : Pos} (G : Gr w mean mg mb h₀) (F : Fr h₀ L s.heap (lk l)) (ht : lk l "text" = some (.str (tx (hexCodes ks)) t)) (hn2 : ∀ {c : Nat}, Nat.ble c 2 = true → (hexCodes ks).length + c ≤ 1000) (hs : Loc cs "text")
  (k : ∀ vs tk, StrsAre vs ((odds (hexCodes ks)).map tx) → vs.length = 5 → wpAny (MO w) A (newTuple vs) Q E { s with toks := tk }) :
  wpAny (MO w) A (eval (.Tuple [.BinOp (.Name "text" p3) .Add (.Constant (.str "0") k1 p4) p5, .BinOp (.Name "text" p6) .Add (.Constant (.str "g0") k2 p7) p8, .BinOp (.Name "text" p9) .Add (.Constant (.str "0g") k3 q1) q2, .BinOp (.BinOp (.Constant (.str "-") k4 q3) .Add (.Name "text" q4) q5) .Add (.Constant (.str "1") k5 q6) q7, .BinOp (.Name "text" q8) .Add (.Constant (.str " 1") k6 q9) r1] k7 r2) (envX cn cs L a ccd cl)) Q E s := by
  refine Tuple_ (args_cons (px_s (okV (cs := cs) (cn := cn) (a := a) (ccd := ccd) (cl := cl) G F) (ps_addT (b := [48]) (ps_name ht hs) (ps_lit (by decide +kernel)) (hn2 rfl)) fun t1 k1 => ?_) rfl)
  refine args_cons (px_s (s := { s with toks := k1 }) (okV (cs := cs) (cn := cn) (a := a) (ccd := ccd) (cl := cl) G F) (ps_addT (b := [103, 48]) (ps_name ht hs) (ps_lit (by decide +kernel)) (hn2 rfl)) fun t2 k2 => ?_) rfl
  refine args_cons (px_s (s := { s with toks := k2 }) (okV (cs := cs) (cn := cn) (a := a) (ccd := ccd) (cl := cl) G F) (ps_addT (b := [48, 103]) (ps_name ht hs) (ps_lit (by decide +kernel)) (hn2 rfl)) fun t3 k3 => ?_) rfl
  refine args_cons (px_s (s := { s with toks := k3 }) (okV (cs := cs) (cn := cn) (a := a) (ccd := ccd) (cl := cl) G F) (ps_addT (b := [49]) (ps_addT (a := [45]) (ps_lit (by decide +kernel)) (ps_name ht hs) (by rw [Nat.add_comm]; exact hn2 rfl)) (ps_lit (by decide +kernel)) (by rw [List.length_append, Nat.add_right_comm, Nat.add_comm]; exact hn2 rfl)) fun t4 k4 => ?_) rfl
  exact args_cons (px_s (s := { s with toks := k4 }) (okV (cs := cs) (cn := cn) (a := a) (ccd := ccd) (cl := cl) G F) (ps_addT (b := [32, 49]) (ps_name ht hs) (ps_lit (by decide +kernel)) (hn2 rfl)) fun t5 k5 => args_nil (k _ k5 (.cons _ _ (.cons _ _ (.cons _ _ (.cons _ _ (.cons _ _ .nil))))) rfl)) rfl
/-- the five odd texts -/
theorem px_oddsR {w : World} {mg mb : Str → Option Value} {mean : ExcName → Option Value} {dp un : Nat} {gd : Option (List Code)} {cn : Str} {cs : Scope} {a : Addr} {ccd : Value} {cl : List (Str × Addr)} {outer : List Env} {A₀ : Around} {base h₀ : Heap} {L : Addr} {l : List (Str × Option Value)} {news : List (Addr × Obj)} {s : Shared} {Q E : Value → Shared → Prop}
  (B : Below A₀ base outer h₀) (F : Fr h₀ L s.heap (lk l)) (X : (hd.heap_39 w.params).In h₀) (N : News h₀ L s.heap news) (T : Top hd.view_39 (looseW hd.view_39 [PySem.Str.ofString "GitError"]) mean mg mb h₀) (hk : cs.kind = .function) (hdp : dp + 15 < recursionLimit) (hun : un + 120 < cLine) (XB : (hd.heap_39 w.params).In base) (TB : Top hd.view_39 (looseW hd.view_39 [PySem.Str.ofString "GitError"]) mean mg mb base) (D : KtsDicts (outer.filterMap (·.frame)) h₀) {Lo : Addr} (hfs : outer.filterMap (·.frame) = [Lo]) (ht : lk l "text" = some (.str (tx (hexCodes ks)) t)) (hR : KBa.In ks) (hl : ks.length ≤ 4) (hs : Loc cs "text" ∧ AUn (un + 64))
  (k : ∀ h₁ s', KtsTurn [Lo] h₀ h₁ → Sm s s' → Fr h₁ L s'.heap (lk l) → News h₁ L s'.heap news → Q (.bool true) s') :
  wpAny (MO w) (ktrTop dp un gd cn cs L a ccd cl outer) (eval (.Compare (.ListComp (.Name "odd" p1) [⟨.Name "odd" p2, .Tuple [.BinOp (.Name "text" p3) .Add (.Constant (.str "0") k1 p4) p5, .BinOp (.Name "text" p6) .Add (.Constant (.str "g0") k2 p7) p8, .BinOp (.Name "text" p9) .Add (.Constant (.str "0g") k3 q1) q2, .BinOp (.BinOp (.Constant (.str "-") k4 q3) .Add (.Name "text" q4) q5) .Add (.Constant (.str "1") k5 q6) q7, .BinOp (.Name "text" q8) .Add (.Constant (.str " 1") k6 q9) r1] k7 r2, [.Compare (.Call (.Name "_law_back" r3) [.Name "odd" r4] [] r5) [.IsNot] [.Constant .none 0 r6] r7], 0⟩] oddSc r8) [.Eq] [.List [] r9] p) (envX cn cs L a ccd cl)) Q E s := by
  have G : Gr w mean mg mb h₀ := ⟨X, T⟩
  have hn : (hexCodes ks).length ≤ 8 := by rw [hexCodes_length]; exact Nat.mul_le_mul_left 2 hl
  have hn2 : ∀ {c : Nat}, Nat.ble c 2 = true → (hexCodes ks).length + c ≤ 1000 := fun h => Nat.le_trans (Nat.add_le_add hn (Nat.le_of_ble_eq_true h)) (by decide)
  obtain ⟨oo, _, _, hgL, _⟩ := D Lo (by rw [hfs]; exact .head _)
  obtain ⟨sl₀, FH, NH⟩ := rehide hgL .refl F N
  have offL : ∀ p ∈ news, p.1 ≠ Lo := fun p hp q => by
    have z := (N p hp).2.2
    rw [q, hgL] at z; cases z
  refine wpAny_Compare1 (px_compT (h₀ := hideAll h₀ [Lo]) (L := L) (m := lk l) (cl := []) rfl (by decide) rfl (by decide) rfl (fun _ => rfl) ?_) rfl
  refine px_five G F ht hn2 hs.1 fun vs k5 hvs hv5 => ?_
  refine newTuple_N (s := { s with toks := k5 }) FH NH (fun h₁₃ F₁₃ N₁₃ => ?_) (by rw [hv5]; exact Nat.le_of_ble_eq_true rfl)
  have hZ : s.heap.objs.size ≠ Lo := fun q => by
    have z := Heap.lt_size (NH _ (.head _)).1
    have q : s.heap.objs.size = Lo := q
    rw [q] at z; exact absurd z (Nat.lt_irrefl _)
  generalize s.heap.objs.size = Z at N₁₃ hZ ⊢
  refine ⟨_, [_], [(_, _)], _, _, ?_, fun p hp => by rw [List.mem_singleton.1 hp]; exact .head _, it_tuple (s := { s with heap := h₁₃, toks := k5 }) rfl F₁₃ N₁₃, fun s₁₄ S₁₄ => ?_⟩
  · rw [hv5, PySem.sizeLine_eq]; exact Nat.le_of_ble_eq_true rfl
  refine comp_runT (fun i ys nx => ys = [] ∧ ∃ sl, nx = (Z, { cls := .type "tuple", data := .seq vs.toArray }) :: (Lo, { oo with slots := sl }) :: news) ⟨rfl, sl₀, rfl⟩ (fun i ys nx h p hp => ?_) ?_ ?_
  · obtain ⟨_, sl, rfl⟩ := h
    rw [List.mem_singleton.1 hp]; exact .head _
  · intro i v C oC m₂ ys nx own s₁₅ Q₅ E₅ hi hv hJ hCo hC hx S₁₅ F₁₅ N₁₅ sep kf _
    obtain ⟨rfl, sl, rfl⟩ := hJ
    obtain ⟨x, hx1, t9, rfl⟩ := strs_at hvs v (List.mem_of_getElem? hv)
    obtain ⟨us, hu1, rfl⟩ := List.mem_map.1 hx1
    have bad := odds_none hR us hu1
    have hul := odds_len us hu1
    obtain ⟨g₅, T₅, F₅, N₅, B₅⟩ := unhide hgL F₁₅ (nw_swap N₁₅) (fun p hp => by
      rcases List.mem_cons.1 hp with rfl | hp
      · exact hZ
      · rcases List.mem_append.1 hp with hp | hp
        · exact offL p hp
        · exact sep p hp _ (.tail _ (.head _))) B hfs
    have G₅ : Gr w mean mg mb g₅ := ⟨XB.keeps B₅.stays, TB.keeps B₅.stays⟩
    refine wpAny_isTrue_Compare1 (Call_ (LCgL.ld_global F₅ G₅.X G₅.T rfl (callWith_K (K := Nt.hd.heap_39 w.params) (h₀ := g₅) G₅.X rfl (args_cons (LCgL.ld_own N₅ (.tail _ (List.mem_append_right _ hCo)) hC hx (args_nil ⟨G₅.at F₅, ?_⟩) rfl rfl rfl) rfl) rfl rfl) rfl rfl rfl rfl)) rfl
    show wpAny _ _ (call (.ref 245) [.str (tx us) t9]) _ _ _
    refine back_spec B₅ F₅ G₅.X N₅ G₅.T hk (room hdp rfl) (room hun rfl) XB TB (D.turn T₅) (us := us) rfl (Nat.le_trans hul (hn2 rfl)) (fun ks₉ b₉ h => absurd (bad.symm.trans h) (fun q => nomatch q)) fun _ s₁₆ S₁₆ Y => ?_
    obtain ⟨g₆, T₆, F₆, N₆, B₆⟩ := Y
    have T56 := T₅.trans T₆
    rw [hfs] at T56
    obtain ⟨sl₆, FH₆, NH₆⟩ := rehide hgL T56 F₆ N₆
    exact wpAny_Constant_none (isnot_none (kf (_ :: (Lo, { oo with slots := sl₆ }) :: _) _ S₁₆ FH₆ (nw_swap NH₆) rfl ⟨rfl, sl₆, rfl⟩))
  · intro ys nx hJ W s₁₆ S₁₆ F₁₆ N₁₆ offW
    obtain ⟨rfl, sl, rfl⟩ := hJ
    refine px_list0 F₁₆ N₁₆ fun Y oY s₁₇ S₁₇ IY F₁₇ N₁₇ offY => ?_
    obtain ⟨us, n2, rfl, j⟩ := IY
    refine ke_eq_ints (News.isList N₁₇ (.tail _ (.head _))) (News.isList N₁₇ (.head _)) .nil j hs.2 ?_
    obtain ⟨g₅, T₅, F₅, N₅, B₅⟩ := unhide hgL F₁₇ (rest := news) (sl := sl) (fun p hp => N₁₇ p (.tail _ (.tail _ (.tail _ hp)))) offL B hfs
    rw [hfs] at T₅
    exact k g₅ _ T₅ ((Sm.trans .mk' S₁₄).trans (S₁₆.trans S₁₇)) F₅ N₅
end
theorem turn_sub {A₀ : Around} {base h₀ h : Heap} {outer : List Env} {L : Addr} {m : Str → Option Value} {news : List (Addr × Obj)} {p q r : Addr × Obj} (hT : Turned A₀ base outer h₀ L m (p :: q :: r :: news) h) : Turned A₀ base outer h₀ L m (p :: q :: news) h := by
  obtain ⟨h₁, T, F, N, B⟩ := hT
  exact ⟨h₁, T, F, nw_two N, B⟩
theorem hexr_spec {D Lf : Addr} {oD oL : Obj} {w : World} {mg mb : Str → Option Value} {mean : ExcName → Option Value} {dp un : Nat} {gd : Option (List Code)} {cn : Str} {cs : Scope} {a : Addr} {ccd : Value} {A₀ : Around} {base h₀ : Heap} {L : Addr} {m : Str → Option Value} {news : List (Addr × Obj)} {s : Shared} {Q E : Value → Shared → Prop}
  (B : Below A₀ base [] h₀) (F : Fr h₀ L s.heap m) (X : (hd.heap_39 w.params).In h₀) (N : News h₀ L s.heap ((D, oD) :: (Lf, oL) :: news)) (T : Top hd.view_39 (looseW hd.view_39 [PySem.Str.ofString "GitError"]) mean mg mb h₀) (hk : cs.kind = .function) (hdp : dp + 20 < recursionLimit) (hun : un + 160 < cLine)
  (XB : (hd.heap_39 w.params).In base) (TB : Top hd.view_39 (looseW hd.view_39 [PySem.Str.ofString "GitError"]) mean mg mb base)
  (hD : Dk w Lf oD oL) (ne : D ≠ Lf) (off : ∀ p ∈ news, p.1 ≠ D ∧ p.1 ≠ Lf)
  (hret : ∀ oD' oL' s₂, Dk w Lf oD' oL' → Sm s s₂ → Turned A₀ base [] h₀ L m ((D, oD') :: (Lf, oL') :: news) s₂.heap → Q (.bool true) s₂) :
  wpAny (model PySem.Challenge.rw_nt0271_01.row.prog w) (ktrTop dp un gd cn cs L a ccd [] []) (call (.ref 250) [.ref D]) Q E s := by
  have D0 : KtsDicts (([] : List Env).filterMap (·.frame)) h₀ := ktsDicts_nil
  w_top off; revert X; k_fill; intro X; refine' nt_enterG (binds := [(Str.ofString "deck", .ref D)]) B F X N T hk (by assumption) 19 hdp hun ?hf ?hc ?hb ["octets", "text"] ?hl ?hcm ?hcl ?hs ?h; (case hf => k_is); (case hc => k_is); (case hb => exact fun _ => BindsTo.of_eq rfl); (case hl => exact Eq.refl [_, _]); (case hcm => exact rfl); (case hcl => exact fun _ => Eq.refl [_]); (case hs => exact ⟨rfl, by decide, rfl, rfl, rfl⟩); intro g' L' s₁ Q' E' dp' un' cells A' hA hA' hdp' hun' FG' F' N' Y' l1 B' X' T' D' S₁ hq hP' hP2; obtain ⟨o', hE', d1'⟩ := CellsAre.one Y'; subst hE'; have G : Gr w mean mg mb g' := ⟨X', T'⟩
  subst hA'
  clear hA hP' hP2 Y'
  have hc1 : ∀ p ∈ (L' + 1, o') :: news, p.1 ≠ D ∧ p.1 ≠ Lf := fun p hp => by
    rcases List.mem_cons.1 hp with rfl | hp
    · have a1 := l1 _ (.head _)
      have a2 := l1 _ (.tail _ (.head _))
      exact ⟨Ne.symm (Nat.ne_of_lt (Nat.lt_succ_of_lt a1)), Ne.symm (Nat.ne_of_lt (Nat.lt_succ_of_lt a2))⟩
    · exact off p hp
  refine' px_let F' ?hx65 ?hl65 ?hs65 ?k65; (case hx65 => exact rfl); (case hl65 => exact fun _ => Eq.refl [_, _]); (case hs65 => exact fun _ => rfl); refine px_bytes G F' rfl rfl (fun _ => rfl) ?_
  refine' px_comp F' ?c163 ?c263 ?c363 ?c463 ?c563 ?c663 ?c763; (case c163 => with_unfolding_all exact rfl); (case c263 => decide); (case c363 => exact rfl); (case c463 => decide); (case c563 => exact rfl); (case c663 => exact fun _ => rfl)
  refine px_drawn (Q := fun _ _ => True) B' F' X' (nw_rot N') T' rfl (room hdp' rfl) (room hun' rfl) hD ne hc1 ⟨by decide, by decide⟩ rfl (.head _) d1' rfl rfl rfl (fun k => 0 ≤ k ∧ k < 256) (fun C own oD₂ oL₂ s₂ Q₂ E₂ hD₂ F₂ N₂ off₂ k₂ => px_draw B' F₂ X' N₂ T' rfl (room hdp' rfl) (room hun' rfl) (by decide) (by decide) hD₂ ne off₂ (fun Q h => LCgL.ld_global F₂ X' T' rfl h rfl rfl rfl rfl) (fun Q h => kcf_cell N₂ rfl (.tail _ (.tail _ (.head _))) d1' h rfl rfl rfl) (fun _ _ => rfl) fun k t o₁ o₂ s₃ h1 h2 hD₃ S₃ F₃ N₃ => k₂ k t _ _ _ ⟨h1, h2⟩ hD₃ S₃ F₃ N₃) fun ys ks oD₂ oL₂ s₂ hy hR hl hD₂ S₂ Z s₃ S₃ F₃ N₃ offZ => ?_
  have h4 : ks.length ≤ 4 := by (first | lia | omega)
  have h8 : (hexCodes ks).length ≤ 8 := by rw [hexCodes_length]; exact Nat.mul_le_mul_left 2 h4
  refine ⟨Z, _, ks, _, rfl, .lst hy, hR, Nat.le_trans h4 (by decide), F₃, N₃, fun b tb s₄ hb S₄ F₄ N₄ => ⟨_, F₄, fun p hp => N₄ p (.tail _ hp), fun s₅ S₅ F₅ N₅ => ?_⟩⟩
  have lv : lk [("octets", some (Value.bytes b tb)), ("text", none)] "octets" = some (.bytes b tb) := rfl
  refine' px_let F₅ ?hx66 ?hl66 ?hs66 ?k66; (case hx66 => exact rfl); (case hl66 => exact fun _ => Eq.refl [_, _]); (case hs66 => exact fun _ => rfl); refine px_join (h₀ := g') (m := lk [("octets", some (Value.bytes b tb)), ("text", none)]) (fun _ => rfl) (fun _ => rfl) (fun t' => ?_)
  refine' px_comp F₅ ?c164 ?c264 ?c364 ?c464 ?c564 ?c664 ?c764; (case c164 => with_unfolding_all exact rfl); (case c264 => decide); (case c364 => exact rfl); (case c464 => decide); (case c564 => exact rfl); (case c664 => exact fun _ => rfl)
  refine px_name F₅ lv rfl ⟨_, [], [], ks.length, _, le_line (Nat.le_trans h4 (by decide)), (fun _ h => nomatch h), it_bytes (s := { s₅ with toks := t' }) rfl F₅ N₅ hb, fun s₆ S₆ => comp_pureS (fun i => ks.getD i 0) (fun i => tx [hexSign (ks.getD i 0 / 16).toNat, hexSign (ks.getD i 0 % 16).toNat]) G (fun i v h => ?_) ⟨rfl, rfl, rfl⟩ (fun i t hi => ?_) fun us hu Z₇ s₇ S₇ F₇ N₇ off₇ => ?_⟩
  · obtain ⟨k, hk, h⟩ := h
    rw [List.getD_eq_getElem?_getD, hk]; exact h
  · have hki := hR (ks.getD i 0) (by rw [List.getD_eq_getElem?_getD, List.getElem?_eq_getElem hi]; exact List.getElem_mem hi)
    generalize ks.getD i 0 = k at hki
    have e1 : k.fdiv 16 = k / 16 := Int.fdiv_eq_ediv_of_nonneg _ (by decide)
    have e2 : k.fmod 16 = k % 16 := Int.fmod_eq_emod_of_nonneg _ (by decide)
    exact ps_addT (a := [_]) (b := [_]) (ps_at ps_const (pv_div (pc_own rfl) pv_const (by decide)) (e1.symm ▸ (hx_in hki).1) (e1.symm ▸ hex_cps _ (hx_in hki).2) (by decide +kernel) (fun _ _ _ => rfl) (fun _ _ => by with_unfolding_all rfl)) (ps_at ps_const (pv_mod (pc_own rfl) pv_const (by decide)) (e2.symm ▸ (lx_in k).1) (e2.symm ▸ hex_cps _ (lx_in k).2) (by decide +kernel) (fun _ _ _ => rfl) (fun _ _ => by with_unfolding_all rfl)) (Nat.le_of_ble_eq_true rfl)
  rw [map_getDs (fun k => tx [hexSign (k / 16).toNat, hexSign (k % 16).toNat])] at hu
  have hu : StrsAre us ((ks.map fun k => [hexSign (k / 16).toNat, hexSign (k % 16).toNat]).map tx) := by rw [List.map_map]; exact hu
  refine ⟨Z₇, _, hexCodes ks, ks.length, _, rfl, ⟨_, _, _, rfl, hu, rfl, by rw [List.length_map]⟩, Nat.le_trans (Nat.add_le_add h8 h4) (by decide), F₇, N₇, fun t s₈ S₈ F₈ N₈ => ⟨_, F₈, fun p hp => N₈ p (.tail _ hp), fun s₉ S₉ F₉ N₉ => ?_⟩⟩
  have S19 : Sm s₁ s₉ := (((S₂.trans S₃).trans S₄).trans S₅).trans ((Sm.trans .mk' (S₆.trans S₇)).trans (S₈.trans S₉))
  clear S₂ S₃ S₄ S₅ S₆ S₇ S₈ S₉ hy hu F₃ N₃ F₄ N₄ F₅ N₅ F₇ N₇ F₈ N₈
  refine wpAny_execs_cons (wpAny_If (px_hexTest (Q := fun _ _ => True) B' F₉ X' N₉ T' rfl (room hdp' rfl) (room hun' rfl) XB TB D' (Eq.refl (some (Value.bytes b tb))) (Eq.refl (some (Value.str (tx (hexCodes ks)) t))) hb hR h4 (ps_upper (ps_name (Eq.refl (some (Value.str (tx (hexCodes ks)) t))) rfl) (Nat.le_trans h8 (by decide)) (fun _ => rfl)) ⟨rfl, rfl, rfl, rfl⟩ fun g₃ s₁₂ T₃ B₃ S₁₂ F₁₂ N₁₂ => wpAny_execs_nil ?_))
  refine px_rete (px_oddsR B₃ F₁₂ (XB.keeps B₃.stays) N₁₂ (TB.keeps B₃.stays) rfl (room hdp' rfl) (room hun' rfl) XB TB (D'.turn T₃) (Lo := L) rfl (Eq.refl (some (Value.str (tx (hexCodes ks)) t))) hR h4 ⟨rfl, room hun' rfl⟩ fun g₅ s₁₃ T₅ S₁₃ F₁₃ N₁₃ => ?_)
  have S := S19.trans (S₁₂.trans S₁₃)
  exact hq _ _ _ _ _ S (T₃.trans T₅) F₁₃ N₁₃ fun Z => hret _ _ _ hD₂ (S₁.trans S) (turn_sub Z)
end
noncomputable section
noncomputable abbrev signSc : Scope := { kind := .function, names := [(".0", .local), ("sign", .local)], isGenerator := false, isCoroutine := false }
/-- which signs are not of the row's figures -/
noncomputable def strays (hi : Int) (ks : List Int) : List Int := ks.filter fun k => !(decide (48 ≤ k) && decide (k ≤ hi))
noncomputable def allIn (hi : Int) (ks : List Int) : Bool := !decide (ks = []) && decide (strays hi ks = [])
section
variable {w : World} {A : Around} {E : Value → Shared → Prop} {s : Shared} {h₀ : Heap} {L a : Addr} {m mg mb : Str → Option Value} {mean : ExcName → Option Value} {l : List (Str × Option Value)} {cn : Str} {cs : Scope} {ccd : Value} {cl : List (Str × Addr)} {news : List (Addr × Obj)} {e f : Expr} {x y : Int} {p q r : Pos} {v : Value} {env : Env} {Ok : World → Env → Heap → Prop}
/-- a <= b <= c -/
theorem pt_chainE {g : Expr} {z : Int} (pa : PG Ok e x) (pb : PG Ok f y) (pc : PG Ok g z) (hm : lastMarks [.LtE, .LtE] [f, g] = false) : PT Ok (.Compare e [.LtE, .LtE] [f, g] p) (decide (x ≤ y) && decide (y ≤ z)) := fun _ A _ E _ s F k => by
  refine isTrue_chain (pa _ A _ E _ s F fun _ _ => test_link (pb _ A _ E _ _ F fun _ _ => le_int (wpAny_truthy_bool ?_))) hm
  cases h : decide (x ≤ y) with
  | false => rw [h] at k; exact k _
  | true =>
    rw [h] at k
    exact test_last (pc _ A _ E _ _ F fun _ _ => le_int (wpAny_truthy_bool (k _)))
theorem px_t {b : Bool} {Q : Bool → Shared → Prop} (ok : Ok w env s.heap) (pt : PT Ok e b) (k : ∀ tk, Q b { s with toks := tk }) : wpAny (MO w) A (isTrue e env (eval e env)) Q E s := pt _ _ _ _ _ _ ok k
theorem pt_bool {z : Str} {b : Bool} (hv : lk l z = some (.bool b)) (hx : Loc cs z) : PT (OkV cs l) (.Name z p) b := by
  rintro w A _ E Q s ⟨mean, mg, mb, cn, L, a, ccd, cl, h₀, rfl, G, F⟩ k
  exact wpAny_isTrue_value (px_name F hv hx (wpAny_truthy_bool (k s.toks))) rfl
theorem bytes_none {b : Array UInt8} {ks : List Int} (h : KBw.bInts b = ks) : (b.toList != ([] : List UInt8).toArray.toList) = !decide (ks = []) := by
  have e : ks = b.toList.map fun c => (c.toNat : Int) := h.symm
  rw [e]
  cases b.toList <;> rfl
/-- row != b'' and [sign for sign in row if not 48 <= sign <= hi] == [] -/
theorem px_all {b : Array UInt8} {tb : Tok} {ks : List Int} {hi : Int} {scope : Scope} {k1 k2 k3 : Nat} {p1 p2 p3 p4 p5 p6 p7 p8 p9 q1 q2 q3 q4 q5 : Pos} {Q : Value → Shared → Prop} (G : Gr w mean mg mb h₀) (F : Fr h₀ L s.heap (lk l)) (N : News h₀ L s.heap news) (hh : A.handled = none) (hu : A.units + 64 < cLine) (hb : KBw.bInts b = ks) (hn : ks.length ≤ 1000) (hv : lk l "row" = some (.bytes b tb)) (hx : Loc cs "row") (hs : scope = signSc) (hf : cs.kind = .function)
  (k : ∀ s', Sm s s' → Fr h₀ L s'.heap (lk l) → News h₀ L s'.heap news → Q (.bool (allIn hi ks)) s') :
  wpAny (MO w) A (eval (.BoolOp .And [.Compare (.Name "row" p1) [.NotEq] [.Constant (.bytes []) k1 p2] p3, .Compare (.ListComp (.Name "sign" p4) [⟨.Name "sign" p5, .Name "row" p6, [.UnaryOp .Not (.Compare (.Constant (.int 48) k2 p7) [.LtE, .LtE] [.Name "sign" p8, .Constant (.int hi) k3 p9] q1) q2], 0⟩] scope q3) [.Eq] [.List [] q4] q5] p) (envX cn cs L a ccd cl)) Q E s := by
  subst hs
  unfold allIn at k
  refine BoolOp_and (wpAny_Compare1 (px_name F hv hx (Constant_bytes (ne_bytes (wpAny_truthy_bool ?_)))) rfl)
  rw [bytes_none hb]
  cases he : decide (ks = []) with
  | true =>
    rw [he] at k
    exact k _ .mk' F N
  | false =>
    rw [he] at k
    refine BoolOp_one (wpAny_Compare1 (px_compT (h₀ := h₀) (L := L) (m := lk l) (cl := []) ?_ (by decide) rfl (by decide) rfl (fun _ => rfl) (px_name F hv hx ⟨news, [], [], ks.length, _, by rw [PySem.sizeLine_eq]; (first | lia | omega), (fun _ h => nomatch h), it_bytes (s := { s with toks := s.toks + 1 }) hh F N hb, fun s₂ S₂ => ?_⟩)) rfl)
    · rfl
    refine comp_runT (fun i ys nx => nx = news ∧ IntsAre ys (strays hi (ks.take i))) ⟨rfl, .nil⟩ (fun _ _ _ _ _ h => nomatch h) (fun i v C oC m₂ ys nx own s₁ Q' E' hi' hv' hJ hCo hC hx' S₁ F₁ N₁ sep kf kt => ?_) (fun ys nx hJ D s₃ S₃ F₃ N₃ off => ?_)
    · obtain ⟨rfl, hy⟩ := hJ
      obtain ⟨c, hc, t, rfl⟩ := hv'
      have e : strays hi (ks.take (i + 1)) = strays hi (ks.take i) ++ if (!(decide (48 ≤ c) && decide (c ≤ hi))) = true then [c] else [] := by
        unfold strays
        rw [List.take_add_one, hc, List.filter_append]
        show _ ++ List.filter _ [c] = _
        rw [List.filter_cons, List.filter_nil]
      have N₂ := nw_one N₁ (List.mem_append_right _ hCo)
      have ok : OkC signSc [] "sign" (.int c t) [] w (compEnvC signSc [] C (envX cn cs L a ccd cl)) s₁.heap := ⟨signSc, C, oC, m₂, envX cn cs L a ccd cl, h₀, L, lk l, mean, mg, mb, rfl, rfl, rfl, rfl, G, F₁, N₂, hC, hx'⟩
      refine px_t ok (pt_not (pt_chainE pv_const (pc_own rfl) pv_const rfl)) fun tk => ?_
      cases ht : !(decide (48 ≤ c) && decide (c ≤ hi)) with
      | false => exact kf nx _ .mk' F₁ N₁ rfl ⟨rfl, by rw [e, ht, if_neg Bool.false_ne_true, List.append_nil]; exact hy⟩
      | true =>
        refine kt _ (.int c t) .mk' F₁ N₁ ⟨rfl, by rw [e, ht, if_pos rfl]; exact hy.append (.cons _ _ .nil)⟩ fun Q₂ E₂ q => ?_
        exact LCgL.ld_own N₁ (List.mem_append_right _ hCo) hC hx' q rfl rfl rfl
    · obtain ⟨rfl, hy⟩ := hJ
      rw [List.take_length] at hy
      refine px_list0 F₃ N₃ fun Y oY s₄ S₄ IY F₄ N₄ offY => ?_
      obtain ⟨us, n2, rfl, j⟩ := IY
      refine ke_eq_ints (News.isList N₄ (.tail _ (.head _))) (News.isList N₄ (.head _)) hy j hu ?_
      exact k _ ((Sm.trans .mk' S₂).trans (S₃.trans S₄)) F₄ fun p hp => N₄ p (.tail _ (.tail _ hp))
end
end
noncomputable section
/-- a row read in a base, whatever its signs are -/
noncomputable def run (y : Int) (ks : List Int) (n : Int) : Int := ks.foldl (fun n k => n * y + k - 48) n
theorem numGo_run (y : Int) : ∀ (ks : List Int) (n : Int), numGo y ks n = if decide (strays (47 + y) ks = []) = true then some (run y ks n) else none
  | [], _ => rfl
  | k :: ks, n => by
    have e : (decide (0 ≤ k - 48) && decide (k - 48 < y)) = (decide (48 ≤ k) && decide (k ≤ 47 + y)) := by
      congr 1
      · exact decide_eq_decide.2 (by (first | lia | omega))
      · exact decide_eq_decide.2 (by (first | lia | omega))
    have e2 : y * n + (k - 48) = n * y + k - 48 := by rw [Int.mul_comm y n, Int.add_sub_assoc]
    rw [numGo_cons, e, e2]
    cases h : (decide (48 ≤ k) && decide (k ≤ 47 + y)) with
    | true =>
      rw [if_pos rfl, numGo_run y ks]
      have e3 : strays (47 + y) (k :: ks) = strays (47 + y) ks := by unfold strays; rw [List.filter_cons, h]; rfl
      rw [e3]; rfl
    | false =>
      have e3 : strays (47 + y) (k :: ks) = k :: strays (47 + y) ks := by unfold strays; rw [List.filter_cons, h]; rfl
      rw [e3, if_neg Bool.false_ne_true, if_neg (by rw [decide_eq_true_eq]; exact fun q => nomatch q)]
theorem numBy_run (y : Int) (ks : List Int) : numBy y ks = if allIn (47 + y) ks = true then some (run y ks 0) else none := by
  unfold numBy allIn
  cases ks with
  | nil => rfl
  | cons k r =>
    rw [if_neg (fun q => nomatch q), numGo_run]
    rw [show decide (k :: r = []) = false from decide_eq_false fun q => nomatch q]
    rfl
/-- what is due of number_of, at the start -/
noncomputable def dueAt (ks : List Int) : Bool := allIn 57 ks && (!(ks.getD 0 0 == 48) || ((ks.length : Int) == 1))
theorem numOf_run (ks : List Int) : numOf ks = if dueAt ks = true then some (run 10 ks 0) else none := by
  unfold numOf dueAt
  rw [numBy_run]
  show (if _ then none else if allIn 57 ks = true then _ else _) = _
  cases ha : allIn 57 ks with
  | false => split <;> rfl
  | true =>
    cases ks with
    | nil => cases ha
    | cons k r =>
      cases hk : (k :: r).getD 0 0 == 48 with
      | false => rw [Bool.and_false, if_neg Bool.false_ne_true]; rfl
      | true =>
        rw [Bool.and_true]
        cases r with
        | nil => rfl
        | cons a r =>
          rw [if_pos (decide_eq_true (show (1 : Int) < ((k :: a :: r).length : Int) from Int.ofNat_lt.2 (Nat.succ_lt_succ (Nat.zero_lt_succ _))))]
          rw [if_neg]
          intro q
          have q : ((((k :: _ :: _ : List Int).length : Int)) == 1) = true := q
          have := eq_of_beq q
          exact absurd (Int.ofNat_inj.1 this) (fun q => nomatch q)
noncomputable def runG : Nat → Int → Int
  | 0, B => B
  | i + 1, B => runG i (10 * B + 300)
theorem run_in {y : Int} (hy : y = 8 ∨ y = 10) : ∀ (ks : List Int) (n B : Int), (∀ k ∈ ks, 0 ≤ k ∧ k < 256) → -B ≤ n ∧ n ≤ B → -runG ks.length B ≤ run y ks n ∧ run y ks n ≤ runG ks.length B
  | [], _, _, _, h => h
  | k :: ks, n, B, hk, h => by
    refine run_in hy ks (n * y + k - 48) (10 * B + 300) (fun j hj => hk j (.tail _ hj)) ?_
    have hk := hk k (.head _)
    rcases hy with rfl | rfl <;> (first | lia | omega)
/-- within what the texts of two ints fit -/
noncomputable def Sml (n : Int) : Prop := -999999999999 ≤ n ∧ n ≤ 999999999999
theorem run_small {y : Int} (hy : y = 8 ∨ y = 10) {ks : List Int} (hl : ks.length < 5) (hk : ∀ k ∈ ks, 0 ≤ k ∧ k < 256) : Sml (run y ks 0) := by
  have h := run_in hy ks 0 0 hk ⟨by decide, by decide⟩
  have : ∀ i : Nat, i < 5 → runG i 0 ≤ 999999999999 := by decide
  have := this _ hl
  exact ⟨by (first | lia | omega), by (first | lia | omega)⟩
/-- None or an int, as a datum -/
noncomputable def od : Option Int → PyData
  | none => .none
  | some n => .int n
theorem reads_od {h : Heap} {o : Option Int} {v : Value} (ho : IsON o v) : Reads h v (od o) [] := by
  cases o with
  | none => obtain rfl : v = .none := ho; exact Reads.none
  | some n => obtain ⟨t, rfl⟩ := ho; exact Reads.int n t
theorem od_facts {o : Option Int} (ho : ∀ n, o = some n → Sml n) : (od o).showable = true ∧ (od o).hasDict = false ∧ (od o).leavesShort 13 = true ∧ (od o).bulk = 0 ∧ (od o).depth = 0 := by
  cases o with
  | none => exact ⟨by simp [od, PyData.showable], by simp [od, PyData.hasDict], by simp [od, PyData.leavesShort], by simp [od, PyData.bulk], by simp [od, PyData.depth]⟩
  | some n =>
    have h := ho n rfl
    exact ⟨by simp only [od, PyData.showable, decide_eq_true_eq]; exact shown (N := 1000000000000) (by have := h.1; (first | lia | omega)) (by have := h.2; (first | lia | omega)) (by decide +kernel), by simp [od, PyData.hasDict], by simp only [od, PyData.leavesShort, decide_eq_true_eq]; exact PyData.shown_int_le2 h.1 h.2, by simp [od, PyData.bulk], by simp [od, PyData.depth]⟩
/-- repr of a list of two such -/
theorem px_repr {w : World} {A : Around} {E : Value → Shared → Prop} {s : Shared} {h₀ : Heap} {L D : Addr} {m : Str → Option Value} {news : List (Addr × Obj)} {v1 v2 : Value} {o1 o2 : Option Int} {n : Nat} {Q : Value → Shared → Prop} (F : Fr h₀ L s.heap m) (N : News h₀ L s.heap ((D, listOf [v1, v2].toArray n) :: news)) (h1 : IsON o1 v1) (h2 : IsON o2 v2) (hs : (∀ n, o1 = some n → Sml n) ∧ ∀ n, o2 = some n → Sml n) (hg : A.guards = some []) (hu : A.units + 64 < cLine)
    (k : ∀ u s', Sm s s' → Fr h₀ L s'.heap m → News h₀ L s'.heap ((D, listOf [v1, v2].toArray n) :: news) → Q (.str (PyData.list [od o1, od o2]).shown u) s') : wpAny (MO w) A (call (.builtin "repr") [.ref D]) Q E s := by
  obtain ⟨a1, a2, a3, a4, a5⟩ := od_facts hs.1
  obtain ⟨b1, b2, b3, b4, b5⟩ := od_facts hs.2
  refine repr_HN F N (Reads.list (N.get (.head _)) rfl rfl (.cons (reads_od h1) (.cons (reads_od h2) .nil))) ?_ ?_ hg ?_ (fun h' u tk F' N' => k u _ .mk' F' N') ?_
  · simp only [PyData.hasDict, PyData.hasDictAll, a2, b2, Bool.or_self]
  · simp only [PyData.showable, PyData.showableAll, a1, b1, Bool.and_self]
  · simp only [PyData.depth, PyData.depthAll, a5, b5]; (first | lia | omega)
  · refine PyData.shown_fits_bulk (B := 13) (by decide) (by decide) ?_ ?_
    · simp only [PyData.leavesShort, PyData.leavesShortAll, a3, b3, Bool.and_self]
    · simp only [PyData.bulk, PyData.bulkAll, a4, b4]; decide
end
noncomputable section
theorem run_snoc (y k n : Int) (l : List Int) : run y (l ++ [k]) n = run y l n * y + k - 48 := by unfold run; rw [List.foldl_append]; rfl
section
variable {w : World} {A : Around} {E : Value → Shared → Prop} {s : Shared} {h₀ : Heap} {L a : Addr} {m mg mb : Str → Option Value} {mean : ExcName → Option Value} {l : List (Str × Option Value)} {cn : Str} {cs : Scope} {ccd : Value} {cl : List (Str × Addr)} {news : List (Addr × Obj)} {e f : Expr} {x y : Int} {p q r : Pos} {v : Value}
theorem px_ifON {test : Expr} {b : Bool} {k9 : Nat} {Q : Value → Shared → Prop} (G : Gr w mean mg mb h₀) (F : Fr h₀ L s.heap (lk l)) (ht : PT (OkV cs l) test b) (pa : PV cs l e x) (k : ∀ v tk, IsON (if b = true then some x else none) v → Q v { s with toks := tk }) : wpAny (MO w) A (eval (.IfExp test e (.Constant .none k9 p) q) (envX cn cs L a ccd cl)) Q E s := by
  refine px_ifexp G F ht (fun tk h => ?_) fun tk h => ?_
  · subst h; exact px_eval (s := { s with toks := tk }) G F pa fun t tk => k _ _ ⟨t, rfl⟩
  · subst h; exact wpAny_Constant_none (k _ _ rfl)
theorem px_ifNO {z : Str} {o : Option Int} {v : Value} {k9 k8 : Nat} {g : Int → Int} {p2 p3 : Pos} {Q : Value → Shared → Prop} (G : Gr w mean mg mb h₀) (F : Fr h₀ L s.heap (lk l)) (hv : lk l z = some v) (ho : IsON o v) (hx : Loc cs z) (pa : ∀ n t, lk l z = some (.int n t) → PV cs l e (g n)) (k : ∀ v tk, IsON (o.map g) v → Q v { s with toks := tk }) : wpAny (MO w) A (eval (.IfExp (.Compare (.Name z p) [.Is] [.Constant .none k9 q] r) (.Constant .none k8 p2) e p3) (envX cn cs L a ccd cl)) Q E s := by
  refine px_ifexp G F (pt_none hv ho hx) (fun tk h => ?_) fun tk h => ?_
  · cases o with
    | none => exact wpAny_Constant_none (k _ _ rfl)
    | some n => cases h
  · cases o with
    | none => cases h
    | some n =>
      obtain ⟨t, rfl⟩ := ho
      exact px_eval (s := { s with toks := tk }) G F (pa n t hv) fun t tk => k _ _ ⟨t, rfl⟩
end
theorem sign_in : ∀ n : Nat, n < 14 → 0 ≤ [(48 : Int), 49, 50, 51, 52, 53, 54, 55, 56, 57, 32, 45, 120, 55].getD n 0 ∧ [(48 : Int), 49, 50, 51, 52, 53, 54, 55, 56, 57, 32, 45, 120, 55].getD n 0 < 256 := by decide +kernel
theorem boot_repr : bootBuiltins "repr" = some (.builtin "repr") := by decide +kernel
noncomputable def slR (a b c d e f g : Option Value) : List (Str × Option Value) := [("go", a), ("sign", b), ("row", c), ("plain", d), ("due", e), ("eight", f), ("far", g)]
theorem rows_spec {D Lf : Addr} {oD oL : Obj} {w : World} {mg mb : Str → Option Value} {mean : ExcName → Option Value} {dp un : Nat} {gd : Option (List Code)} {cn : Str} {cs : Scope} {a : Addr} {ccd : Value} {cl : List (Str × Addr)} {outer : List Env} {A₀ : Around} {base h₀ : Heap} {L : Addr} {m : Str → Option Value} {news : List (Addr × Obj)} {s : Shared} {Q E : Value → Shared → Prop}
  (B : Below A₀ base outer h₀) (F : Fr h₀ L s.heap m) (X : (hd.heap_39 w.params).In h₀) (N : News h₀ L s.heap ((D, oD) :: (Lf, oL) :: news)) (T : Top hd.view_39 (looseW hd.view_39 [PySem.Str.ofString "GitError"]) mean mg mb h₀) (hk : cs.kind = .function) (hdp : dp + 25 < recursionLimit) (hun : un + 200 < cLine)
  (hgd : gd = some []) (hD : Dk w Lf oD oL) (ne : D ≠ Lf) (off : ∀ p ∈ news, p.1 ≠ D ∧ p.1 ≠ Lf)
  (hret : ∀ oD' oL' s₂, Dk w Lf oD' oL' → Sm s s₂ → Fr h₀ L s₂.heap m → News h₀ L s₂.heap ((D, oD') :: (Lf, oL') :: news) → Q (.bool true) s₂) :
  wpAny (model PySem.Challenge.rw_nt0271_01.row.prog w) (ktrTop dp un gd cn cs L a ccd cl outer) (call (.ref 255) [.ref D]) Q E s := by
  w_top off; revert X; k_fill; intro X; refine' nt_enterC (binds := [(Str.ofString "deck", .ref D)]) B F X N T hk 24 hdp hun ?hf ?hc ?hb ["go", "sign", "row", "plain", "due", "eight", "far"] ?hl ?hcm ?hcl ?hs ?h; (case hf => k_is); (case hc => k_is); (case hb => exact fun _ => BindsTo.of_eq rfl); (case hl => exact Eq.refl (slR _ _ _ _ _ _ _)); (case hcm => exact rfl); (case hcl => exact fun _ => Eq.refl [_]); (case hs => exact ⟨rfl, by decide, rfl, rfl, rfl⟩); intro g' L' s₁ Q' E' dp' un' cells hdp' hun' FG' F' N' Y' l1 B' X' T' S₁ hq hP'; obtain ⟨o', hE', d1'⟩ := CellsAre.one Y'; subst hE'; have G : Gr w mean mg mb g' := ⟨X', T'⟩
  clear Y'
  have hu64 : un' + 64 < cLine := room hun' rfl
  have hc1 : ∀ p ∈ (L' + 1, o') :: news, p.1 ≠ D ∧ p.1 ≠ Lf := fun p hp => by
    rcases List.mem_cons.1 hp with rfl | hp
    · have a1 := l1 _ (.head _)
      have a2 := l1 _ (.tail _ (.head _))
      exact ⟨Ne.symm (Nat.ne_of_lt (Nat.lt_succ_of_lt a1)), Ne.symm (Nat.ne_of_lt (Nat.lt_succ_of_lt a2))⟩
    · exact off p hp
  refine' px_for (σ := (Obj × Obj) × Option Value × Option Value × Option Value × Option Value × Option Value × Option Value) (fun c o => slR o c.2.1 c.2.2.1 c.2.2.2.1 c.2.2.2.2.1 c.2.2.2.2.2.1 c.2.2.2.2.2.2) (fun c => (D, c.1.1) :: (Lf, c.1.2) :: (L' + 1, o') :: news) (D :: Lf :: (L' + 1) :: news.map (·.1)) (fun _ c => Dk w Lf c.1.1 c.1.2) ((_, _), none, none, none, none, none, none) F' hP' rfl (fun _ => rfl) (fun _ _ _ => Eq.refl (slR _ _ _ _ _ _ _)) (fun _ => rfl) ?hit ⟨_, rfl, hD⟩ ?turn ?done
  case hit => exact px_range1 (n := 4) G F' (nw_rot N') rfl rfl (okV G F') pv_const rfl (by decide) (fun _ => rfl)
  case done =>
    rintro c o s₂ hD₂ S₂ F₂ N₂
    refine px_rete (wpAny_Constant_bool (hq _ _ _ _ S₂ F₂ N₂ fun Fz Nz => hret _ _ _ hD₂ (S₁.trans S₂) Fz (nw_two Nz)))
  case turn =>
    rintro i ⟨⟨oD₁, oL₁⟩, sg, ro, pl, du, ei, fa⟩ v s₃ own Q₃ hi hv hD₃ S₃ F₃ N₃ offO rt nx
    dsimp only at hD₃ F₃ N₃ nx
    have off₃ : ∀ p ∈ (L' + 1, o') :: news ++ own, p.1 ≠ D ∧ p.1 ≠ Lf := fun p hp => by
      rcases List.mem_append.1 hp with hp | hp
      · exact hc1 p hp
      · exact ⟨fun q => offO p hp (q ▸ .head _), fun q => offO p hp (q ▸ .tail _ (.head _))⟩
    refine' px_let F₃ ?hx71 ?hl71 ?hs71 ?k71; (case hx71 => exact rfl); (case hl71 => exact fun _ => Eq.refl (slR _ _ _ _ _ _ _)); (case hs71 => exact fun _ => rfl); refine px_bytes G F₃ rfl rfl (fun _ => rfl) ?_
    refine' px_comp F₃ ?c168 ?c268 ?c368 ?c468 ?c568 ?c668 ?c768; (case c168 => with_unfolding_all exact rfl); (case c268 => decide); (case c368 => exact rfl); (case c468 => decide); (case c568 => exact rfl); (case c668 => exact fun _ => rfl)
    refine px_drawn (Q := fun _ _ => True) B' F₃ X' N₃ T' rfl (room hdp' rfl) (room hun' rfl) hD₃ ne off₃ ⟨by decide, by decide⟩ rfl (.head _) d1' rfl rfl rfl (fun k => 0 ≤ k ∧ k < 256) (fun C own₂ oD₂ oL₂ s₂ Q₂ E₂ hD₂ F₂ N₂ off₂ k₂ => ?_) fun ys ks oD₂ oL₂ s₂ hy hR hl hD₂ S₂ Z s₄ S₄ F₄ N₄ offZ => ?_
    · refine Subscript_ (Constant_bytes (px_draw (s := { s₂ with toks := s₂.toks + 1 }) B' F₂ X' N₂ T' rfl (room hdp' rfl) (room hun' rfl) (by decide) (by decide) hD₂ ne off₂ (fun Q h => LCgL.ld_global F₂ X' T' rfl h rfl rfl rfl rfl) (fun Q h => kcf_cell N₂ rfl (.tail _ (.tail _ (.head _))) d1' h rfl rfl rfl) (fun _ _ => rfl) fun k t o₁ o₂ s₅ h1 h2 hD₅ S₅ F₅ N₅ => ?_))
      have hk := sign_in k.toNat (by (first | lia | omega))
      exact KBw.item_K (ks := [(48 : Int), 49, 50, 51, 52, 53, 54, 55, 56, 57, 32, 45, 120, 55]) rfl (by decide) h1 h2 (fun t2 k2 _ _ => k₂ _ _ _ _ _ hk hD₅ (Sm.trans .mk' (S₅.trans .mk')) F₅ N₅) rfl (by intro _; with_unfolding_all rfl)
    have h4 : ks.length < 5 := by (first | lia | omega)
    have hn : ks.length ≤ 1000 := Nat.le_trans (Nat.le_of_lt h4) (by decide)
    refine ⟨Z, _, ks, _, rfl, .lst hy, hR, hn, F₄, N₄, fun b tb s₅ hb S₅ F₅ N₅ => ⟨_, F₅, fun p hp => N₅ p (.tail _ hp), fun s₆ S₆ F₆ N₆ => ?_⟩⟩
    have S36 : Sm s₃ s₆ := (S₂.trans S₄).trans (S₅.trans S₆)
    clear S₂ S₄ S₅ S₆ F₄ N₄ F₅ N₅ offZ hy
    refine' px_let F₆ ?hx72 ?hl72 ?hs72 ?k72; (case hx72 => exact rfl); (case hl72 => exact fun _ => Eq.refl (slR _ _ _ _ _ _ _)); (case hs72 => exact fun _ => rfl); refine px_all G F₆ N₆ rfl hu64 hb hn (Eq.refl (some (Value.bytes _ _))) rfl rfl rfl fun s₇ S₇ F₇ N₇ => ⟨_, F₇, N₇, fun s₈ S₈ F₈ N₈ => ?_⟩
    have S38 := (S36.trans S₇).trans S₈
    clear S36 S₇ S₈ F₇ N₇
    refine' px_let F₈ ?hx73 ?hl73 ?hs73 ?k73; (case hx73 => exact rfl); (case hl73 => exact fun _ => Eq.refl (slR _ _ _ _ _ _ _)); (case hs73 => exact fun _ => rfl); refine ?_
    refine' px_ifON (b := dueAt ks) G F₈ ?dt pv_const ?dk
    case dt =>
      refine pt_and (pt_bool (Eq.refl (some (Value.bool _))) rfl) fun h => pt_or (pt_ne (pv_item (o := ks.getD 0 0) (Eq.refl (some (Value.bytes _ _))) hb hn rfl pv_const (by decide) ?_ (fun _ _ => rfl)) pv_const (fun _ => rfl)) fun _ => pt_eq (pv_len (Eq.refl (some (Value.bytes _ _))) hb hn rfl rfl) pv_const (fun _ => rfl)
      cases ks with
      | nil => cases h
      | cons k r => rfl
    case dk =>
      intro vd tk hvd
      refine ⟨_, F₈, N₈, fun s₉ S₉ F₉ N₉ => ?_⟩
      have S39 := S38.trans (Sm.trans .mk' S₉)
      clear S38 S₉
      refine' px_let F₉ ?hx74 ?hl74 ?hs74 ?k74; (case hx74 => exact rfl); (case hl74 => exact fun _ => Eq.refl (slR _ _ _ _ _ _ _)); (case hs74 => exact fun _ => rfl); refine px_all G F₉ N₉ rfl hu64 hb hn (Eq.refl (some (Value.bytes _ _))) rfl rfl rfl fun s₁₀ S₁₀ F₁₀ N₁₀ => ⟨_, F₁₀, N₁₀, fun s₁₁ S₁₁ F₁₁ N₁₁ => ?_⟩
      have S3b := (S39.trans S₁₀).trans S₁₁
      clear S39 S₁₀ S₁₁ F₁₀ N₁₀
      refine' px_set G F₁₁ N₁₁ ?pa75 ?hx75 ?hl75 ?hs75 ?k75; (case pa75 => exact pv_const); (case hx75 => exact rfl); (case hl75 => exact fun _ => Eq.refl (slR _ _ _ _ _ _ _)); (case hs75 => exact fun _ => rfl); intro s₁₂ t₁₂ S₁₂ F₁₂ N₁₂
      have S3c := S3b.trans S₁₂
      clear S3b S₁₂
      refine' px_for (σ := Int × Tok × Value) (fun c o => slR (some v) o (some (.bytes b tb)) (some (.bool (allIn 57 ks))) (some c.2.2) (some (.bool (allIn 55 ks))) (some (.int c.1 c.2.1))) (fun _ => (D, oD₂) :: (Lf, oL₂) :: ((L' + 1, o') :: news ++ own)) (D :: Lf :: ((L' + 1, o') :: news ++ own).map (·.1)) (fun i c => c.1 = run 8 (ks.take i) 0 ∧ IsON (if dueAt ks = true then some (run 10 (ks.take i) 0) else none) c.2.2) (_, _, _) F₁₂ hP' rfl (fun _ => rfl) (fun _ _ _ => Eq.refl (slR _ _ _ _ _ _ _)) (fun _ => rfl) ?hit2 ⟨_, rfl, rfl, hvd⟩ ?turn2 ?done2
      case hit2 => exact px_name F₁₂ (Eq.refl (some (Value.bytes _ _))) rfl ⟨it_bytes rfl F₁₂ N₁₂ hb, .rfl⟩
      case turn2 =>
        rintro j ⟨x, tx, du⟩ vs s₁₃ own₂ Q₁₃ hj ⟨k, hk, ts, rfl⟩ hJ S₁₃ F₁₃ N₁₃ offN rt₂ nx₂
        dsimp only at hJ F₁₃ N₁₃ nx₂
        obtain ⟨rfl, hd1⟩ := hJ
        have e : ∀ y, run y (ks.take (j + 1)) 0 = run y (ks.take j) 0 * y + k - 48 := fun y => by
          rw [List.take_add_one, hk]; exact run_snoc y k 0 _
        refine' px_pairS F₁₃ ?hh67 ?hz67 ?hu67 ?hl67 ?hm67 ?hst67 ?hs67 ?h67 ?hw67; (case hh67 => exact rfl); (case hz67 => exact rfl); (case hu67 => exact rfl); (case hl67 => exact fun _ _ => Eq.refl (slR _ _ _ _ _ _ _)); (case hm67 => exact fun _ _ => Eq.refl (slR _ _ _ _ _ _ _)); (case hst67 => exact fun _ => ⟨rfl, rfl⟩); (case hs67 => exact rfl); (case hw67 => exact rfl); refine ?_
        refine px_eval G F₁₃ (pv_sub (pv_add (pv_mul (pv_name (Eq.refl (some (Value.int _ _))) rfl) pv_const (by mul_fits)) (pv_name (Eq.refl (some (Value.int _ _))) rfl)) pv_const) fun t1 k1 => px_ifNO (s := { s₁₃ with toks := k1 }) (g := fun n => n * 10 + k - 48) G F₁₃ (Eq.refl (some du)) hd1 rfl (fun n t hz => pv_sub (pv_add (pv_mul (pv_name hz rfl) pv_const (by mul_fits)) (pv_name (Eq.refl (some (Value.int _ _))) rfl)) pv_const) fun v2 k2 hv2 => ⟨_, F₁₃, N₁₃, fun s₁₄ S₁₄ F₁₄ N₁₄ => ?_⟩
        refine wpAny_execs_nil (nx₂ (_, _, _) _ ⟨(e 8).symm, ?_⟩ (Sm.trans .mk' S₁₄) F₁₄ N₁₄)
        rw [e 10]
        cases hda : dueAt ks with
        | true => rw [hda] at hv2; exact hv2
        | false => rw [hda] at hv2; exact hv2
      case done2 =>
        rintro ⟨x, tx, du⟩ o2 s₁₃ hJ S₁₃ F₁₃ N₁₃
        dsimp only at hJ F₁₃ N₁₃
        obtain ⟨rfl, hd1⟩ := hJ
        rw [List.take_length] at hd1 F₁₃
        have S3d := S3c.trans S₁₃
        clear S3c S₁₃ F₁₂ N₁₂ F₁₁ N₁₁ F₉ N₉ F₈ N₈ F₆ N₆ hvd
        have hs1 : ∀ n, (if dueAt ks = true then some (run 10 ks 0) else none) = some n → Sml n := fun n h => by
          split at h
          · cases h; exact run_small (.inr rfl) h4 hR
          · cases h
        have hs2 : ∀ n, (if allIn 55 ks = true then some (run 8 ks 0) else none) = some n → Sml n := fun n h => by
          split at h
          · cases h; exact run_small (.inl rfl) h4 hR
          · cases h
        refine wpAny_execs_cons (wpAny_If (wpAny_isTrue_Compare1 (Call_ (nameX_B F₁₃ X' (topRead_of T') rfl boot_repr (by decide) (callWith_builtin1 (args_cons (List_ (args_cons ?_ rfl)) rfl) rfl rfl) rfl rfl rfl)) rfl))
        refine' px_call1 G F₁₃ rfl rfl rfl (pe_name (Eq.refl (some (Value.bytes _ _))) rfl) (fun _ => rfl) ?n1
        case n1 =>
          rintro _ tk₁ rfl
          refine' number_of_spec ?B69 ?F69 ?X69 ?N69 ?T69 ?hk69 ?hd69 ?hu69 hb hn ?rn; (case B69 => exact B'); (case F69 => exact F₁₃); (case X69 => exact X'); (case N69 => exact N₁₃); (case T69 => exact T'); (case hk69 => exact rfl); (case hd69 => first | exact room hdp' rfl | exact room hdp rfl | omega | ktr_room); (case hu69 => first | exact room hun' rfl | exact room hun rfl | omega | ktr_units)
          case rn =>
            intro v1 s₁₄ hv1 S₁₄ F₁₄ N₁₄
            rw [numOf_run] at hv1
            refine args_cons ?_ rfl
            refine' px_call1 G F₁₄ rfl rfl rfl (pe_name (Eq.refl (some (Value.bytes _ _))) rfl) (fun _ => rfl) ?n2
            case n2 =>
              rintro _ tk₂ rfl
              refine' octal_of_spec ?B70 ?F70 ?X70 ?N70 ?T70 ?hk70 ?hd70 ?hu70 hb hn ?ro; (case B70 => exact B'); (case F70 => exact F₁₄); (case X70 => exact X'); (case N70 => exact N₁₄); (case T70 => exact T'); (case hk70 => exact rfl); (case hd70 => first | exact room hdp' rfl | exact room hdp rfl | omega | ktr_room); (case hu70 => first | exact room hun' rfl | exact room hun rfl | omega | ktr_units)
              case ro =>
                intro v2 s₁₅ hv2 S₁₅ F₁₅ N₁₅
                rw [numBy_run] at hv2
                refine args_nil (newList_K F₁₅ N₁₅ (fun Z₁ h₁ F₁₆ N₁₆ off₁ => ?_) (Nat.le_of_ble_eq_true rfl))
                refine args_nil (px_repr (s := { s₁₅ with heap := h₁ }) F₁₆ N₁₆ hv1 hv2 ⟨hs1, hs2⟩ hgd hu64 fun u1 s₁₇ S₁₇ F₁₇ N₁₇ => ?_)
                refine Call_ (nameX_B F₁₇ X' (topRead_of T') rfl boot_repr (by decide) (callWith_builtin1 (args_cons (List_ (args_cons (px_name F₁₇ (Eq.refl (some du)) rfl (args_cons (px_ifON G F₁₇ (pt_bool (Eq.refl (some (Value.bool _))) rfl) (pv_name (Eq.refl (some (Value.int _ _))) rfl) fun v3 k3 hv3 => ?_) rfl)) rfl)) rfl) rfl rfl) rfl rfl rfl)
                refine args_nil (newList_K (s := { s₁₇ with toks := k3 }) F₁₇ N₁₇ (fun Z₂ h₂ F₁₈ N₁₈ off₂ => ?_) (Nat.le_of_ble_eq_true rfl))
                refine args_nil (px_repr (s := { s₁₇ with heap := h₂, toks := k3 }) F₁₈ N₁₈ hd1 hv3 ⟨hs1, hs2⟩ hgd hu64 fun u2 s₁₉ S₁₉ F₁₉ N₁₉ => ?_)
                refine ne_strF (wpAny_truthy_bool (wpAny_execs_nil (wpAny_execs_nil ?_)))
                exact nx ((oD₂, oL₂), _, _, _, _, _, _) _ hD₂ (S3d.trans ((Sm.trans .mk' S₁₄).trans ((Sm.trans .mk' S₁₅).trans ((Sm.trans .mk' S₁₇).trans (Sm.trans .mk' S₁₉))))) F₁₉ fun p hp => N₁₉ p (.tail _ (.tail _ hp))
end
noncomputable section
theorem bigOf_succ (y : Int) (k : Nat) : bigOf y (k + 1) = bigOf (y / 256) k ++ [y % 256] := by
  unfold bigOf
  rw [List.range_succ, List.map_append]
  congr 1
  · refine List.map_congr_left fun j hj => ?_
    have hj := List.mem_range.1 hj
    rw [Int.ediv_ediv_of_nonneg (by decide), dig_idx hj, Int.pow_succ, Int.mul_comm]
  · rw [List.map_cons, List.map_nil, show k + 1 - 1 - k = 0 from Nat.sub_self k, Int.pow_zero, Int.ediv_one]
theorem beVal_snoc (l : List Int) (o : Int) : beVal (l ++ [o]) = 256 * beVal l + o := by unfold beVal; rw [List.foldl_append]; rfl
theorem beVal_big : ∀ (k : Nat) (y : Int), 0 ≤ y → y < 256 ^ k → beVal (bigOf y k) = y
  | 0, y, h0, h1 => by
    exact (Int.le_antisymm (Int.lt_add_one_iff.1 (show y < 0 + 1 from h1)) h0).symm
  | k + 1, y, h0, h1 => by
    rw [Int.pow_succ] at h1
    rw [bigOf_succ, beVal_snoc, beVal_big k (y / 256) (Int.ediv_nonneg h0 (by decide)) (Int.ediv_lt_of_lt_mul (by decide) h1)]
    exact Int.mul_ediv_add_emod y 256
theorem bigOf_length (y : Int) (k : Nat) : (bigOf y k).length = k := by unfold bigOf; rw [List.length_map, List.length_range]
/-- the number that way i writes -/
noncomputable def low (i : Nat) (x : Int) : Int := if i = 0 then x % 65536 else if i = 1 then x % 4294967296 else x
/-- how way i writes it -/
noncomputable def enc (i : Nat) (x : Int) : List Int := if i < 3 then bigOf (low i x) (wide i) else if i = 3 then pieces x else offOf x
theorem cut_mid (pre mid post : List Int) : cutOf (pre ++ mid ++ post) pre.length mid.length = mid := by
  unfold cutOf
  rw [List.append_assoc, List.drop_left, List.take_left]
theorem enc_big {i : Nat} {x : Int} (hi : i < 3) (h0 : 0 ≤ x) (h1 : x < 2199023255552) (pre post : List Int) : (enc i x).length = wide i ∧ beVal (cutOf (pre ++ enc i x ++ post) pre.length (wide i)) = low i x := by
  have e : enc i x = bigOf (low i x) (wide i) := by unfold enc; rw [if_pos hi]
  have l : (enc i x).length = wide i := by rw [e, bigOf_length]
  refine ⟨l, ?_⟩
  rw [← l, cut_mid, e]
  have hb : 0 ≤ low i x ∧ low i x < 256 ^ wide i := by
    rcases three hi with rfl | rfl | rfl
    · exact ⟨Int.emod_nonneg _ (by decide), Int.emod_lt_of_pos x (by decide)⟩
    · exact ⟨Int.emod_nonneg _ (by decide), Int.emod_lt_of_pos x (by decide)⟩
    · exact ⟨h0, Int.lt_trans h1 (by decide)⟩
  exact beVal_big _ _ hb.1 hb.2
theorem enc_mid {i : Nat} {x : Int} (hi : 3 ≤ i) (h5 : i < 5) (h0 : 0 ≤ x) (h1 : x < 2199023255552) {post : List Int} : Mid (enc i x) post ∧ ¬ Big (enc i x) ∧ (i = 3 → leVal (enc i x) = x) ∧ (i = 4 → offVal (enc i x) = x) ∧ (enc i x).length ≤ 6 := by
  rcases tail2 h5 hi with rfl | rfl
  · have h := mid_pieces h0 (Int.lt_trans h1 (by decide)) (post := post)
    exact ⟨h.1, h.2.2, fun _ => h.2.1, fun q => absurd q (by decide), h.1.len⟩
  · have h := mid_off h0 (Int.lt_trans h1 (by decide)) (post := post)
    exact ⟨h.1, h.2.2, fun q => absurd q (by decide), fun _ => h.2.1, h.1.len⟩
end
noncomputable section
/-- what way i tells of a whole row -/
noncomputable def ToldV (i : Nat) (x y : Int) (v : Value) (nx : List (Addr × Obj)) : Prop :=
  (i < 3 ∧ ∃ t, v = .int (low i x) t) ∨ (3 ≤ i ∧ ∃ T tA tB, v = .ref T ∧ (T, ({ cls := .type "tuple", data := .seq #[.int x tA, .int y tB] } : Obj)) ∈ nx)
theorem enc_len {i : Nat} {x : Int} (h5 : i < 5) (h0 : 0 ≤ x) (h1 : x < 2199023255552) : (enc i x).length ≤ 8 := by
  by_cases hi : i < 3
  · rw [(enc_big hi h0 h1 [] []).1]
    rcases three hi with rfl | rfl | rfl <;> decide
  · exact Nat.le_trans (enc_mid (post := []) (Nat.le_of_not_lt hi) h5 h0 h1).2.2.2.2 (by decide)
theorem told_ok {w : World} {mg mb : Str → Option Value} {mean : ExcName → Option Value} {dp un : Nat} {gd : Option (List Code)} {cn : Str} {cs : Scope} {a : Addr} {ccd : Value} {A₀ : Around} {base h₀ : Heap} {L : Addr} {m : Str → Option Value} {news : List (Addr × Obj)} {s : Shared} {Q E : Value → Shared → Prop}
  (B : Below A₀ base [] h₀) (F : Fr h₀ L s.heap m) (X : (hd.heap_39 w.params).In h₀) (N : News h₀ L s.heap news) (T : Top hd.view_39 (looseW hd.view_39 [PySem.Str.ofString "GitError"]) mean mg mb h₀) (hk : cs.kind = .function) (hdp : dp + 10 < recursionLimit) (hun : un + 80 < cLine) (XB : (hd.heap_39 w.params).In base) (TB : Top hd.view_39 (looseW hd.view_39 [PySem.Str.ofString "GitError"]) mean mg mb base)
  {b : Array UInt8} {tb t t2 : Tok} {i : Nat} {x : Int} {pre : List Int} (hb : KBw.bInts b = pre ++ enc i x ++ [0, 129]) (hp : pre.length ≤ 100) (h5 : i < 5) (h0 : 0 ≤ x) (h1 : x < 2199023255552)
  (hret : ∀ v nx s₂, ToldV i x (pre.length + (enc i x).length) v nx → (∀ p ∈ news, p ∈ nx) → Sm s s₂ → Fr h₀ L s₂.heap m → News h₀ L s₂.heap nx → Q v s₂) :
  wpAny (model PySem.Challenge.rw_nt0271_01.row.prog w) (ktrTop dp un gd cn cs L a ccd [] []) (call (.ref 238) [.int i t2, .bytes b tb, .int pre.length t]) Q E s := by
  have hl := enc_len h5 h0 h1
  have hn : (pre ++ enc i x ++ [0, 129]).length ≤ 1000 := by
    rw [List.length_append, List.length_append]; exact Nat.le_trans (Nat.add_le_add_right (Nat.add_le_add hp hl) 2) (by decide)
  refine told_spec (mid := enc i x) (pre := pre) (post := [0, 129]) B F X N T hk (room hdp rfl) (room hun rfl) XB TB hb hn (Int.natCast_nonneg i) (Int.ofNat_lt.2 h5) (fun h => ⟨(enc_mid (Int.ofNat_le.1 h) h5 h0 h1).1, rfl, rfl⟩) (fun a1 a2 => ?_) (fun h _ t s₂ S F' N' => ?_) (fun h _ T tA tB s₂ S F' N' => ?_) fun h _ T tA tB s₂ S F' N' => ?_
  · exfalso
    by_cases hi : i < 3
    · have := a1 (Int.ofNat_lt.2 hi)
      rw [List.length_append, List.length_append, (enc_big hi h0 h1 [] []).1] at this
      exact absurd this (Nat.not_lt.2 (Nat.le_add_right _ _))
    · exact (enc_mid (post := []) (Nat.le_of_not_lt hi) h5 h0 h1).2.1 (a2 (Int.ofNat_le.2 (Nat.le_of_not_lt hi)))
  · have hi : i < 3 := Int.ofNat_lt.1 h
    rw [(enc_big hi h0 h1 pre [0, 129]).2]
    exact hret _ _ _ (.inl ⟨hi, t, rfl⟩) (fun _ h => h) S F' N'
  · have hi : i = 3 := Int.ofNat_inj.1 h
    have h3 : 3 ≤ i := hi.symm ▸ Nat.le_refl 3
    rw [(enc_mid (post := []) h3 h5 h0 h1).2.2.1 hi] at N'
    exact hret _ _ _ (.inr ⟨h3, T, tA, tB, rfl, .head _⟩) (fun _ h => .tail _ h) S F' N'
  · have hi : i = 4 := Int.ofNat_inj.1 h
    have h3 : 3 ≤ i := hi.symm ▸ Nat.le_succ 3
    rw [(enc_mid (post := []) h3 h5 h0 h1).2.2.2.1 hi] at N'
    exact hret _ _ _ (.inr ⟨h3, T, tA, tB, rfl, .head _⟩) (fun _ h => .tail _ h) S F' N'
theorem told_cut {w : World} {mg mb : Str → Option Value} {mean : ExcName → Option Value} {dp un : Nat} {gd : Option (List Code)} {cn : Str} {cs : Scope} {a : Addr} {ccd : Value} {A₀ : Around} {base h₀ : Heap} {L : Addr} {m : Str → Option Value} {news : List (Addr × Obj)} {s : Shared} {Q E : Value → Shared → Prop}
  (B : Below A₀ base [] h₀) (F : Fr h₀ L s.heap m) (X : (hd.heap_39 w.params).In h₀) (N : News h₀ L s.heap news) (T : Top hd.view_39 (looseW hd.view_39 [PySem.Str.ofString "GitError"]) mean mg mb h₀) (hk : cs.kind = .function) (hdp : dp + 10 < recursionLimit) (hun : un + 80 < cLine) (XB : (hd.heap_39 w.params).In base) (TB : Top hd.view_39 (looseW hd.view_39 [PySem.Str.ofString "GitError"]) mean mg mb base)
  {b : Array UInt8} {tb t t2 : Tok} {i : Nat} {x : Int} {pre : List Int} (hb : KBw.bInts b = pre ++ (enc i x).dropLast) (hp : pre.length ≤ 100) (h5 : i < 5) (h0 : 0 ≤ x) (h1 : x < 2199023255552)
  (hret : ∀ s₂, Sm s s₂ → Fr h₀ L s₂.heap m → News h₀ L s₂.heap news → Q .none s₂) :
  wpAny (model PySem.Challenge.rw_nt0271_01.row.prog w) (ktrTop dp un gd cn cs L a ccd [] []) (call (.ref 238) [.int i t2, .bytes b tb, .int pre.length t]) Q E s := by
  have hl := enc_len h5 h0 h1
  have hd : (enc i x).dropLast.length = (enc i x).length - 1 := List.length_dropLast
  have hn : (pre ++ (enc i x).dropLast).length ≤ 1000 := by rw [List.length_append, hd]; exact Nat.le_trans (Nat.add_le_add hp (Nat.le_trans (Nat.sub_le _ _) hl)) (by decide)
  have hlt : (i : Int) < 3 → pre.length + wide i ≤ (pre ++ (enc i x).dropLast).length → False := fun h => by
    have hi : i < 3 := Int.ofNat_lt.1 h
    rw [List.length_append, hd, (enc_big hi h0 h1 [] []).1]
    rcases three hi with rfl | rfl | rfl <;> exact Nat.not_succ_le_self _
  have hbig : ∀ {k : Int}, k = (i : Int) → 3 ≤ k → Big (enc i x).dropLast := fun e h => (mid_cut (enc_mid (post := []) (Int.ofNat_le.1 (e ▸ h)) h5 h0 h1).1).2
  exact told_spec (mid := (enc i x).dropLast) (pre := pre) (post := []) B F X N T hk (room hdp rfl) (room hun rfl) XB TB hb hn (Int.natCast_nonneg i) (Int.ofNat_lt.2 h5) (fun h => ⟨(mid_cut (enc_mid (post := []) (Int.ofNat_le.1 h) h5 h0 h1).1).1, (List.append_nil _).symm, rfl⟩) (fun _ _ s₂ S F' N' => hret s₂ S F' N') (fun h l => (hlt h l).elim) (fun h nb => absurd (hbig rfl (Int.le_of_eq h.symm)) nb) fun h nb => absurd (hbig rfl (h.symm ▸ by decide)) nb
section
variable {w : World} {A : Around} {E : Value → Shared → Prop} {s : Shared} {h₀ : Heap} {L a : Addr} {m mg mb : Str → Option Value} {mean : ExcName → Option Value} {l : List (Str × Option Value)} {cn : Str} {cs : Scope} {ccd : Value} {cl : List (Str × Addr)} {news : List (Addr × Obj)} {e f : Expr} {x y : Int} {p q r : Pos} {v u : Value} {Q : Value → Shared → Prop}
theorem ne_told {i : Nat} (N : News h₀ L s.heap news) (hv : ToldV i x y v news) (hu : ToldV i x y u news) (hA : A.units < cLine) (k : Q (.bool false) s) : wpAny (MO w) A (compareOp .NotEq v u) Q E s := by
  rcases hv with ⟨hi, t, rfl⟩ | ⟨hi, T, tA, tB, rfl, hT⟩
  · rcases hu with ⟨_, t', rfl⟩ | ⟨h, _⟩
    · exact ne_int (by rw [bne_self_eq_false]; exact k)
    · exact absurd hi (Nat.not_lt.2 h)
  · rcases hu with ⟨h, _⟩ | ⟨_, T', tA', tB', rfl, hT'⟩
    · exact absurd h (Nat.not_lt.2 hi)
    · refine cmp_ofNotEq (PySem.SeqAt.RcNeAt.tuples (e := fun _ => true) ⟨_, (N _ hT).1, rfl, _, rfl⟩ ⟨_, (N _ hT').1, rfl, _, rfl⟩ hA (fun j h1 h2 => ?_) _ _ _ _ k)
      have hj : j = 0 ∨ j = 1 := (by decide : ∀ j : Nat, j < 2 → j = 0 ∨ j = 1) j h1
      rcases hj with rfl | rfl
      · have := PySem.SeqAt.EqAt.int_int (A := A.in1) (s := s) x tA x tA'
        rw [beq_self_eq_true] at this; exact this
      · have := PySem.SeqAt.EqAt.int_int (A := A.in1) (s := s) y tB y tB'
        rw [beq_self_eq_true] at this; exact this
/-- a list of bytes -/
noncomputable def BL (vs : List Value) (kss : List (List Int)) : Prop := vs.length = kss.length ∧ ∀ (i : Nat) (v : Value), vs[i]? = some v → ∃ b t, v = .bytes b t ∧ kss[i]? = some (KBw.bInts b)
theorem bl_nil : BL [] [] := ⟨rfl, fun _ _ h => by cases h⟩
theorem bl_cons {b : Array UInt8} {t : Tok} {ks : List Int} {vs : List Value} {kss : List (List Int)} (hb : KBw.bInts b = ks) (h : BL vs kss) : BL (Value.bytes b t :: vs) (ks :: kss) := by
  refine ⟨congrArg Nat.succ h.1, fun i v hv => ?_⟩
  cases i with
  | zero => cases hv; exact ⟨b, t, rfl, by rw [hb]; rfl⟩
  | succ i => exact h.2 i v hv
theorem ne_BL {D1 D2 : Addr} {vs us : List Value} {kss : List (List Int)} (hl : s.heap.IsList D1 vs.toArray) (hb : s.heap.IsList D2 us.toArray) (h1 : BL vs kss) (h2 : BL us kss) (hu : A.units < cLine) (k : Q (.bool false) s) : wpAny (MO w) A (compareOp .NotEq (.ref D1) (.ref D2)) Q E s := by
  have hsz : vs.toArray.size = us.toArray.size := by rw [List.size_toArray, List.size_toArray, h1.1, h2.1]
  refine cmp_ofNotEq (PySem.SeqAt.RcNeAt.lists (e := fun _ => true) hl hb hsz hu (fun j j1 j2 prog w E Q hq => ?_) _ _ _ _ ?_)
  · obtain ⟨b, t, e1, k1⟩ := h1.2 j _ (by rw [← List.getElem?_toArray, Array.getElem?_eq_getElem j1])
    obtain ⟨c, t', e2, k2⟩ := h2.2 j _ (by rw [← List.getElem?_toArray, Array.getElem?_eq_getElem j2])
    rw [e1, e2]
    have e : KBw.bInts b = KBw.bInts c := Option.some.inj (k1.symm.trans k2)
    exact eqBool_bytes (by rw [decide_eq_true (octets_inj b.toList c.toList e)]; exact hq)
  · rw [List.all_eq_true.2 (fun _ _ => rfl)]; exact k
/-- rows[way] -/
theorem px_row {D : Addr} {vs : List Value} {n i : Nat} {kss : List (List Int)} {ks : List Int} {t : Tok} (F : Fr h₀ L s.heap (lk l)) (N : News h₀ L s.heap news) (hz : lk l "rows" = some (.ref D)) (hi : lk l "way" = some (.int (i : Int) t)) (hm : (D, listOf vs.toArray n) ∈ news) (hb : BL vs kss) (hk : kss[i]? = some ks) (hn : i < 1000) (hx : Loc cs "rows") (hy : Loc cs "way")
    (k : ∀ b t tk, KBw.bInts b = ks → Q (.bytes b t) { s with toks := tk }) : wpAny (MO w) A (eval (.Subscript (.Name "rows" p) (.Name "way" q) r) (envX cn cs L a ccd cl)) Q E s := by
  have hi5 : i < vs.length := by
    rw [hb.1]; exact (List.getElem?_eq_some_iff.1 hk).1
  obtain ⟨b, tb, e1, k1⟩ := hb.2 i _ (List.getElem?_eq_getElem hi5)
  refine Subscript_ (px_name F hz hx (px_name F hi hy (subscriptTail_builtin (PySem.IsL.isList (n := n) (N _ hm).1).typeIs slot_list_getitem.lookup (wpAny_getItem_list (x := .bytes b tb) (PySem.IsL.isList (n := n) (N _ hm).1) (Int.natCast_nonneg i) (by (first | lia | omega)) (by rw [Int.toNat_natCast, List.getElem?_toArray, List.getElem?_eq_getElem hi5, e1]) ?_) rfl (fun _ => by with_unfolding_all rfl))))
  exact k b tb s.toks (Option.some.inj (k1.symm.trans hk))
end
end
noncomputable section
theorem fm16 (x : Int) : x.fmod (2 ^ Int.toNat 16) = x % 65536 := Int.fmod_eq_emod_of_nonneg _ (by decide)
theorem fm32 (x : Int) : x.fmod (2 ^ Int.toNat 32) = x % 4294967296 := Int.fmod_eq_emod_of_nonneg _ (by decide)
section
variable {w : World} {A : Around} {E : Value → Shared → Prop} {s : Shared} {h₀ : Heap} {L a : Addr} {m mg mb : Str → Option Value} {mean : ExcName → Option Value} {l : List (Str × Option Value)} {cn : Str} {cs : Scope} {ccd : Value} {cl : List (Str × Addr)} {news : List (Addr × Obj)} {e f : Expr} {x y : Int} {p q r : Pos} {v u : Value} {Q : Value → Shared → Prop}
theorem told_mono {i : Nat} {nx : List (Addr × Obj)} (h : ToldV i x y v news) (k : ∀ p ∈ news, p ∈ nx) : ToldV i x y v nx := by
  rcases h with h | ⟨a, T, b, c, d, e⟩
  · exact .inl h
  · exact .inr ⟨a, T, b, c, d, k _ e⟩
/-- what is due of a way -/
theorem px_toldV {R : Addr} {vs : List Value} {kss : List (List Int)} {ks : List Int} {i n k1 k2 k3 k4 k5 k6 : Nat} {tx tw tl : Tok} {p1 p2 p3 p4 p5 p6 p7 p8 p9 q1 q2 q3 q4 q5 q6 q7 q8 q9 r1 r2 r3 r4 r5 r6 r7 r8 : Pos} (G : Gr w mean mg mb h₀) (F : Fr h₀ L s.heap (lk l)) (N : News h₀ L s.heap news) (hx : lk l "number" = some (.int x tx)) (hw : lk l "way" = some (.int (i : Int) tw)) (hy : lk l "least" = some (.int y tl)) (hR : lk l "rows" = some (.ref R)) (hm : (R, listOf vs.toArray n) ∈ news) (hb : BL vs kss) (hk : kss[i]? = some ks) (h5 : i < 5) (hl : ks.length ≤ 1000) (hg : Glo cs "len") (hn : Loc cs "number" ∧ Loc cs "way" ∧ Loc cs "least" ∧ Loc cs "rows")
  (k : ∀ v nx s', ToldV i x (y + ks.length) v nx → (∀ p ∈ news, p ∈ nx) → Sm s s' → Fr h₀ L s'.heap (lk l) → News h₀ L s'.heap nx → Q v s') :
  wpAny (MO w) A (eval (.IfExp (.Compare (.Name "way" p1) [.Lt] [.Constant (.int 3) k1 p2] p3)
    (.Subscript (.List [.BinOp (.Name "number" p4) .Mod (.BinOp (.Constant (.int 2) k2 p5) .Pow (.Constant (.int 16) k3 p6) p7) p8, .BinOp (.Name "number" p9) .Mod (.BinOp (.Constant (.int 2) k4 q1) .Pow (.Constant (.int 32) k5 q2) q3) q4, .Name "number" q5] q6) (.Name "way" q7) q8)
    (.Tuple [.Name "number" q9, .BinOp (.Name "least" r1) .Add (.Call (.Name "len" r2) [.Subscript (.Name "rows" r3) (.Name "way" r4) r5] [] r6) r7] k6 r8) p) (envX cn cs L a ccd cl)) Q E s := by
  refine px_ifexp G F (pt_lt (pv_name hw hn.2.1) pv_const (fun _ => rfl)) (fun tk h => ?_) fun tk h => ?_
  · have hi : i < 3 := Int.ofNat_lt.1 (of_decide_eq_true h)
    refine Subscript_ (px_listN (s := { s with toks := tk }) (ks := [x.fmod (2 ^ Int.toNat 16), x.fmod (2 ^ Int.toNat 32), x]) ⟨pv_mod (pv_name hx hn.1) (pv_pow pv_const pv_const (by decide) (by decide)) (by decide), fun _ _ => rfl, pv_mod (pv_name hx hn.1) (pv_pow pv_const pv_const (by decide) (by decide)) (by decide), fun _ _ => rfl, pv_name hx hn.1, fun _ _ => rfl, trivial⟩ (okV (cs := cs) (cn := cn) (a := a) (ccd := ccd) (cl := cl) G F) F N (Nat.le_of_ble_eq_true rfl) fun Z oZ s₂ S₂ I₂ F₂ N₂ _ => px_name F₂ hw hn.2.1 (px_at N₂ I₂ (Int.natCast_nonneg i) (Int.ofNat_lt.2 hi) (Nat.le_of_ble_eq_true rfl) rfl fun t => ?_))
    have e : [x.fmod (2 ^ Int.toNat 16), x.fmod (2 ^ Int.toNat 32), x].getD (i : Int).toNat 0 = low i x := by
      rw [Int.toNat_natCast, fm16, fm32]
      rcases three hi with rfl | rfl | rfl <;> rfl
    rw [e]
    exact k _ _ _ (.inl ⟨hi, t, rfl⟩) (fun p hp => .tail _ hp) (Sm.trans .mk' S₂) F₂ N₂
  · have hi : 3 ≤ i := Int.ofNat_le.1 (Int.not_lt.1 (of_decide_eq_false h))
    refine Tuple_ (args_cons (px_name (s := { s with toks := tk }) F hx hn.1 (args_cons (wpAny_BinOp (px_name (s := { s with toks := tk }) F hy hn.2.2.1 (Call_ (nameX_B (s := { s with toks := tk }) F G.X (topRead_of G.T) rfl bootS_len (by decide) (callWith_builtin1 (args_cons (px_row (s := { s with toks := tk }) F N hR hw hm hb hk (Nat.lt_trans h5 (by decide)) hn.2.2.2 hn.2.1 fun b t tk' hbb => args_nil (KBw.len_K hbb (Nat.le_trans hl (by decide)) (add_int (args_nil ?_)))) rfl) rfl rfl) hg.of.1.1 hg.of.1.2 rfl)))) rfl)) rfl)
    exact newTuple_N (s := { s with toks := _ }) F N (fun h' F' N' => k _ _ _ (.inr ⟨hi, _, _, _, rfl, .head _⟩) (fun p hp => .tail _ hp) .mk' F' N') (Nat.le_of_ble_eq_true rfl)
/-- rows[way][:-1] -/
theorem px_drop {ks : List Int} {k9 : Nat} {p2 p3 p4 p5 : Pos} (F : Fr h₀ L s.heap m) (N : News h₀ L s.heap news) (hn : ks.length ≤ 1000) {e1 e2 : Expr} {env : Env}
  (he : ∀ Q : Value → Shared → Prop, (∀ b t tk, KBw.bInts b = ks → Q (.bytes b t) { s with toks := tk }) → wpAny (MO w) A (eval (.Subscript e1 e2 p) env) Q E s)
  (k : ∀ c t' s', KBw.bInts c = ks.dropLast → Sm s s' → Fr h₀ L s'.heap m → News h₀ L s'.heap news → Q (.bytes c t') s') :
  wpAny (MO w) A (eval (.Subscript (.Subscript e1 e2 p) (.Slice none (some (.UnaryOp .USub (.Constant (.int 1) k9 p2) p3)) none p4) p5) env) Q E s := by
  refine Subscript_ (he _ fun b t tk hb => wpAny_Slice (evalPart_none_step (evalPart_some_step (pv_neg pv_const (Ok := fun _ _ _ => True) _ _ _ _ _ _ trivial fun t1 k1 => evalPart_none_step ?_))))
  refine nt_slice (s := { s with toks := k1 }) (pre := []) (mid := ks.dropLast) (post := ks.drop (ks.length - 1)) F N hb .none (.int _ _) ?_ rfl ?_ (by (first | lia | omega)) (fun c h' t' k' F' N' hc => k c t' _ hc .mk' F' N') rfl (fun _ => rfl)
  · rw [List.nil_append, List.dropLast_eq_take, List.take_append_drop]
  · show clipAt ks.length (-((1 : Nat) : Int)) = 0 + ks.dropLast.length
    rw [clipAt_neg _ _ (Nat.le_refl 1), List.length_dropLast, Nat.zero_add]
end
end
noncomputable section
theorem nw_deck {h₀ h : Heap} {L : Addr} {news : List (Addr × Obj)} {a p q r : Addr × Obj} (N : News h₀ L h (a :: p :: q :: r :: news)) : News h₀ L h (p :: q :: news) :=
  nw_cons (N p (.tail _ (.head _))) (nw_cons (N q (.tail _ (.tail _ (.head _)))) fun x hx => N x (.tail _ (.tail _ (.tail _ (.tail _ hx)))))
theorem pre_in (k : Nat) : KBa.In (([255, 128, 7] : List Int).take k) ∧ (([255, 128, 7] : List Int).take k).length ≤ 3 := by
  refine ⟨fun n hn => ?_, by rw [List.length_take]; exact Nat.min_le_right _ _⟩
  exact (by decide : ∀ n ∈ ([255, 128, 7] : List Int), 0 ≤ n ∧ n < 256) n (List.mem_of_mem_take hn)
theorem enc_at {x : Int} {i : Nat} (h : i < 5) : [enc 0 x, enc 1 x, enc 2 x, enc 3 x, enc 4 x][i]? = some (enc i x) := by
  rcases five h with rfl | rfl | rfl | rfl | rfl <;> rfl
section
variable {D Lf R U : Addr} {oD oL : Obj} {p1 p2 p3 p4 p5 p6 p7 p8 p9 q1 q2 q3 q4 q5 q6 q7 q8 q9 r1 r2 r3 r4 r5 r6 r7 r8 r9 t1 t2 t3 t4 t5 t6 t7 t8 t9 : Pos} {k1 k2 k3 k4 k5 k6 k7 k8 : Nat} {x : Int} {tx : Tok}
theorem px_numah {w : World} {mg mb : Str → Option Value} {mean : ExcName → Option Value} {dp un : Nat} {gd : Option (List Code)} {cn : Str} {cs : Scope} {a : Addr} {ccd : Value} {A₀ : Around} {base h₀ : Heap} {L : Addr} {l : List (Str × Option Value)} {news : List (Addr × Obj)} {s : Shared} {Q E : Value → Shared → Prop}
  (B : Below A₀ base [] h₀) (F : Fr h₀ L s.heap (lk l)) (X : (hd.heap_39 w.params).In h₀) (N : News h₀ L s.heap ((D, oD) :: (Lf, oL) :: news)) (T : Top hd.view_39 (looseW hd.view_39 [PySem.Str.ofString "GitError"]) mean mg mb h₀) (hk : cs.kind = .function) (hdp : dp + 30 < recursionLimit) (hun : un + 240 < cLine) (XB : (hd.heap_39 w.params).In base) (TB : Top hd.view_39 (looseW hd.view_39 [PySem.Str.ofString "GitError"]) mean mg mb base) {Q2 : Value → Value → Shared → Prop} (hD : Dk w Lf oD oL) (ne : D ≠ Lf) (off : ∀ p ∈ news, p.1 ≠ D ∧ p.1 ≠ Lf) (hd9 : lk l "deck" = some (.ref D)) (hs : Loc cs "deck" ∧ Glo cs "_law_number" ∧ Glo cs "_law_draw" ∧ Glo cs "bytes")
  (k : ∀ x tx b tb pre oD' oL' s', 0 ≤ x → x < 2199023255552 → KBw.bInts b = pre → pre.length ≤ 3 → Dk w Lf oD' oL' → Sm s s' → Fr h₀ L s'.heap (lk l) → News h₀ L s'.heap ((D, oD') :: (Lf, oL') :: news) → Q2 (.int x tx) (.bytes b tb) s') :
  wpAny (MO w) (ktrTop dp un gd cn cs L a ccd [] []) (eval (.Call (.Name "_law_number" p1) [.Name "deck" p2] [] p3) (envX cn cs L a ccd [])) (fun v1 s₁ => wpAny (MO w) (ktrTop dp un gd cn cs L a ccd [] []) (eval (.Call (.Name "bytes" p4) [.Subscript (.List [.Constant (.int 255) k1 p5, .Constant (.int 128) k2 p6, .Constant (.int 7) k3 p7] p8) (.Slice none (some (.Call (.Name "_law_draw" p9) [.Name "deck" q1, .Constant (.int 4) k4 q2] [] q3)) none q4) q5] [] q6) (envX cn cs L a ccd [])) (fun v2 s₂ => Q2 v1 v2 s₂) E s₁) E s := by
  have G : Gr w mean mg mb h₀ := ⟨X, T⟩
  refine px_call1n G F hs.2.1 rfl rfl hd9 hs.1 fun tk₁ => number_spec (s := { s with toks := tk₁ }) B F X N T hk (room hdp rfl) (room hun rfl) hD ne off fun x tx o₁ o₂ s₅ x0 x1 hD₅ S₅ F₅ N₅ => ?_
  refine px_bytes G F₅ hs.2.2.2 rfl (fun _ => rfl) (Subscript_ (px_listN (Ok := fun _ _ _ => True) (ks := [255, 128, 7]) ⟨pv_const, fun _ _ => rfl, pv_const, fun _ _ => rfl, pv_const, fun _ _ => rfl, trivial⟩ trivial F₅ N₅ (by decide) fun Z oZ s₆ S₆ I₆ F₆ N₆ off₆ => wpAny_Slice (evalPart_none_step (evalPart_some_step (px_draw B F₆ X (nw_rot N₆) T hk (room hdp rfl) (room hun rfl) (by decide) (by decide) hD₅ ne (off_cons off₆ off) (fun Q h => nameX_K F₆ X (topRead_of T) rfl h hs.2.2.1.of.1.1 hs.2.2.1.of.1.2 rfl) (fun Q h => px_name F₆ hd9 hs.1 h) (fun _ _ => rfl) fun kk tk o₃ o₄ s₇ k0 k1 hD₇ S₇ F₇ N₇ => evalPart_none_step ?_)))))
  obtain ⟨vs, n, rfl, iZ⟩ := I₆
  refine kba_turn (value' := .Name "deck" default) (fun _ => rfl) ?_
  refine kmk_slice_ints (s := s₇) F₇ N₇ (News.isList N₇ (.tail _ (.tail _ (.head _)))) .none (.int _ _) iZ (kmk_upto iZ k0) rfl (fun W ws h₈ F₈ N₈ off₈ iW _ _ => ?_) rfl (fun _ => by with_unfolding_all rfl) ?_
  · have hpre := pre_in kk.toNat
    exact ⟨W, _, _, _, rfl, ⟨_, _, rfl, iW⟩, hpre.1, Nat.le_trans hpre.2 (by decide), F₈, N₈, fun ba tb s₉ hba S₉ F₉ N₉ => k x tx ba tb _ o₃ o₄ s₉ x0 x1 hba hpre.2 hD₇ ((((Sm.trans .mk' S₅).trans S₆).trans S₇).trans (Sm.trans .mk' S₉)) F₉ (nw_deck N₉)⟩
  · rw [List.size_toArray, iZ.length, PySem.sizeLine_eq]; exact Nat.le_of_ble_eq_true rfl
/-- the five writings -/
theorem px_rows5 {w : World} {mg mb : Str → Option Value} {mean : ExcName → Option Value} {dp un : Nat} {gd : Option (List Code)} {cn : Str} {cs : Scope} {a : Addr} {ccd : Value} {A₀ : Around} {base h₀ : Heap} {L : Addr} {l : List (Str × Option Value)} {news : List (Addr × Obj)} {s : Shared} {Q E : Value → Shared → Prop}
  (B : Below A₀ base [] h₀) (F : Fr h₀ L s.heap (lk l)) (X : (hd.heap_39 w.params).In h₀) (N : News h₀ L s.heap (news)) (T : Top hd.view_39 (looseW hd.view_39 [PySem.Str.ofString "GitError"]) mean mg mb h₀) (hk : cs.kind = .function) (hdp : dp + 30 < recursionLimit) (hun : un + 240 < cLine) (XB : (hd.heap_39 w.params).In base) (TB : Top hd.view_39 (looseW hd.view_39 [PySem.Str.ofString "GitError"]) mean mg mb base) (hx : lk l "number" = some (.int x tx)) (x0 : 0 ≤ x) (x1 : x < 2199023255552) (hs : Loc cs "number" ∧ Glo cs "be16" ∧ Glo cs "be32" ∧ Glo cs "be64" ∧ Glo cs "put_size" ∧ Glo cs "put_offset")
  (k : ∀ R vs s', BL vs [enc 0 x, enc 1 x, enc 2 x, enc 3 x, enc 4 x] → Sm s s' → Fr h₀ L s'.heap (lk l) → News h₀ L s'.heap ((R, listOf vs.toArray 0) :: news) → Q (.ref R) s') :
  wpAny (MO w) (ktrTop dp un gd cn cs L a ccd [] []) (eval (.List [.Call (.Name "be16" p1) [.BinOp (.Name "number" p2) .Mod (.BinOp (.Constant (.int 2) k1 p3) .Pow (.Constant (.int 16) k2 p4) p5) p6] [] p7, .Call (.Name "be32" p8) [.BinOp (.Name "number" p9) .Mod (.BinOp (.Constant (.int 2) k3 q1) .Pow (.Constant (.int 32) k4 q2) q3) q4] [] q5, .Call (.Name "be64" q6) [.Name "number" q7] [] q8, .Call (.Name "put_size" q9) [.Name "number" r1] [] r2, .Call (.Name "put_offset" r3) [.Name "number" r4] [] r5] r6) (envX cn cs L a ccd [])) Q E s := by
  have G : Gr w mean mg mb h₀ := ⟨X, T⟩
  refine List_ (args_cons (px_call1i G F hs.2.1 rfl rfl (pv_mod (pv_name hx hs.1) (pv_pow pv_const pv_const (by decide) (by decide)) (by decide)) (fun _ => rfl) fun _ tk₁ => be16_spec (s := { s with toks := tk₁ }) B F X N T hk (room hdp rfl) (room hun rfl) fun r0 hr0 t0 s₁ S₁ F₁ N₁ => ?_) rfl)
  refine args_cons (px_call1i G F₁ hs.2.2.1 rfl rfl (pv_mod (pv_name hx hs.1) (pv_pow pv_const pv_const (by decide) (by decide)) (by decide)) (fun _ => rfl) fun _ tk₂ => be32_spec (s := { s₁ with toks := tk₂ }) B F₁ X N₁ T hk (room hdp rfl) (room hun rfl) fun r1 hr1 t1 s₂ S₂ F₂ N₂ => ?_) rfl
  refine args_cons (px_call1n G F₂ hs.2.2.2.1 rfl rfl hx hs.1 fun tk₃ => be64_spec (s := { s₂ with toks := tk₃ }) B F₂ X N₂ T hk (room hdp rfl) (room hun rfl) fun r2 hr2 t2 s₃ S₃ F₃ N₃ => ?_) rfl
  refine args_cons (px_call1n G F₃ hs.2.2.2.2.1 rfl rfl hx hs.1 fun tk₄ => put_size_spec (s := { s₃ with toks := tk₄ }) B F₃ X N₃ T hk (room hdp rfl) (room hun rfl) x0 x1 fun r3 hr3 t3 s₄ S₄ F₄ N₄ => ?_) rfl
  refine args_cons (px_call1n G F₄ hs.2.2.2.2.2 rfl rfl hx hs.1 fun tk₅ => put_offset_spec (s := { s₄ with toks := tk₅ }) B F₄ X N₄ T hk (room hdp rfl) (room hun rfl) x0 x1 fun r4 hr4 t4 s₅ S₅ F₅ N₅ => ?_) rfl
  rw [fm16] at hr0
  rw [fm32] at hr1
  exact args_nil (newList_K F₅ N₅ (fun R h' F' N' _ => k R _ _ (bl_cons hr0 (bl_cons hr1 (bl_cons hr2 (bl_cons hr3 (bl_cons hr4 bl_nil))))) ((Sm.trans .mk' S₁).trans ((Sm.trans .mk' S₂).trans ((Sm.trans .mk' S₃).trans ((Sm.trans .mk' S₄).trans ((Sm.trans .mk' S₅).trans .mk'))))) F' N') (Nat.le_of_ble_eq_true rfl))
/-- the law's own three -/
theorem px_due3 {w : World} {mg mb : Str → Option Value} {mean : ExcName → Option Value} {dp un : Nat} {gd : Option (List Code)} {cn : Str} {cs : Scope} {a : Addr} {ccd : Value} {A₀ : Around} {base h₀ : Heap} {L : Addr} {l : List (Str × Option Value)} {news : List (Addr × Obj)} {s : Shared} {Q E : Value → Shared → Prop}
  (B : Below A₀ base [] h₀) (F : Fr h₀ L s.heap (lk l)) (X : (hd.heap_39 w.params).In h₀) (N : News h₀ L s.heap (news)) (T : Top hd.view_39 (looseW hd.view_39 [PySem.Str.ofString "GitError"]) mean mg mb h₀) (hk : cs.kind = .function) (hdp : dp + 30 < recursionLimit) (hun : un + 240 < cLine) (XB : (hd.heap_39 w.params).In base) (TB : Top hd.view_39 (looseW hd.view_39 [PySem.Str.ofString "GitError"]) mean mg mb base) (hx : lk l "number" = some (.int x tx)) (hs : Loc cs "number" ∧ Glo cs "_law_big")
  (k : ∀ R vs s', BL vs [enc 0 x, enc 1 x, enc 2 x] → Sm s s' → Fr h₀ L s'.heap (lk l) → News h₀ L s'.heap ((R, listOf vs.toArray 0) :: news) → Q (.ref R) s') :
  wpAny (MO w) (ktrTop dp un gd cn cs L a ccd [] []) (eval (.List [.Call (.Name "_law_big" p1) [.BinOp (.Name "number" p2) .Mod (.BinOp (.Constant (.int 2) k1 p3) .Pow (.Constant (.int 16) k2 p4) p5) p6, .Constant (.int 2) k3 p7] [] p8, .Call (.Name "_law_big" p9) [.BinOp (.Name "number" q1) .Mod (.BinOp (.Constant (.int 2) k4 q2) .Pow (.Constant (.int 32) k5 q3) q4) q5, .Constant (.int 4) k6 q6] [] q7, .Call (.Name "_law_big" q8) [.Name "number" q9, .Constant (.int 8) k7 r1] [] r2] r3) (envX cn cs L a ccd [])) Q E s := by
  have G : Gr w mean mg mb h₀ := ⟨X, T⟩
  refine List_ (args_cons (px_call2i G F hs.2 rfl rfl (pv_mod (pv_name hx hs.1) (pv_pow pv_const pv_const (by decide) (by decide)) (by decide)) pv_const (fun _ => ⟨rfl, rfl⟩) fun _ _ tk₁ => law_big_spec (k := 2) (s := { s with toks := tk₁ }) B F X N T hk (room hdp rfl) (room hun rfl) rfl (by decide) fun r0 hr0 t0 s₁ S₁ F₁ N₁ => ?_) rfl)
  refine args_cons (px_call2i G F₁ hs.2 rfl rfl (pv_mod (pv_name hx hs.1) (pv_pow pv_const pv_const (by decide) (by decide)) (by decide)) pv_const (fun _ => ⟨rfl, rfl⟩) fun _ _ tk₂ => law_big_spec (k := 4) (s := { s₁ with toks := tk₂ }) B F₁ X N₁ T hk (room hdp rfl) (room hun rfl) rfl (by decide) fun r1 hr1 t1 s₂ S₂ F₂ N₂ => ?_) rfl
  refine args_cons (px_call2i G F₂ hs.2 rfl rfl (pv_name hx hs.1) pv_const (fun _ => ⟨rfl, rfl⟩) fun _ _ tk₃ => law_big_spec (k := 8) (s := { s₂ with toks := tk₃ }) B F₂ X N₂ T hk (room hdp rfl) (room hun rfl) rfl (by decide) fun r2 hr2 t2 s₃ S₃ F₃ N₃ => ?_) rfl
  rw [fm16] at hr0
  rw [fm32] at hr1
  exact args_nil (newList_K F₃ N₃ (fun R h' F' N' _ => k R _ _ (bl_cons hr0 (bl_cons hr1 (bl_cons hr2 bl_nil))) ((Sm.trans .mk' S₁).trans ((Sm.trans .mk' S₂).trans ((Sm.trans .mk' S₃).trans .mk'))) F' N') (Nat.le_of_ble_eq_true rfl))
theorem bl_app {vs us : List Value} {ks ls : List (List Int)} (h : BL vs ks) (k : BL us ls) : BL (vs ++ us) (ks ++ ls) := by
  refine ⟨by rw [List.length_append, List.length_append, h.1, k.1], fun i v hv => ?_⟩
  by_cases hi : i < vs.length
  · rw [List.getElem?_append_left hi] at hv
    obtain ⟨b, t, e, f⟩ := h.2 i v hv
    exact ⟨b, t, e, by rw [List.getElem?_append_left (h.1 ▸ hi)]; exact f⟩
  · rw [List.getElem?_append_right (Nat.le_of_not_lt hi)] at hv
    obtain ⟨b, t, e, f⟩ := k.2 _ v hv
    exact ⟨b, t, e, by rw [List.getElem?_append_right (h.1 ▸ Nat.le_of_not_lt hi), ← h.1]; exact f⟩
/-- rows != due + [..] -/
theorem px_neq {w : World} {mg mb : Str → Option Value} {mean : ExcName → Option Value} {dp un : Nat} {gd : Option (List Code)} {cn : Str} {cs : Scope} {a : Addr} {ccd : Value} {A₀ : Around} {base h₀ : Heap} {L : Addr} {l : List (Str × Option Value)} {news : List (Addr × Obj)} {s : Shared} {Q E : Value → Shared → Prop}
  (B : Below A₀ base [] h₀) (F : Fr h₀ L s.heap (lk l)) (X : (hd.heap_39 w.params).In h₀) (N : News h₀ L s.heap (news)) (T : Top hd.view_39 (looseW hd.view_39 [PySem.Str.ofString "GitError"]) mean mg mb h₀) (hk : cs.kind = .function) (hdp : dp + 30 < recursionLimit) (hun : un + 240 < cLine) (XB : (hd.heap_39 w.params).In base) (TB : Top hd.view_39 (looseW hd.view_39 [PySem.Str.ofString "GitError"]) mean mg mb base) {vR vU : List Value} {P : Bool → Shared → Prop} (hu : AUn un) (hx : lk l "number" = some (.int x tx)) (x0 : 0 ≤ x) (x1 : x < 2199023255552) (hR : lk l "rows" = some (.ref R)) (hU : lk l "due" = some (.ref U)) (mR : (R, listOf vR.toArray 0) ∈ news) (mU : (U, listOf vU.toArray 0) ∈ news) (bR : BL vR [enc 0 x, enc 1 x, enc 2 x, enc 3 x, enc 4 x]) (bU : BL vU [enc 0 x, enc 1 x, enc 2 x]) (hs : Loc cs "number" ∧ Loc cs "rows" ∧ Loc cs "due" ∧ Glo cs "_law_pieces" ∧ Glo cs "_law_far")
  (k : ∀ s', Sm s s' → Fr h₀ L s'.heap (lk l) → News h₀ L s'.heap news → P false s') :
  wpAny (MO w) (ktrTop dp un gd cn cs L a ccd [] []) (isTrue (.Compare (.Name "rows" p1) [.NotEq] [.BinOp (.Name "due" p2) .Add (.List [.Call (.Name "_law_pieces" p3) [.Name "number" p4] [] p5, .Call (.Name "_law_far" p6) [.Name "number" p7] [] p8] p9) q1] q2) (envX cn cs L a ccd []) (eval (.Compare (.Name "rows" p1) [.NotEq] [.BinOp (.Name "due" p2) .Add (.List [.Call (.Name "_law_pieces" p3) [.Name "number" p4] [] p5, .Call (.Name "_law_far" p6) [.Name "number" p7] [] p8] p9) q1] q2) (envX cn cs L a ccd []))) P E s := by
  have G : Gr w mean mg mb h₀ := ⟨X, T⟩
  refine wpAny_isTrue_Compare1 (px_name F hR hs.2.1 (wpAny_BinOp (px_name F hU hs.2.2.1 (List_ (args_cons (px_call1n G F hs.2.2.2.1 rfl rfl hx hs.1 fun tk₁ => law_pieces_spec (s := { s with toks := tk₁ }) B F X N T hk (room hdp rfl) (room hun rfl) x0 x1 fun d3 hd3 t3 s₁ S₁ F₁ N₁ => ?_) rfl))))) rfl
  refine args_cons (px_call1n G F₁ hs.2.2.2.2 rfl rfl hx hs.1 fun tk₂ => law_far_spec (s := { s₁ with toks := tk₂ }) B F₁ X N₁ T hk (room hdp rfl) (room hun rfl) x0 x1 fun d4 hd4 t4 s₂ S₂ F₂ N₂ => args_nil (newList_K F₂ N₂ (fun V h₃ F₃ N₃ off₃ => ?_) (Nat.le_of_ble_eq_true rfl))) rfl
  refine add_lists (s := { s₂ with heap := h₃ }) F₃ N₃ (News.isList N₃ (.tail _ mU)) (News.isList N₃ (.head _)) (fun h₄ F₄ N₄ => ?_) (by rw [bU.1]; exact Nat.le_of_ble_eq_true rfl)
  exact ne_BL (PySem.IsL.isList (n := 0) (N₄ _ (.tail _ (.tail _ mR))).1) (PySem.IsL.isList (n := 0) (N₄ _ (.head _)).1) bR (bl_app bU (bl_cons hd3 (bl_cons hd4 bl_nil))) hu (wpAny_truthy_bool (k _ ((Sm.trans .mk' S₁).trans (Sm.trans (Sm.trans .mk' S₂) .mk')) F₄ fun p hp => N₄ p (.tail _ (.tail _ hp))))
/-- ahead + rows[way] + .., len(ahead) -/
theorem px_whole {w : World} {mg mb : Str → Option Value} {mean : ExcName → Option Value} {dp un : Nat} {gd : Option (List Code)} {cn : Str} {cs : Scope} {a : Addr} {ccd : Value} {A₀ : Around} {base h₀ : Heap} {L : Addr} {l : List (Str × Option Value)} {news : List (Addr × Obj)} {s : Shared} {Q E : Value → Shared → Prop}
  (B : Below A₀ base [] h₀) (F : Fr h₀ L s.heap (lk l)) (X : (hd.heap_39 w.params).In h₀) (N : News h₀ L s.heap (news)) (T : Top hd.view_39 (looseW hd.view_39 [PySem.Str.ofString "GitError"]) mean mg mb h₀) (hk : cs.kind = .function) (hdp : dp + 30 < recursionLimit) (hun : un + 240 < cLine) (XB : (hd.heap_39 w.params).In base) (TB : Top hd.view_39 (looseW hd.view_39 [PySem.Str.ofString "GitError"]) mean mg mb base) {Q2 : Value → Value → Shared → Prop} {vs : List Value} {n i : Nat} {ba : Array UInt8} {tb tw : Tok} {pre : List Int} (hR : lk l "rows" = some (.ref R)) (hw : lk l "way" = some (.int (i : Int) tw)) (ha : lk l "ahead" = some (.bytes ba tb)) (hba : KBw.bInts ba = pre) (hp : pre.length ≤ 3) (mR : (R, listOf vs.toArray n) ∈ news) (bR : BL vs [enc 0 x, enc 1 x, enc 2 x, enc 3 x, enc 4 x]) (h5 : i < 5) (hl : (enc i x).length ≤ 8) (he : [enc 0 x, enc 1 x, enc 2 x, enc 3 x, enc 4 x][i]? = some (enc i x)) (hs : Loc cs "ahead" ∧ Loc cs "rows" ∧ Loc cs "way" ∧ Glo cs "len")
  (k : ∀ b t tl s', KBw.bInts b = pre ++ enc i x ++ [0, 129] → Sm s s' → Fr h₀ L s'.heap (lk l) → News h₀ L s'.heap news → Q2 (.bytes b t) (.int pre.length tl) s') :
  wpAny (MO w) (ktrTop dp un gd cn cs L a ccd [] []) (eval (.BinOp (.BinOp (.Name "ahead" p1) .Add (.Subscript (.Name "rows" p2) (.Name "way" p3) p4) p5) .Add (.Constant (.bytes [0, 129]) k1 p6) p7) (envX cn cs L a ccd [])) (fun v1 s₁ => wpAny (MO w) (ktrTop dp un gd cn cs L a ccd [] []) (eval (.Call (.Name "len" p8) [.Name "ahead" p9] [] q1) (envX cn cs L a ccd [])) (fun v2 s₂ => Q2 v1 v2 s₂) E s₁) E s := by
  have G : Gr w mean mg mb h₀ := ⟨X, T⟩
  have hz : (pre ++ enc i x).length + 2 ≤ 16777216 := by rw [List.length_append]; (first | lia | omega)
  exact wpAny_BinOp (wpAny_BinOp (px_name F ha hs.1 (px_row F N hR hw mR bR he (by (first | lia | omega)) hs.2.1 hs.2.2.1 fun rb tr k1 hrb => KBa.add_K hba hrb (by (first | lia | omega)) fun t2 k2 hab => Constant_bytes (KBa.add_K (ls := [0, 129]) hab rfl hz fun t3 k3 hall => px_eval (s := { s with toks := k3 }) G F (pv_len ha hba (by (first | lia | omega)) hs.1 hs.2.2.2) fun tl kl => k _ _ _ _ hall .mk' F N))))
/-- the two tests of a way -/
theorem px_tests {w : World} {mg mb : Str → Option Value} {mean : ExcName → Option Value} {dp un : Nat} {gd : Option (List Code)} {cn : Str} {cs : Scope} {a : Addr} {ccd : Value} {A₀ : Around} {base h₀ : Heap} {L : Addr} {l : List (Str × Option Value)} {news : List (Addr × Obj)} {s : Shared} {Q E : Value → Shared → Prop}
  (B : Below A₀ base [] h₀) (F : Fr h₀ L s.heap (lk l)) (X : (hd.heap_39 w.params).In h₀) (N : News h₀ L s.heap (news)) (T : Top hd.view_39 (looseW hd.view_39 [PySem.Str.ofString "GitError"]) mean mg mb h₀) (hk : cs.kind = .function) (hdp : dp + 30 < recursionLimit) (hun : un + 240 < cLine) (XB : (hd.heap_39 w.params).In base) (TB : Top hd.view_39 (looseW hd.view_39 [PySem.Str.ofString "GitError"]) mean mg mb base) {P : Bool → Shared → Prop} {whole : Sem Value} {vs : List Value} {n i : Nat} {ba bw : Array UInt8} {ta tb tw tl : Tok} {pre : List Int} {vt : Value} (hu : AUn un) (x0 : 0 ≤ x) (x1 : x < 2199023255552) (hR : lk l "rows" = some (.ref R)) (hw : lk l "way" = some (.int (i : Int) tw)) (ha : lk l "ahead" = some (.bytes ba ta)) (hW : lk l "whole" = some (.bytes bw tb)) (hL : lk l "least" = some (.int pre.length tl)) (hT : lk l "told" = some vt) (hba : KBw.bInts ba = pre) (hbw : KBw.bInts bw = pre ++ enc i x ++ [0, 129]) (tV : ToldV i x (pre.length + (enc i x).length) vt news) (hp : pre.length ≤ 3) (mR : (R, listOf vs.toArray n) ∈ news) (bR : BL vs [enc 0 x, enc 1 x, enc 2 x, enc 3 x, enc 4 x]) (h5 : i < 5) (hl : (enc i x).length ≤ 8) (he : [enc 0 x, enc 1 x, enc 2 x, enc 3 x, enc 4 x][i]? = some (enc i x))
  (hs : Loc cs "ahead" ∧ Loc cs "rows" ∧ Loc cs "way" ∧ Loc cs "whole" ∧ Loc cs "least" ∧ Loc cs "told" ∧ Glo cs "_law_told")
  (k : ∀ nx s', (∀ p ∈ news, p ∈ nx) → Sm s s' → Fr h₀ L s'.heap (lk l) → News h₀ L s'.heap nx → P false s') :
  wpAny (MO w) (ktrTop dp un gd cn cs L a ccd [] []) (isTrue (.BoolOp .Or [.Compare (.Call (.Name "_law_told" p1) [.Name "way" p2, .Name "whole" p3, .Name "least" p4] [] p5) [.NotEq] [.Name "told" p6] p7, .Compare (.Call (.Name "_law_told" p8) [.Name "way" p9, .BinOp (.Name "ahead" q1) .Add (.Subscript (.Subscript (.Name "rows" q2) (.Name "way" q3) q4) (.Slice none (some (.UnaryOp .USub (.Constant (.int 1) k1 q5) q6)) none q7) q8) q9, .Name "least" r1] [] r2) [.IsNot] [.Constant .none k2 r3] r4] r5) (envX cn cs L a ccd []) whole) P E s := by
  have G : Gr w mean mg mb h₀ := ⟨X, T⟩
  refine wpAny_isTrue_BoolOp (wpAny_allTrue_Or_cons (wpAny_isTrue_Compare1 (px_call3 G F hs.2.2.2.2.2.2 rfl rfl (pe_name hw hs.2.2.1) (pe_name hW hs.2.2.2.1) (pe_name hL hs.2.2.2.2.1) (fun _ => ⟨rfl, rfl, rfl⟩) fun v1 v2 v3 tk₁ e1 e2 e3 => ?_) rfl))
  subst e1 e2 e3
  refine told_ok (s := { s with toks := tk₁ }) B F X N T hk (room hdp rfl) (room hun rfl) XB TB hbw (Nat.le_trans hp (by decide)) h5 x0 x1 fun v1 nx2 s₂ tV1 sub1 S₂ F₂ N₂ => ?_
  refine px_name F₂ hT hs.2.2.2.2.2.1 (ne_told N₂ tV1 (told_mono tV sub1) hu (wpAny_truthy_bool (wpAny_allTrue_Or_cons (wpAny_isTrue_Compare1 (Call_ (nameX_K F₂ X (topRead_of T) rfl (callWith_K (K := Nt.hd.heap_39 _) X rfl (args_cons (px_name F₂ hw hs.2.2.1 (args_cons (wpAny_BinOp (px_name F₂ ha hs.1 (px_drop F₂ N₂ (ks := enc i x) (Nat.le_trans hl (by decide)) (fun Q h => px_row F₂ N₂ hR hw (sub1 _ mR) bR he (Nat.lt_trans h5 (by decide)) hs.2.1 hs.2.2.1 h) fun c tc s₃ hc S₃ F₃ N₃ => KBa.add_K hba hc (by rw [List.length_dropLast]; (first | lia | omega)) fun t4 k4 hbc => args_cons (px_name F₃ hL hs.2.2.2.2.1 (args_nil ⟨G.at F₃, ?_⟩)) rfl))) rfl)) rfl) rfl rfl) hs.2.2.2.2.2.2.of.1.1 hs.2.2.2.2.2.2.of.1.2 rfl)) rfl))))
  exact told_cut (s := { s₃ with toks := k4 }) B F₃ X N₃ T hk (room hdp rfl) (room hun rfl) XB TB hbc (Nat.le_trans hp (by decide)) h5 x0 x1 fun s₄ S₄ F₄ N₄ => wpAny_Constant_none (isnot_none (wpAny_allTrue_Or_nil (k nx2 _ sub1 ((Sm.trans .mk' S₂).trans (S₃.trans (Sm.trans .mk' S₄))) F₄ N₄)))
end
end
noncomputable section
theorem fr_pad {h₀ h : Heap} {L : Addr} {b : List (Str × Value)} {ls : List (Str × Option Value)} (F : Fr h₀ L h (fun x => List.lookup x b)) (ns : List Str) (hl : opts b ++ nons ns = ls) : Fr h₀ L h (lk ls) := by
  rw [← hl, lk_pad (nons_none ns), ← lk_opts]; exact F
/-- the ground, the frame, the list, the post: as variables -/
theorem law_wrap {w : World} {mg mb : Str → Option Value} {mean : ExcName → Option Value} {cn : Str} {cs : Scope} {fa : Addr} {cdv : Value} {body : List Stmt} {Q : Flow → Shared → Prop} {E : Value → Shared → Prop} {s : Shared} {g : Heap} {b : List (Str × Value)} {ls : List (Str × Option Value)} {ax : Addr} {vs : List Value} {ns : List Int}
  (F : Fr g g.objs.size s.heap (fun x => List.lookup x b)) (N : News g g.objs.size s.heap []) (B : Below callerA g [] g) (T : Top hd.view_39 (looseW hd.view_39 [PySem.Str.ofString "GitError"]) mean mg mb g) (X : (hd.heap_39 w.params).In g) (hl : g.IsList ax vs.toArray) (hi : IntsAre vs ns) (hn : ns.length ≤ 1000)
  (hp : PassesOwn (MO w) (ktrTop (callerA.depth + 1) (callerA.units + 3) (some []) cn cs g.objs.size fa cdv [] []) (envX cn cs g.objs.size fa cdv []) E) (nm : List Str) (hls : opts b ++ nons nm = ls)
  (hQ : ∀ s', Sm s s' → (∀ b o, g.get? b = some o → s'.heap.get? b = some o) → Q (.ret (.bool true)) s')
  (h : ∀ (g : Heap) (L : Addr) (s : Shared) (vs : List Value) (ns : List Int) (mg mb : Str → Option Value) (mean : ExcName → Option Value) (A : Around) (Q : Flow → Shared → Prop) (E : Value → Shared → Prop), A = ktrTop (callerA.depth + 1) (callerA.units + 3) (some []) cn cs L fa cdv [] [] → Fr g L s.heap (lk ls) → News g L s.heap [] → Below callerA g [] g → Top hd.view_39 (looseW hd.view_39 [PySem.Str.ofString "GitError"]) mean mg mb g → (hd.heap_39 w.params).In g → g.IsList ax vs.toArray → IntsAre vs ns → ns.length ≤ 1000 → PassesOwn (MO w) A (envX cn cs L fa cdv []) E →
    (∀ s', Sm s s' → (∀ b o, g.get? b = some o → s'.heap.get? b = some o) → Q (.ret (.bool true)) s') → wpAny (MO w) A (execs body (envX cn cs L fa cdv [])) Q E s) :
  wpAny (MO w) (ktrTop (callerA.depth + 1) (callerA.units + 3) (some []) cn cs g.objs.size fa cdv [] []) (execs body (envX cn cs g.objs.size fa cdv [])) Q E s :=
  h g _ s vs ns mg mb mean _ Q E (Eq.refl _) (fr_pad F nm hls) N B T X hl hi hn hp hQ
theorem Sm.rest {s s' : Shared} (h : Sm s s') : s'.gens = s.gens ∧ s'.os = s.os := by
  have h : s' = _ := h
  rw [h]; exact ⟨Eq.refl _, Eq.refl _⟩
theorem law_holds : PySem.Challenge.rw_nt0271_01.Holds := by
  refine hd ?_
  k_go0
  w_top off
  rename Fr _ _ _ _ => F0
  rename Below _ _ _ _ => B0
  rename Top _ _ _ _ _ _ => T0
  rename Frag.In _ _ => X0
  rename Heap.IsList _ _ _ => hl0
  rename IntsAre _ _ => hi0
  rename ¬ _ < _ => hlen
  rename _ = #[] => hg0
  refine' law_wrap (cn := "law") (body := ?body) (cs := ?cs) F0 ?N B0 T0 X0 hl0 hi0 (by (first | lia | omega)) (by passes_own) ["deck", "go", "number", "ahead", "rows", "due", "way", "whole", "least", "told"] (Eq.refl [_, _, _, _, _, _, _, _, _, _, _]) ?hQ ?hW
  case N => assumption
  case hQ => exact fun s' S st => ⟨.inl ⟨_, .bool true, [], rfl, fun _ => rfl, .bool _, by with_unfolding_all rfl, fun _ => ⟨.nil, fun _ h => nomatch h⟩⟩, st, S.rest.2, S.rest.1.trans hg0⟩
  dsimp only
  intro g₀ L₀ s₀ vs₀ ns₀ mg₀ mb₀ mean₀ A' Q' E' hA F' N' B' T' X' hl0 hi0 hlen hP' hQ'
  subst hA
  have G : Gr _ _ _ _ _ := ⟨X', T'⟩
  refine' px_let F' ?hx79 ?hl79 ?hs79 ?k79; (case hx79 => exact rfl); (case hl79 => exact fun _ => Eq.refl [_, _, _, _, _, _, _, _, _, _, _]); (case hs79 => exact fun _ => rfl); refine ?_
  refine' px_call1 G F' rfl rfl rfl ?d1 (fun _ => rfl) ?d2
  case d1 => exact pe_name (Eq.refl (some (Value.ref _))) rfl
  case d2 =>
    rintro _ tk rfl
    refine' deck_spec ?B78 ?F78 ?X78 ?N78 ?T78 ?hk78 ?hd78 ?hu78 hl0 hi0 ?dn ?dr; (case B78 => exact B'); (case F78 => exact F'); (case X78 => exact X'); (case N78 => exact N'); (case T78 => exact T'); (case hk78 => exact rfl); (case hd78 => first | exact room hdp' rfl | exact room hdp rfl | omega | ktr_room); (case hu78 => first | exact room hun' rfl | exact room hun rfl | omega | ktr_units)
    case dn => (first | lia | omega)
    case dr =>
      intro D Lf oD oL s₂ hD₂ ne off S₂ F₂ N₂
      refine ⟨_, F₂, N₂, fun s₃ S₃ F₃ N₃ => ?_⟩
      refine' px_for (σ := (Obj × Obj) × Option Value × Option Value × Option Value × Option Value × Option Value × Option Value × Option Value × Option Value) (fun c o => [("script", some (.ref _)), ("deck", some (.ref D)), ("go", o), ("number", c.2.1), ("ahead", c.2.2.1), ("rows", c.2.2.2.1), ("due", c.2.2.2.2.1), ("way", c.2.2.2.2.2.1), ("whole", c.2.2.2.2.2.2.1), ("least", c.2.2.2.2.2.2.2.1), ("told", c.2.2.2.2.2.2.2.2)]) (fun c => [(D, c.1.1), (Lf, c.1.2)]) [D, Lf] (fun _ c => Dk _ Lf c.1.1 c.1.2) ((_, _), none, none, none, none, none, none, none, none) F₃ ?hP rfl (fun _ => rfl) (fun _ _ _ => Eq.refl [_, _, _, _, _, _, _, _, _, _, _]) (fun _ => rfl) ?hit ⟨_, rfl, hD₂⟩ ?turn ?done
      case hP => exact hP'
      case hit => exact px_range1 (n := 3) G F₃ N₃ rfl rfl (okV G F₃) pv_const rfl (by decide) (fun _ => rfl)
      case done =>
        rintro c o s₄ hD₄ S₄ F₄ N₄
        refine px_rete (BoolOp_and ?_)
        refine' px_call1 G F₄ rfl rfl rfl ?e1 (fun _ => rfl) ?e2
        case e1 => exact pe_name (Eq.refl (some (Value.ref _))) rfl
        case e2 =>
          rintro _ tk₅ rfl
          refine hexr_spec (s := { s₄ with toks := tk₅ }) B' F₄ X' N₄ T' rfl (by decide) (by decide) X' T' hD₄ ne (fun _ h => nomatch h) fun o₁ o₂ s₅ hD₅ S₅ Z => ?_
          obtain ⟨g₅, _, F₅, N₅, B₅⟩ := Z
          have G₅ : Gr _ _ _ _ g₅ := ⟨X'.keeps B₅.stays, T'.keeps B₅.stays⟩
          refine wpAny_truthy_bool (BoolOp_one ?_)
          refine' px_call1 G₅ F₅ rfl rfl rfl ?f1 (fun _ => rfl) ?f2
          case f1 => exact pe_name (Eq.refl (some (Value.ref _))) rfl
          case f2 =>
            rintro _ tk₆ rfl
            refine rows_spec (s := { s₅ with toks := tk₆ }) B₅ F₅ G₅.X N₅ G₅.T rfl (by decide) (by decide) rfl hD₅ ne (fun _ h => nomatch h) fun o₃ o₄ s₆ hD₆ S₆ F₆ N₆ => ?_
            have e : Sm s₂ s₆ := S₃.trans (S₄.trans ((Sm.trans .mk' S₅).trans (Sm.trans .mk' S₆)))
            exact hQ' _ ((Sm.trans .mk' S₂).trans e) fun b o h => F₆.keep _ _ (B₅.stays _ _ h)
      case turn =>
        rintro i ⟨⟨oD₁, oL₁⟩, nu, ah, ro, du, wa, wh, le, to⟩ v s₄ own Q₄ hi hv hD₄ S₄ F₄ N₄ offO rt nx
        dsimp only at hD₄ F₄ N₄ nx
        have off₄ : ∀ p ∈ own, p.1 ≠ D ∧ p.1 ≠ Lf := fun p hp => ⟨fun q => offO p hp (q ▸ .head _), fun q => offO p hp (q ▸ .tail _ (.head _))⟩
        refine' px_pairS F₄ ?hh76 ?hz76 ?hu76 ?hl76 ?hm76 ?hst76 ?hs76 ?h76 ?hw76; (case hh76 => exact rfl); (case hz76 => exact rfl); (case hu76 => exact rfl); (case hl76 => exact fun _ _ => Eq.refl [_, _, _, _, _, _, _, _, _, _, _]); (case hm76 => exact fun _ _ => Eq.refl [_, _, _, _, _, _, _, _, _, _, _]); (case hst76 => exact fun _ => ⟨rfl, rfl⟩); (case hs76 => exact rfl); (case hw76 => exact rfl); refine ?_
        refine px_numah (Q := fun _ _ => True) B' F₄ X' N₄ T' rfl (by decide) (by decide) X' T' hD₄ ne off₄ (Eq.refl (some (Value.ref D))) ⟨rfl, rfl, rfl, rfl⟩ fun x tx ba tb pre o₃ o₄ s₅ x0 x1 hba hp hD₅ S₅ F₅ N₅ => ⟨_, F₅, N₅, fun s₆ S₆ F₆ N₆ => ?_⟩
        refine' px_let F₆ ?hx80 ?hl80 ?hs80 ?k80; (case hx80 => exact rfl); (case hl80 => exact fun _ => Eq.refl [_, _, _, _, _, _, _, _, _, _, _]); (case hs80 => exact fun _ => rfl); refine px_rows5 B' F₆ X' N₆ T' rfl (by decide) (by decide) X' T' (Eq.refl (some (Value.int _ _))) x0 x1 ⟨rfl, rfl, rfl, rfl, rfl, rfl⟩ fun R vR s₇ bR S₇ F₇ N₇ => ⟨_, F₇, N₇, fun s₈ S₈ F₈ N₈ => ?_⟩
        refine' px_let F₈ ?hx81 ?hl81 ?hs81 ?k81; (case hx81 => exact rfl); (case hl81 => exact fun _ => Eq.refl [_, _, _, _, _, _, _, _, _, _, _]); (case hs81 => exact fun _ => rfl); refine px_due3 B' F₈ X' N₈ T' rfl (by decide) (by decide) X' T' (Eq.refl (some (Value.int _ _))) ⟨rfl, rfl⟩ fun U vU s₉ bU S₉ F₉ N₉ => ⟨_, F₉, N₉, fun s₁₀ S₁₀ F₁₀ N₁₀ => ?_⟩
        have S4 : Sm s₄ s₁₀ := (S₅.trans S₆).trans ((S₇.trans S₈).trans (S₉.trans S₁₀))
        clear S₅ S₆ S₇ S₈ S₉ S₁₀ F₅ F₆ F₇ F₈ F₉ N₅ N₆ N₇ N₈ N₉
        refine wpAny_execs_cons (wpAny_If (px_neq (Q := fun _ _ => True) B' F₁₀ X' N₁₀ T' rfl (by decide) (by decide) X' T' (Nat.le_of_ble_eq_true rfl) (Eq.refl (some (Value.int x tx))) x0 x1 (Eq.refl (some (Value.ref R))) (Eq.refl (some (Value.ref U))) (.tail _ (.head _)) (.head _) bR bU ⟨rfl, rfl, rfl, rfl, rfl⟩ fun s₁₁ S₁₁ F₁₁ N₁₁ => wpAny_execs_nil ?_))
        refine' px_for (σ := Option Value × Option Value × Option Value) (fun c o => [("script", some (.ref _)), ("deck", some (.ref D)), ("go", some v), ("number", some (.int x tx)), ("ahead", some (.bytes ba tb)), ("rows", some (.ref R)), ("due", some (.ref U)), ("way", o), ("whole", c.1), ("least", c.2.1), ("told", c.2.2)]) (fun _ => (R, listOf vR.toArray 0) :: (D, o₃) :: (Lf, o₄) :: own) (R :: D :: Lf :: own.map (·.1)) (fun _ _ => True) (_, _, _) F₁₁ hP' rfl (fun _ => rfl) (fun _ _ _ => Eq.refl [_, _, _, _, _, _, _, _, _, _, _]) (fun _ => rfl) ?hit2 ⟨_, rfl, trivial⟩ ?turn2 ?done2
        case hit2 => exact px_range1 (n := 5) G F₁₁ (fun p hp => N₁₁ p (.tail _ hp)) rfl rfl (okV G F₁₁) pv_const rfl (by decide) (fun _ => rfl)
        case done2 =>
          intro c o s₁₂ _ S₁₂ F₁₂ N₁₂
          exact wpAny_execs_nil (nx ((o₃, o₄), _, _, _, _, _, _, _, _) _ hD₅ (S4.trans (S₁₁.trans S₁₂)) F₁₂ fun p hp => N₁₂ p (.tail _ hp))
        case turn2 =>
          intro j c w2 s₁₂ own₂ Q₁₂ hj hw _ S₁₂ F₁₂ N₁₂ _ _ nx₂
          obtain ⟨tw, hw⟩ := hw
          rw [show (0 : Int) + (j : Int) * 1 = (j : Int) from by rw [Int.mul_one, Int.zero_add]] at hw
          subst hw
          have hk := enc_at (x := x) hj
          have hl8 := enc_len hj x0 x1
          refine' px_pairS F₁₂ ?hh77 ?hz77 ?hu77 ?hl77 ?hm77 ?hst77 ?hs77 ?h77 ?hw77; (case hh77 => exact rfl); (case hz77 => exact rfl); (case hu77 => exact rfl); (case hl77 => exact fun _ _ => Eq.refl [_, _, _, _, _, _, _, _, _, _, _]); (case hm77 => exact fun _ _ => Eq.refl [_, _, _, _, _, _, _, _, _, _, _]); (case hst77 => exact fun _ => ⟨rfl, rfl⟩); (case hs77 => exact rfl); (case hw77 => exact rfl); refine ?_
          refine px_whole (Q := fun _ _ => True) B' F₁₂ X' N₁₂ T' rfl (by decide) (by decide) X' T' (Eq.refl (some (Value.ref R))) (Eq.refl (some (Value.int _ tw))) (Eq.refl (some (Value.bytes ba tb))) hba hp (.head _) bR hj hl8 hk ⟨rfl, rfl, rfl, rfl⟩ fun bw t3 tl s₁₃ hbw S₁₃ F₁₃ N₁₃ => ⟨_, F₁₃, N₁₃, fun s₁₄ S₁₄ F₁₄ N₁₄ => ?_⟩
          refine' px_let F₁₄ ?hx82 ?hl82 ?hs82 ?k82; (case hx82 => exact rfl); (case hl82 => exact fun _ => Eq.refl [_, _, _, _, _, _, _, _, _, _, _]); (case hs82 => exact fun _ => rfl); refine px_toldV G F₁₄ N₁₄ (Eq.refl (some (Value.int _ _))) (Eq.refl (some (Value.int _ _))) (Eq.refl (some (Value.int _ _))) (Eq.refl (some (Value.ref R))) (.head _) bR hk hj (Nat.le_trans hl8 (by decide)) rfl ⟨rfl, rfl, rfl, rfl⟩ fun vt nx1 s₁₅ tV sub S₁₅ F₁₅ N₁₅ => ⟨_, F₁₅, N₁₅, fun s₁₆ S₁₆ F₁₆ N₁₆ => ?_⟩
          refine wpAny_execs_cons (wpAny_If (px_tests (Q := fun _ _ => True) B' F₁₆ X' N₁₆ T' rfl (by decide) (by decide) X' T' (Nat.le_of_ble_eq_true rfl) x0 x1 (Eq.refl (some (Value.ref R))) (Eq.refl (some (Value.int _ tw))) (Eq.refl (some (Value.bytes ba tb))) (Eq.refl (some (Value.bytes bw t3))) (Eq.refl (some (Value.int _ tl))) (Eq.refl (some vt)) hba hbw tV hp (sub _ (.head _)) bR hj hl8 hk ⟨rfl, rfl, rfl, rfl, rfl, rfl, rfl⟩ fun nx2 s₁₇ sub2 S₁₇ F₁₇ N₁₇ => wpAny_execs_nil (wpAny_execs_nil ?_)))
          exact nx₂ (_, _, _) _ trivial ((S₁₃.trans S₁₄).trans ((S₁₅.trans S₁₆).trans S₁₇)) F₁₇ fun p hp => N₁₇ p (sub2 _ (sub _ hp))
end
end Nt
theorem PySem.Challenge.cw_nt0271_01_holds : PySem.Challenge.rw_nt0271_01.Holds :=
  Nt.law_holds
