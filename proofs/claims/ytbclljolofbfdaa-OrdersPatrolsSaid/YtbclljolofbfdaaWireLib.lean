/- What the functions of wire and of its reference come to, in plain words: the readers and the writers of numbers. -/
import Derived.Test.YtbclljolofbfdaaFx3
import Derived.Test.YtbclljolofbfdaaFx4
import Derived.Test.YtbclljolofbfdaaFx13
import Derived.Test.YtbclljolofbfdaaFx15
import Derived.Test.YtbclljolofbfdaaPlain
import Derived.OpenShut
namespace Go.Proofs.Ytbclljolofbfdaa.Pure
open Go.RowKit Go.Proofs.Ytbclljolofbfdaa.F Go.Proofs.YtbclljolofbfdaaW.PrintWords Go.Proofs.YtbclljolofbfdaaW.PrintLast Go.Proofs.YtbclljolofbfdaaW.PrintMore Go.Proofs.Ytbclljolofbfdaa.Plain

theorem w64 (n : Int) : IntKind.u64.wrap n = n % 18446744073709551616 := IntKind.wrap_u64 n
theorem wr (n : Int) (h0 : -9223372036854775808 ≤ n) (h1 : n ≤ 9223372036854775807) : wrap64 n = n := by unfold wrap64; omega
theorem Ev.step1 {α : Type} {g f : Nat → Option α} {r : α} (h : Ev f r) (e : ∀ k, f k = some r → g (k + 1) = some r) : Ev g r := by
  obtain ⟨K, hK⟩ := h
  refine ⟨K + 1, fun k hk => ?_⟩
  obtain ⟨k, rfl⟩ : ∃ m, k = m + 1 := ⟨k - 1, by omega⟩
  exact e k (hK k (by omega))
theorem Ev.in1 {α : Type} {g : Nat → Option α} {r : α} (e : ∀ k, g (k + 1) = some r) : Ev g r := Ev.step1 (Ev.now r) (fun k _ => e k)
theorem Ev.in0 {α : Type} {g : Nat → Option α} {r : α} (e : ∀ k, g k = some r) : Ev g r := ⟨0, fun k _ => e k⟩

/-- A string's bytes as numbers. -/
def nb (s : ByteArray) : List Nat := s.data.toList.map UInt8.toNat
theorem nb_length (s : ByteArray) : (nb s).length = s.size := by
  unfold nb
  rw [List.length_map, Array.length_toList]
  rfl
theorem nb_lt (s : ByteArray) : ∀ c ∈ nb s, c < 256 := by
  intro c hc
  simp only [nb, List.mem_map] at hc
  obtain ⟨b, _, rfl⟩ := hc
  exact b.toNat_lt
theorem nb_at (s : ByteArray) (j : Nat) (h : j < s.size) : ∃ c : Nat, c < 256 ∧ bt s (j : Int) = (c : Int) ∧ (nb s).drop j = c :: (nb s).drop (j + 1) := by
  have hl : j < (nb s).length := by rw [nb_length]; exact h
  refine ⟨(nb s)[j], nb_lt s _ (List.getElem_mem hl), ?_, List.drop_eq_getElem_cons hl⟩
  have h2 : ((j : Int)).toNat < s.size := by rw [Int.toNat_natCast]; exact h
  unfold bt
  rw [dif_pos h2]
  simp [nb]
  rfl
theorem nb_inj {s t : ByteArray} (h : nb s = nb t) : s = t := by
  have h1 : s.data.toList = t.data.toList := by
    unfold nb at h
    exact List.map_inj_right (fun _ _ e => UInt8.toNat_inj.1 e) |>.1 h
  have h2 : s.data = t.data := Array.toList_inj.1 h1
  cases s
  cases t
  simp_all
theorem nb_append (s t : ByteArray) : nb (s ++ t) = nb s ++ nb t := by simp [nb]
theorem nb_extract (s : ByteArray) (a b : Nat) : nb (s.extract a b) = ((nb s).drop a).take (b - a) := by
  simp [nb, ByteArray.data_extract, Array.toList_extract, List.map_take, List.map_drop]

/-- The bytes of an encoding. -/
def eb (n : Nat) : ByteArray := strOfNums ((enc n).map fun c : Nat => (c : Int))
theorem nb_nums (l : List Nat) (h : ∀ c ∈ l, c < 256) : nb (strOfNums (l.map fun c : Nat => (c : Int))) = l := by
  unfold nb strOfNums
  simp only [List.map_map]
  conv => rhs; rw [← List.map_id l]
  refine List.map_congr_left (fun c hc => ?_)
  have := h c hc
  simp
  omega
theorem nb_eb (n : Nat) : nb (eb n) = enc n := nb_nums _ (enc_lt n)
theorem eb_size (n : Nat) : (eb n).size = (enc n).length := by rw [← nb_length, nb_eb]
theorem nums_append (xs ys : List Int) : strOfNums (xs ++ ys) = strOfNums xs ++ strOfNums ys := by
  unfold strOfNums
  rw [List.map_append]
  have h : ∀ a b : Array UInt8, (⟨a ++ b⟩ : ByteArray) = (⟨a⟩ : ByteArray) ++ ⟨b⟩ := by
    intro a b
    apply ByteArray.ext
    simp
  rw [← h]
  simp

theorem wire_uint_l0 (n : Nat) : ∀ (xs : List Int), n < 18446744073709551616 → xs.length + (enc n).length ≤ 1000 → Ev (fun k => wire_Uint.l0 k (n : Int) xs) (strOfNums (xs ++ (enc n).map fun c : Nat => (c : Int))) := by
  induction n using Nat.strongRecOn with
  | ind n ih =>
    intro xs hn hl
    by_cases h : n < 128
    · rw [enc_small h] at hl ⊢
      refine Ev.in1 (fun k => ?_)
      simp only [wire_Uint.l0]
      rw [if_neg (by omega), if_pos (by omega)]
      have e : (n : Int) % 256 = (n : Int) := by omega
      rw [e]
      rfl
    · rw [enc_big h] at hl ⊢
      have e1 : (Int.tmod (n : Int) 128 % 256 + 128) % 256 = ((128 + n % 128 : Nat) : Int) := by
        rw [Int.tmod_eq_emod_of_nonneg (by omega)]
        omega
      have e2 : IntKind.u64.wrap (Int.tdiv (n : Int) 128) = ((n / 128 : Nat) : Int) := by
        rw [w64, Int.tdiv_eq_ediv_of_nonneg (by omega)]
        omega
      rw [List.map_cons, List.append_cons]
      refine Ev.step1 (ih (n / 128) (by omega) (xs ++ [((128 + n % 128 : Nat) : Int)]) (by omega) (by simp at hl ⊢; omega)) (fun k hk => ?_)
      simp only [wire_Uint.l0]
      rw [if_pos (by omega), if_pos (by omega), e1, e2, hk]
theorem wire_uint {n : Nat} (h : n < 18446744073709551616) : Ev (fun k => wire_Uint.f k (n : Int)) (eb n) := by
  have := wire_uint_l0 n [] h (by have := enc_len10 h; simp; omega)
  exact this
theorem ref_uint_l0 (n : Nat) : ∀ (b : ByteArray), n < 18446744073709551616 → b.size + (enc n).length ≤ 1000 → Ev (fun k => skirmishref04_Uint.l0 k (n : Int) b) (b ++ eb n) := by
  induction n using Nat.strongRecOn with
  | ind n ih =>
    intro b hn hl
    by_cases h : n < 128
    · have e0 : eb n = strOfNums [(n : Int)] := by unfold eb; rw [enc_small h]; rfl
      rw [enc_small h] at hl
      refine Ev.in1 (fun k => ?_)
      simp only [skirmishref04_Uint.l0]
      have e : (n : Int) % 256 = (n : Int) := by omega
      rw [if_neg (by omega), e, e0]
      simp only [Option.bind_some]
      rw [if_pos (by rw [strOfNums_size]; simp at hl ⊢; omega)]
    · have e1 : IntKind.u64.wrap (128 + Int.tmod (n : Int) 128) % 256 = ((128 + n % 128 : Nat) : Int) := by
        rw [w64, Int.tmod_eq_emod_of_nonneg (by omega)]
        omega
      have e2 : IntKind.u64.wrap (Int.tdiv (n : Int) 128) = ((n / 128 : Nat) : Int) := by
        rw [w64, Int.tdiv_eq_ediv_of_nonneg (by omega)]
        omega
      have e0 : eb n = strOfNums [((128 + n % 128 : Nat) : Int)] ++ eb (n / 128) := by
        unfold eb
        rw [enc_big h, ← nums_append]
        rfl
      rw [enc_big h] at hl
      rw [e0, ← ByteArray.append_assoc]
      refine Ev.step1 (ih (n / 128) (by omega) (b ++ strOfNums [((128 + n % 128 : Nat) : Int)]) (by omega) (by rw [ByteArray.size_append, strOfNums_size]; simp at hl ⊢; omega)) (fun k hk => ?_)
      simp only [skirmishref04_Uint.l0]
      rw [if_pos (by omega), e1, e2]
      simp only [Option.bind_some]
      rw [if_pos (by rw [strOfNums_size]; simp at hl ⊢; omega), hk]
theorem ref_uint {n : Nat} (h : n < 18446744073709551616) : Ev (fun k => skirmishref04_Uint.f k (n : Int)) (eb n) := by
  have h0 := ref_uint_l0 n ⟨#[]⟩ h (by have := enc_len10 h; show 0 + _ ≤ _; omega)
  have e : (⟨#[]⟩ : ByteArray) ++ eb n = eb n := by
    apply ByteArray.ext
    simp
  rw [e] at h0
  exact h0

/-! The readers -/
theorem two_seven (i : Nat) : (2 : Nat) ^ (7 * i) = 128 ^ i := by rw [Nat.pow_mul]
theorem or64 (a b i : Nat) (hi : i ≤ 9) (ha : a < 128 ^ i) (hb : b * 128 ^ i < 18446744073709551616) : Go.bits .or .u64 (a : Int) ((b * 128 ^ i : Nat) : Int) = ((a + b * 128 ^ i : Nat) : Int) := by
  have h8 : 128 ^ i ≤ 128 ^ 9 := Nat.pow_le_pow_right (by omega) hi
  have hw : ∀ n : Int, 0 ≤ n → n < 2 ^ 64 → IntKind.u64.wrap n = n := by
    intro n h0 h1
    rw [w64]
    omega
  rw [(bits_nat .u64 64 (by decide) hw a (b * 128 ^ i) (by omega) (by omega)).2, Nat.or_comm]
  rw [← two_seven] at ha ⊢
  rw [Nat.mul_comm b, ← Nat.two_pow_add_eq_or_of_lt ha b, Nat.add_comm]
theorem shl64 (c i : Nat) (hi : i ≤ 9) (hc : c < 128) (h9 : i = 9 → c ≤ 1) : shl .u64 (c : Int) (7 * (i : Int)) = ((c * 128 ^ i : Nat) : Int) ∧ c * 128 ^ i < 18446744073709551616 := by
  have hb : c * 128 ^ i < 18446744073709551616 := by
    by_cases h : i = 9
    · subst h
      have := h9 rfl
      omega
    · have h8 : 128 ^ i ≤ 128 ^ 8 := Nat.pow_le_pow_right (by omega) (by omega)
      have := Nat.mul_le_mul (show c ≤ 127 by omega) h8
      omega
  refine ⟨?_, hb⟩
  unfold shl
  have e : min (7 * (i : Int)).toNat (IntKind.u64.bits) = 7 * i := by
    show min (7 * (i : Int)).toNat 64 = 7 * i
    omega
  rw [e, w64]
  have e2 : ((2 : Int) ^ (7 * i)) = ((128 ^ i : Nat) : Int) := by
    rw [← two_seven]
    simp
  rw [e2]
  have e3 : ((c : Int) * ((128 ^ i : Nat) : Int)) = ((c * 128 ^ i : Nat) : Int) := by simp
  rw [e3]
  omega

/-- A reader's answer, from the place where it began. -/
def out (pos : Nat) (r : Nat × Nat × Int) : Int × Int × Int := if r.2.2 = 0 then ((r.1 : Int), ((pos + r.2.1 : Nat) : Int), 0) else (0, 0, r.2.2)

/-- One byte more. -/
inductive Byte (s : ByteArray) (d i acc pos : Nat) : Nat → Prop
  | mk (c : Nat) : c < 256 → bt s ((pos + i : Nat) : Int) = (c : Int) → (nb s).drop (pos + i) = c :: (nb s).drop (pos + (i + 1)) → Byte s d i acc pos c
theorem grow (i acc c : Nat) (ha : acc < 128 ^ i) : acc + c % 128 * 128 ^ i < 128 ^ (i + 1) := by
  rw [Nat.pow_succ, Nat.mul_comm _ 128]
  have : c % 128 * 128 ^ i ≤ 127 * 128 ^ i := Nat.mul_le_mul_right _ (by omega)
  omega
theorem out_step (pos i d p acc c : Nat) (l : List Nat) (h1 : ¬ (d = 0 ∧ 1 < c)) (h2 : ¬ c < 128) : out (pos + i) (dec (d + 1) p acc (c :: l)) = out (pos + (i + 1)) (dec d (128 * p) (acc + c % 128 * p) l) := by
  rw [dec, if_neg h1, if_neg h2]
  generalize dec d (128 * p) (acc + c % 128 * p) l = x
  obtain ⟨r, n, e⟩ := x
  unfold out
  by_cases h : e = 0
  · subst h
    simp only [if_true]
    rw [show pos + i + (n + 1) = pos + (i + 1) + n by omega]
  · simp only [if_neg h]

end Go.Proofs.Ytbclljolofbfdaa.Pure
