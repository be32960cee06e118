/- The number form: how a number is written in bytes of seven bits, and read from them. Plain arithmetic. -/
import Derived.Test.YteboddabjocpoaaAm6
import Derived.Laws.BitsLemmas
import Derived.IntWalk
set_option linter.all false




namespace Go.Am

theorem wraps_i64 (n : Int) (h0 : 0 ≤ n) (h1 : n < 2 ^ 63) : IntKind.i64.wrap n = n := by rw [IntKind.wrap_i64]; omega

theorem wraps_u64 (n : Int) (h0 : 0 ≤ n) (h1 : n < 2 ^ 64) : IntKind.u64.wrap n = n := by
  simp [IntKind.wrap, IntKind.bits, IntKind.signed]; omega

theorem or_comm (k : IntKind) (x y : Int) : Go.bits .or k x y = Go.bits .or k y x := by
  simp [Go.bits, BitVec.or_comm]

theorem and_mask64 (x : Int) (h0 : 0 ≤ x) (h1 : x < 2 ^ 64) : Go.bits .and .u64 x 127 = x % 128 :=
  Go.bits_mask .u64 64 (by decide) wraps_u64 7 (by decide) x h0 h1

theorem and_mask (x : Int) (h0 : 0 ≤ x) (h1 : x < 2 ^ 63) : Go.bits .and .i64 x 127 = x % 128 :=
  Go.bits_mask .i64 63 (by decide) wraps_i64 7 (by decide) x h0 h1

theorem or128 (x : Int) (h0 : 0 ≤ x) (h1 : x < 128) : Go.bits .or .u64 x 128 = x + 128 := by
  rw [or_comm, Go.bits_join .u64 64 (by decide) wraps_u64 7 128 x (by decide) (by decide) (by decide) h0 (by simpa using h1) (by omega)]
  omega

theorem and255 (x : Int) : 0 ≤ Go.bits .and .i64 x 255 ∧ Go.bits .and .i64 x 255 ≤ 255 := by
  simp only [Go.bits]
  have h : ((BitVec.ofInt 64 x &&& BitVec.ofInt 64 255).toNat : Nat) ≤ 255 := by
    rw [BitVec.toNat_and]
    exact Nat.le_trans Nat.and_le_right (by decide)
  have e : IntKind.i64.bits = 64 := rfl
  rw [e]
  rw [wraps_i64 _ (by omega) (by omega)]
  omega

def enc (n : Nat) : List Int := if _h : n > 127 then ((n % 128 + 128 : Nat) : Int) :: enc (n / 128) else [(n : Int)]
  termination_by n
  decreasing_by omega

theorem enc_big {n : Nat} (h : n > 127) : enc n = ((n % 128 + 128 : Nat) : Int) :: enc (n / 128) := by
  rw [enc]; simp [h]

theorem enc_small {n : Nat} (h : ¬ n > 127) : enc n = [(n : Int)] := by
  rw [enc]; simp [h]

theorem enc_len (j : Nat) : ∀ n, n < 128 ^ (j + 1) → (enc n).length ≤ j + 1 := by
  induction j with
  | zero => intro n h; rw [enc_small (by omega)]; simp
  | succ j ih =>
    intro n h
    by_cases hn : n > 127
    · rw [enc_big hn]
      have := ih (n / 128) (by rw [Nat.pow_succ] at h; omega)
      simp; omega
    · rw [enc_small hn]; simp

theorem enc_range (n : Nat) : ∀ x ∈ enc n, 0 ≤ x ∧ x ≤ 255 := by
  induction n using Nat.strongRecOn with
  | _ n ih =>
    intro x hx
    by_cases hn : n > 127
    · rw [enc_big hn] at hx
      rcases List.mem_cons.1 hx with rfl | h
      · omega
      · exact ih (n / 128) (by omega) x h
    · rw [enc_small hn] at hx
      simp at hx; omega

def zig (x : Int) : Nat := if x < 0 then (-2 * x - 1).toNat else (2 * x).toNat

def pack (x : Int) : List Int := if x < -4611686018427387904 ∨ 4611686018427387904 ≤ x then [] else enc (zig x)

theorem zig_lt {x : Int} (h0 : ¬ (x < -4611686018427387904 ∨ 4611686018427387904 ≤ x)) : zig x < 2 ^ 63 := by
  unfold zig; split <;> omega

theorem enc_len9 {n : Nat} (h : n < 2 ^ 63) : (enc n).length ≤ 9 := enc_len 8 n (by omega)

def Bytes (l : List Int) : Prop := ∀ x ∈ l, 0 ≤ x ∧ x ≤ 255

theorem getD_in (l : List Int) (d : Int) {i : Nat} (h : i < l.length) : l.getD i d = l[i] := by
  rw [List.getD_eq_getElem?_getD, List.getElem?_eq_getElem h]; rfl

def dc (first : Bool) : Nat → List Int → Option (List Int × Int)
  | 0, _ => none
  | _ + 1, [] => none
  | d + 1, v :: l => if v > 127 then (dc false d l).map (fun p => (v :: p.1, p.2)) else if v = 0 ∧ first = false then none else some ([], v)

def val : List Int → Int → Int
  | [], v => v
  | c :: cs, v => (c - 128) + 128 * val cs v

def unzig (n : Int) : Int := if n % 2 = 1 then -(n / 2) - 1 else n / 2

def told (at_ n : Int) (i : Nat) : Option (List Int × Int) → Int × Int × Bool
  | none => (0, 0, false)
  | some (cs, v) => (unzig (n + 128 ^ i * val cs v), at_ + i + cs.length + 1, true)

theorem dc_val (d : Nat) : ∀ (first : Bool) (l : List Int), Bytes l → ∀ cs v, dc first d l = some (cs, v) →
    l.take (cs.length + 1) = cs ++ [v] ∧ cs.length < d ∧ cs.length < l.length ∧ 0 ≤ v ∧ v ≤ 127 ∧ (v = 0 → first = true ∧ cs = []) ∧ 0 ≤ val cs v ∧ val cs v < 128 ^ (cs.length + 1) ∧ (first = false → 0 < val cs v) ∧ enc (val cs v).toNat = cs ++ [v] := by
  induction d with
  | zero => intro first l _ cs v h; cases h
  | succ d ih =>
    intro first l hl cs v h
    cases l with
    | nil => cases h
    | cons c l =>
      have hc := hl c (by simp)
      simp only [dc] at h
      by_cases h1 : c > 127
      · rw [if_pos h1] at h
        obtain ⟨⟨cs', v'⟩, h', he⟩ := Option.map_eq_some_iff.1 h
        simp at he
        obtain ⟨rfl, rfl⟩ := he
        obtain ⟨a1, a2, a3, a4, a5, a6, a7, a8, a9, a10⟩ := ih false l (fun x hx => hl x (by simp [hx])) cs' v' h'
        have hv := a9 rfl
        have hpow : (128 : Int) ^ (cs'.length + 1 + 1) = 128 * 128 ^ (cs'.length + 1) := by rw [Int.pow_succ]; omega
        refine ⟨by simpa using a1, by simp; omega, by simp; omega, a4, a5, fun h0 => ?_, ?_, ?_, fun _ => ?_, ?_⟩
        · exact absurd (a6 h0).1 (by simp)
        · simp only [val]; omega
        · simp only [val, List.length_cons, hpow]; omega
        · simp only [val]; omega
        · simp only [val]
          rw [enc_big (by omega)]
          have e1 : (c - 128 + 128 * val cs' v').toNat / 128 = (val cs' v').toNat := by omega
          have e2 : ((((c - 128 + 128 * val cs' v').toNat % 128 + 128 : Nat)) : Int) = c := by omega
          rw [e1, e2, a10]; rfl
      · rw [if_neg h1] at h
        by_cases h2 : c = 0 ∧ first = false
        · rw [if_pos h2] at h; cases h
        · rw [if_neg h2] at h
          simp at h
          obtain ⟨rfl, rfl⟩ := h
          refine ⟨by simp, by simp, by simp, hc.1, by omega, fun h0 => ⟨?_, rfl⟩, by simp [val]; omega, by simp [val]; omega, fun hf => ?_, ?_⟩
          · cases first with
            | true => rfl
            | false => exact absurd ⟨h0, rfl⟩ h2
          · simp only [val]
            have : c ≠ 0 := fun h0 => h2 ⟨h0, hf⟩
            omega
          · simp only [val, List.nil_append]
            rw [enc_small (by omega)]
            congr 1; omega

theorem pow7 (i : Nat) : (2 : Int) ^ (7 * i) = 128 ^ i := by
  rw [Int.pow_mul]; rfl

theorem join7 (n v : Int) (i : Nat) (hi : i ≤ 8) (hn0 : 0 ≤ n) (hn : n < 128 ^ i) (h0 : 0 ≤ v) (h1 : v ≤ 127) : Go.bits .or .i64 n (v * 128 ^ i) = n + v * 128 ^ i := by
  have hp : (128 : Int) ^ i ≤ 128 ^ 8 := by
    have := Nat.pow_le_pow_right (n := 128) (by decide) hi
    exact_mod_cast this
  have hp0 : (0 : Int) < 128 ^ i := Int.pow_pos (by decide)
  have hv : v * 128 ^ i ≤ 127 * 128 ^ 8 := Int.mul_le_mul h1 hp (by omega) (by decide)
  rw [or_comm, Go.bits_join .i64 63 (by decide) wraps_i64 (7 * i) (v * 128 ^ i) n (Int.mul_nonneg h0 (by omega)) (by rw [pow7]; exact Int.mul_emod_left _ _) (by omega) hn0 (by rw [pow7]; exact hn) (by omega)]
  omega

theorem unzig_range {n : Int} (h0 : 0 ≤ n) (h1 : n < 2 ^ 63) : -4611686018427387904 ≤ unzig n ∧ unzig n < 4611686018427387904 := by
  unfold unzig; split <;> omega

def unpacked (b : List Int) (at_ : Int) : Int × Int × Bool := if at_ < 0 ∨ (b.length : Int) ≤ at_ then (0, 0, false) else told at_ 0 0 (dc true 9 (b.drop at_.toNat))

theorem dc_enc (n : Nat) : ∀ (first : Bool) (d : Nat), (enc n).length ≤ d → (first = false → 0 < n) → ∃ cs v, dc first d (enc n) = some (cs, v) ∧ val cs v = n ∧ cs.length + 1 = (enc n).length := by
  induction n using Nat.strongRecOn with
  | _ n ih =>
    intro first d hd hf
    by_cases hn : n > 127
    · have hd' := hd
      rw [enc_big hn] at hd' ⊢
      simp at hd'
      obtain ⟨d, rfl⟩ : ∃ d', d = d' + 1 := ⟨d - 1, by omega⟩
      obtain ⟨cs, v, h1, h2, h3⟩ := ih (n / 128) (by omega) false d (by omega) (fun _ => by omega)
      refine ⟨((n % 128 + 128 : Nat) : Int) :: cs, v, ?_, ?_, by simp; omega⟩
      · simp only [dc]; rw [if_pos (by omega), h1]; rfl
      · simp only [val, h2]; omega
    · have hd' := hd
      rw [enc_small hn] at hd' ⊢
      simp at hd'
      obtain ⟨d, rfl⟩ : ∃ d', d = d' + 1 := ⟨d - 1, by omega⟩
      refine ⟨[], n, ?_, rfl, rfl⟩
      simp only [dc]; rw [if_neg (by omega), if_neg]
      rintro ⟨a, c⟩
      have := hf c
      omega

theorem unzig_zig {x : Int} : unzig (zig x : Int) = x := by
  unfold unzig zig; split <;> split at * <;> omega

theorem zig_unzig {n : Int} (h : 0 ≤ n) : zig (unzig n) = n.toNat := by
  unfold unzig zig; split <;> split at * <;> omega

theorem pack_bytes (x : Int) : Bytes (pack x) := by
  unfold pack; split
  · intro y hy; cases hy
  · exact enc_range _

theorem pack_len (x : Int) : (pack x).length ≤ 9 := by
  unfold pack; split
  · simp
  · exact enc_len9 (zig_lt ‹_›)

theorem unpack_pack (x : Int) : unpacked (pack x) 0 = if (pack x).length > 0 then (x, ((pack x).length : Int), true) else (0, 0, false) := by
  unfold unpacked pack
  by_cases h : x < -4611686018427387904 ∨ 4611686018427387904 ≤ x
  · simp [h]
  · simp only [if_neg h]
    have hz := zig_lt h
    obtain ⟨cs, v, h1, h2, h3⟩ := dc_enc (zig x) true 9 (enc_len9 hz) (by simp)
    rw [if_neg (by omega), if_pos (by omega)]
    simp only [Int.toNat_zero, List.drop_zero, h1, told, h2]
    rw [Int.pow_zero, show (0 : Int) + 1 * (zig x : Int) = (zig x : Int) from by omega, unzig_zig]
    congr 2
    omega

theorem pack_unpack (b : List Int) (hb : Bytes b) (at_ z e : Int) (h : unpacked b at_ = (z, e, true)) : 0 ≤ at_ ∧ at_ < e ∧ e ≤ b.length ∧ pack z = (b.take e.toNat).drop at_.toNat := by
  unfold unpacked at h
  by_cases hr : at_ < 0 ∨ (b.length : Int) ≤ at_
  · rw [if_pos hr] at h; simp at h
  · rw [if_neg hr] at h
    cases hd : dc true 9 (b.drop at_.toNat) with
    | none => rw [hd] at h; simp [told] at h
    | some p =>
      obtain ⟨cs, v⟩ := p
      rw [hd] at h
      obtain ⟨a1, a2, a3, a4, a5, a6, a7, a8, a9, a10⟩ := dc_val 9 true _ (fun x hx => hb x (List.mem_of_mem_drop hx)) cs v hd
      simp only [told, Prod.mk.injEq] at h
      obtain ⟨rfl, rfl, _⟩ := h
      rw [List.length_drop] at a3
      have hp : (128 : Int) ^ (cs.length + 1) ≤ 128 ^ 9 := by
        have := Nat.pow_le_pow_right (n := 128) (by decide) (show cs.length + 1 ≤ 9 by omega)
        exact_mod_cast this
      refine ⟨by omega, by omega, by omega, ?_⟩
      rw [Int.pow_zero, show (0 : Int) + 1 * val cs v = val cs v from by omega]
      have hu := unzig_range a7 (show val cs v < 2 ^ 63 by omega)
      unfold pack
      rw [if_neg (by omega), zig_unzig a7, a10, ← a1, List.drop_take]
      congr 1
      omega

theorem unpacked_or (b : List Int) (at_ : Int) : (∃ z e, unpacked b at_ = (z, e, true)) ∨ unpacked b at_ = (0, 0, false) := by
  unfold unpacked
  split
  · exact .inr rfl
  · cases dc true 9 (b.drop at_.toNat) with
    | none => exact .inr rfl
    | some p => exact .inl ⟨_, _, rfl⟩

end Go.Am
