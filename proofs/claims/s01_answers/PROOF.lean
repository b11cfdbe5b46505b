import PyProof.Rows.All
import Wide.All
import OpenK.AllK
import Wide.FinOn
import Open.SpecLaws
import KE.OsGo
import KE.BitLaws
import HandS.ForSpec
import HandS.ForMost
import HandS.Style
import HandS.CallLocal
import PyWideLaws
import PySem.Challenge.RW_framecard_s01_answers
set_option Elab.async false
set_option linter.all false
set_option maxRecDepth 100000
set_option maxHeartbeats 2000000
/-! Framecard: the mathematics. Plain Lean over the specification's own functions; no program here. -/
namespace FC
/-- all are bytes -/
def Oct (b : List Nat) : Prop := ∀ x ∈ b, x < 256
theorem Oct.nil : Oct [] := fun _ h => by simp at h
theorem Oct.take {b : List Nat} (h : Oct b) (n : Nat) : Oct (b.take n) := fun x m => h x (List.mem_of_mem_take m)
theorem Oct.drop {b : List Nat} (h : Oct b) (n : Nat) : Oct (b.drop n) := fun x m => h x (List.mem_of_mem_drop m)
theorem Oct.app {a b : List Nat} (ha : Oct a) (hb : Oct b) : Oct (a ++ b) := fun x m => (List.mem_append.mp m).elim (ha x) (hb x)

/-! ### the folding -/
theorem folded_lt {f n : Nat} (h : n < 65536) : Sj51.folded f n = n := by
  cases f with
  | zero => rfl
  | succ f =>
    show (if n < 65536 then n else _) = n
    rw [if_pos h]
theorem folded_ge {f n : Nat} (h : ¬ n < 65536) : Sj51.folded (f + 1) n = Sj51.folded f (n / 65536 + n % 65536) := by
  show (if n < 65536 then n else _) = _
  rw [if_neg h]
theorem fold_small {n : Nat} (h : n < 4294967296) : Sj51.fold n < 65536 := by
  unfold Sj51.fold
  by_cases h1 : n < 65536
  · rw [folded_lt h1]
    exact h1
  · rw [folded_ge h1]
    by_cases h2 : n / 65536 + n % 65536 < 65536
    · rw [folded_lt h2]
      exact h2
    · rw [folded_ge h2, folded_lt (by omega)]
      omega
theorem folded_step {f m : Nat} (h : ¬ m < 65536) (hl : Sj51.folded f m < 65536) : ∃ g, Sj51.folded g (m / 65536 + m % 65536) = Sj51.folded f m := by
  cases f with
  | zero => exact absurd hl h
  | succ g => exact ⟨g, (folded_ge h).symm⟩

/-! ### words -/
def wsum (b : List Nat) : Nat := (Sj51.words b).foldr (fun a b => a + b) 0
theorem sum_eq (b : List Nat) : Sj51.sum b = Sj51.fold (wsum b) := rfl
theorem wsum_nil : wsum [] = 0 := rfl
theorem words_at {b : List Nat} {i : Nat} (h : i < b.length) : Sj51.words (b.drop i) = (256 * b.getD i 0 + b.getD (i + 1) 0) :: Sj51.words (b.drop (i + 2)) := by
  rw [List.drop_eq_getElem_cons h]
  have e1 : b.getD i 0 = b[i] := by simp [List.getD, h]
  by_cases h2 : i + 1 < b.length
  · rw [List.drop_eq_getElem_cons h2]
    have e2 : b.getD (i + 1) 0 = b[i + 1] := by simp [List.getD, h2]
    rw [e1, e2]
    rfl
  · have e3 : b.drop (i + 1) = [] := List.drop_eq_nil_of_le (by omega)
    have e4 : b.drop (i + 2) = [] := List.drop_eq_nil_of_le (by omega)
    have e2 : b.getD (i + 1) 0 = 0 := by
      have : b[i + 1]? = none := List.getElem?_eq_none (by omega)
      simp [List.getD, this]
    rw [e3, e4, e1, e2]
    rfl
theorem wsum_at {b : List Nat} {i : Nat} (h : i < b.length) : wsum (b.drop i) = (256 * b.getD i 0 + b.getD (i + 1) 0) + wsum (b.drop (i + 2)) := by
  unfold wsum
  rw [words_at h]
  rfl
theorem oct_getD {b : List Nat} (h : Oct b) (i : Nat) : b.getD i 0 < 256 := by
  by_cases hi : i < b.length
  · have e : b.getD i 0 = b[i] := by simp [List.getD, hi]
    rw [e]
    exact h _ (List.getElem_mem hi)
  · have : b[i]? = none := List.getElem?_eq_none (by omega)
    simp [List.getD, this]
theorem wsum_le (b : List Nat) (h : Oct b) : wsum b ≤ 65535 * b.length := by
  have key : ∀ (n i : Nat), b.length - i ≤ n → wsum (b.drop i) ≤ 65535 * n := by
    intro n
    induction n using Nat.strongRecOn with
    | ind n ih =>
      intro i hn
      by_cases hi : i < b.length
      · rw [wsum_at hi]
        have h1 := oct_getD h i
        have h2 := oct_getD h (i + 1)
        by_cases hn2 : 2 ≤ n
        · have := ih (n - 2) (by omega) (i + 2) (by omega)
          omega
        · have : b.drop (i + 2) = [] := List.drop_eq_nil_of_le (by omega)
          rw [this, wsum_nil]
          omega
      · have : b.drop i = [] := List.drop_eq_nil_of_le (by omega)
        rw [this, wsum_nil]
        omega
  have := key b.length 0 (by omega)
  simpa using this
theorem wsum_small {b : List Nat} (h : Oct b) (hl : b.length ≤ 10000) : wsum b < 4294967296 := by
  have := wsum_le b h
  omega
theorem sum_small {b : List Nat} (h : Oct b) (hl : b.length ≤ 10000) : Sj51.sum b < 65536 := fold_small (wsum_small h hl)

/-! ### bytes of numbers -/
theorem high_succ : ∀ (n v : Nat), Sj51.high (n + 1) v = (v / 256 ^ n % 256) :: Sj51.high n v
  | 0, v => by
    show [] ++ [v % 256] = _
    simp [Sj51.high]
  | n + 1, v => by
    show Sj51.high (n + 1) (v / 256) ++ [v % 256] = _
    rw [high_succ n (v / 256), Nat.div_div_eq_div_mul]
    show (v / (256 * 256 ^ n) % 256) :: (Sj51.high n (v / 256) ++ [v % 256]) = (v / 256 ^ (n + 1) % 256) :: (Sj51.high n (v / 256) ++ [v % 256])
    rw [Nat.pow_succ, Nat.mul_comm]
theorem low_rev : ∀ (n v : Nat), Sj51.low n v = (Sj51.high n v).reverse
  | 0, _ => rfl
  | n + 1, v => by
    show v % 256 :: Sj51.low n (v / 256) = (Sj51.high n (v / 256) ++ [v % 256]).reverse
    rw [low_rev n, List.reverse_append]
    rfl
theorem high_len : ∀ (n v : Nat), (Sj51.high n v).length = n
  | 0, _ => rfl
  | n + 1, v => by
    show (Sj51.high n (v / 256) ++ [v % 256]).length = n + 1
    rw [List.length_append, high_len n]
    rfl
theorem low_len (n v : Nat) : (Sj51.low n v).length = n := by rw [low_rev, List.length_reverse, high_len]
theorem high_oct : ∀ (n v : Nat), Oct (Sj51.high n v)
  | 0, _ => Oct.nil
  | n + 1, v => by
    show Oct (Sj51.high n (v / 256) ++ [v % 256])
    refine (high_oct n _).app fun x m => ?_
    rw [List.mem_singleton.mp m]
    exact Nat.mod_lt _ (by decide)
theorem low_oct (n v : Nat) : Oct (Sj51.low n v) := by
  rw [low_rev]
  exact fun x m => high_oct n v x (List.mem_reverse.mp m)
theorem ofHigh_snoc (l : List Nat) (x : Nat) : Sj51.ofHigh (l ++ [x]) = 256 * Sj51.ofHigh l + x := by
  unfold Sj51.ofHigh
  rw [List.foldl_append]
  rfl
theorem high_ofHigh : ∀ (n : Nat) (l : List Nat), l.length = n → Oct l → Sj51.high n (Sj51.ofHigh l) = l
  | 0, l, h, _ => by
    have e : l = [] := List.length_eq_zero_iff.mp h
    rw [e]
    rfl
  | n + 1, l, h, ho => by
    have hne : l ≠ [] := fun e => by rw [e] at h; simp at h
    have e : l = l.dropLast ++ [l.getLast hne] := (List.dropLast_concat_getLast hne).symm
    have hx : l.getLast hne < 256 := ho _ (List.getLast_mem hne)
    have ho' : Oct l.dropLast := fun x m => ho x (List.dropLast_subset l m)
    have ih := high_ofHigh n l.dropLast (by rw [List.length_dropLast, h]; rfl) ho'
    have e2 : Sj51.ofHigh l = 256 * Sj51.ofHigh l.dropLast + l.getLast hne := by
      conv => lhs; rw [e]
      exact ofHigh_snoc _ _
    show Sj51.high n (Sj51.ofHigh l / 256) ++ [Sj51.ofHigh l % 256] = l
    rw [e2, show (256 * Sj51.ofHigh l.dropLast + l.getLast hne) / 256 = Sj51.ofHigh l.dropLast by omega, show (256 * Sj51.ofHigh l.dropLast + l.getLast hne) % 256 = l.getLast hne by omega, ih]
    exact e.symm
theorem ofHigh_two (a b : Nat) : Sj51.ofHigh [a, b] = 256 * a + b := by
  show 256 * (256 * 0 + a) + b = _
  omega
theorem high_two (a b : Nat) (ha : a < 256) (hb : b < 256) : Sj51.high 2 (256 * a + b) = [a, b] := by
  have := high_ofHigh 2 [a, b] rfl (fun x m => by
    rcases List.mem_cons.mp m with e | m
    · rw [e]; exact ha
    · rw [List.mem_singleton.mp m]; exact hb)
  rw [ofHigh_two] at this
  exact this
theorem ofHigh_lt : ∀ (n : Nat) (l : List Nat), l.length = n → Oct l → Sj51.ofHigh l < 256 ^ n
  | 0, l, h, _ => by
    rw [List.length_eq_zero_iff.mp h]
    decide
  | n + 1, l, h, ho => by
    have hne : l ≠ [] := fun e => by rw [e] at h; simp at h
    have e : l = l.dropLast ++ [l.getLast hne] := (List.dropLast_concat_getLast hne).symm
    have hx : l.getLast hne < 256 := ho _ (List.getLast_mem hne)
    have ih := ofHigh_lt n l.dropLast (by rw [List.length_dropLast, h]; rfl) (fun x m => ho x (List.dropLast_subset l m))
    have e2 : Sj51.ofHigh l = 256 * Sj51.ofHigh l.dropLast + l.getLast hne := by
      conv => lhs; rw [e]
      exact ofHigh_snoc _ _
    rw [e2, Nat.pow_succ]
    omega

/-! ### frames -/
/-- a row of bytes and its rest -/
def withRest (b : List Nat) : List Nat := b ++ Sj51.low 4 (Sj51.crc b)
theorem withRest_len (b : List Nat) : (withRest b).length = b.length + 4 := by
  unfold withRest
  rw [List.length_append, low_len]
theorem withRest_oct {b : List Nat} (h : Oct b) : Oct (withRest b) := h.app (low_oct _ _)
theorem headOf_len (h : Sj51.Head) (s : Nat) : (Sj51.headOf h s).length = 12 := by
  unfold Sj51.headOf
  simp [high_len]
theorem headOf_oct {h : Sj51.Head} {s : Nat} (hm : h.marks < 256) (hh : h.hops < 256) : Oct (Sj51.headOf h s) := by
  unfold Sj51.headOf
  refine ((((high_oct _ _).app (high_oct _ _)).app (high_oct _ _)).app fun x m => ?_).app (high_oct _ _)
  rcases List.mem_cons.mp m with e | m
  · rw [e]; exact hm
  · rw [List.mem_singleton.mp m]; exact hh
theorem frame_eq (h : Sj51.Head) (l : List Nat) : Sj51.frame h l = withRest (Sj51.headOf h (Sj51.check (Sj51.headOf h 0 ++ l)) ++ l) := rfl
theorem frame_len (h : Sj51.Head) (l : List Nat) : (Sj51.frame h l).length = l.length + 16 := by
  rw [frame_eq, withRest_len, List.length_append, headOf_len]
  omega
theorem rest_iff {f : List Nat} (h : 4 ≤ f.length) : withRest (f.take (f.length - 4)) = f ↔ f.drop (f.length - 4) = Sj51.low 4 (Sj51.crc (f.take (f.length - 4))) := by
  constructor
  · intro e
    have e2 : (withRest (f.take (f.length - 4))).drop (f.length - 4) = f.drop (f.length - 4) := by
      conv => rhs; rw [← e]
      rw [withRest_len, List.length_take, Nat.min_eq_left (by omega), show f.length - 4 + 4 - 4 = f.length - 4 by omega]
    rw [← e2]
    unfold withRest
    rw [List.drop_append, List.drop_eq_nil_of_le (by rw [List.length_take]; omega), List.length_take, Nat.min_eq_left (by omega), Nat.sub_self]
    rfl
  · intro e
    unfold withRest
    rw [← e, List.take_append_drop]

/-! ### a message in parts -/
/-- how many parts -/
def parts (m n : Nat) : Nat := (n + m - 1) / m
def part (m : Nat) (l : List Nat) (i : Nat) : List Nat := (l.drop (i * m)).take m
theorem parts_one {m n : Nat} (hm : 0 < m) (h1 : 1 ≤ n) (h2 : n ≤ m) : parts m n = 1 := by
  unfold parts
  refine Nat.div_eq_of_lt_le ?_ ?_
  · omega
  · have : (1 + 1) * m = m + m := by omega
    omega
theorem parts_more {m n : Nat} (hm : 0 < m) (h : m < n) : parts m n = parts m (n - m) + 1 := by
  unfold parts
  rw [show n + m - 1 = (n - m + m - 1) + m by omega, Nat.add_div_right _ hm]
theorem parted_eq {m : Nat} (hm : 0 < m) : ∀ (f : Nat) (l : List Nat), 1 ≤ l.length → l.length < f → Sj51.parted m f l = (List.range (parts m l.length)).map (part m l)
  | 0, _, _, h => by omega
  | f + 1, l, h1, h2 => by
    show (if l.length ≤ m then [l] else l.take m :: Sj51.parted m f (l.drop m)) = _
    by_cases c : l.length ≤ m
    · rw [if_pos c, parts_one hm h1 c]
      show [l] = [part m l 0]
      unfold part
      rw [Nat.zero_mul, List.drop_zero, List.take_of_length_le c]
    · rw [if_neg c, parts_more hm (by omega), List.range_succ_eq_map, List.map_cons, List.map_map]
      have ih := parted_eq hm f (l.drop m) (by rw [List.length_drop]; omega) (by rw [List.length_drop]; omega)
      rw [ih, List.length_drop]
      have e0 : part m l 0 = l.take m := by
        unfold part
        rw [Nat.zero_mul, List.drop_zero]
      rw [e0]
      refine congrArg (List.cons (l.take m)) ?_
      refine List.map_congr_left fun i _ => ?_
      show ((l.drop m).drop (i * m)).take m = (l.drop ((i + 1) * m)).take m
      rw [List.drop_drop, Nat.succ_mul, Nat.add_comm]
/-- the i-th frame of a message -/
def cutAt (m flow place hops : Nat) (l : List Nat) (i : Nat) : List Nat :=
  Sj51.frame ⟨flow, (place + m * i) % 2 ^ 32, (part m l i).length, (if i = 0 then 1 else 0) + (if i + 1 = parts m l.length then 2 else 0), hops⟩ (part m l i)
theorem cut_eq {m flow place hops : Nat} {l : List Nat} (hm : 0 < m) (h1 : 1 ≤ l.length) : Sj51.cut m flow place hops l = (List.range (parts m l.length)).map (cutAt m flow place hops l) := by
  unfold Sj51.cut
  rw [parted_eq hm (l.length + 1) l h1 (by omega)]
  refine List.ext_getElem (by simp) fun i h1 h2 => ?_
  simp only [List.getElem_map, List.getElem_zipIdx, List.getElem_range, List.length_map, List.length_range, Nat.zero_add]
  rfl
theorem cut_len {m flow place hops : Nat} {l : List Nat} (hm : 0 < m) (h1 : 1 ≤ l.length) : (Sj51.cut m flow place hops l).length = parts m l.length := by
  rw [cut_eq hm h1, List.length_map, List.length_range]
theorem parts_lt {m n i : Nat} (hm : 0 < m) : i < parts m n ↔ i * m < n := by
  unfold parts
  rw [Nat.lt_div_iff_mul_lt hm]
  omega
/-- the last part is the one behind which none begins -/
theorem parts_last {m n i : Nat} (hm : 0 < m) (hi : i * m < n) : i + 1 = parts m n ↔ n ≤ i * m + m := by
  have h1 := (parts_lt (m := m) (n := n) (i := i) hm).mpr hi
  have h2 := parts_lt (m := m) (n := n) (i := i + 1) hm
  rw [Nat.succ_mul] at h2
  constructor
  · intro e
    have : ¬ i + 1 < parts m n := by omega
    rw [h2] at this
    omega
  · intro e
    have : ¬ i + 1 < parts m n := fun z => by
      have := h2.mp z
      omega
    omega
end FC

/-! Framecard: the house, the joining, the calls. Plain Lean. -/
namespace FC
open Sj51
/-! ### what is held -/
def without (hd : List Held) (w : Nat) : List Held := hd.filter fun x => x.flow != w
def look (hd : List Held) (w : Nat) : Option Held := hd.find? fun x => x.flow == w
theorem look_some {hd : List Held} {w : Nat} {x : Held} (h : look hd w = some x) : x ∈ hd ∧ x.flow = w :=
  ⟨List.mem_of_find?_eq_some h, by have := List.find?_some h; exact eq_of_beq this⟩
theorem look_none {hd : List Held} {w : Nat} (h : look hd w = none) : ∀ x ∈ hd, x.flow ≠ w := fun x m e => by
  have := List.find?_eq_none.mp h x m
  simp [e] at this
theorem without_none {hd : List Held} {w : Nat} (h : look hd w = none) : without hd w = hd := by
  unfold without
  refine List.filter_eq_self.mpr fun x m => ?_
  have := look_none h x m
  simp [this]
theorem without_len : ∀ {hd : List Held} {w : Nat} {x : Held}, (hd.map (·.flow)).Nodup → look hd w = some x → (without hd w).length + 1 = hd.length
  | [], w, x, _, h => by cases h
  | y :: r, w, x, nd, h => by
    have nd' : (y.flow :: r.map (·.flow)).Nodup := nd
    obtain ⟨h1, h2⟩ := List.nodup_cons.mp nd'
    by_cases e : y.flow = w
    · have e0 : look r w = none := by
        refine List.find?_eq_none.mpr fun z m hz => h1 ?_
        have : z.flow = w := eq_of_beq hz
        rw [e, ← this]
        exact List.mem_map.mpr ⟨z, m, rfl⟩
      have e1 : without (y :: r) w = without r w := by
        unfold without
        rw [List.filter_cons, if_neg (by simp [e])]
      rw [e1, without_none e0]
      rfl
    · have e0 : look r w = some x := by
        have h' : List.find? (fun x => x.flow == w) (y :: r) = some x := h
        rw [List.find?_cons, show (y.flow == w) = false from beq_eq_false_iff_ne.mpr e] at h'
        exact h'
      have e1 : without (y :: r) w = y :: without r w := by
        unfold without
        rw [List.filter_cons, if_pos (by simp [e])]
      rw [e1, List.length_cons, List.length_cons, without_len h2 e0]
theorem look_without : ∀ (hd : List Held) (w w' : Nat), look (without hd w) w' = if w' = w then none else look hd w'
  | [], w, w' => by
    show none = _
    split <;> rfl
  | y :: r, w, w' => by
    have ih := look_without r w w'
    by_cases e : y.flow = w
    · have e1 : without (y :: r) w = without r w := by
        unfold without
        rw [List.filter_cons, if_neg (by simp [e])]
      rw [e1, ih]
      by_cases e2 : w' = w
      · rw [if_pos e2, if_pos e2]
      · rw [if_neg e2, if_neg e2]
        unfold look
        rw [List.find?_cons, show (y.flow == w') = false from beq_eq_false_iff_ne.mpr fun z => e2 (z ▸ e)]
    · have e1 : without (y :: r) w = y :: without r w := by
        unfold without
        rw [List.filter_cons, if_pos (by simp [e])]
      rw [e1]
      by_cases e2 : y.flow = w'
      · have e3 : ¬ w' = w := fun z => e (e2.trans z)
        rw [if_neg e3]
        unfold look
        rw [List.find?_cons, List.find?_cons, show (y.flow == w') = true from beq_iff_eq.mpr e2]
      · have hb : (y.flow == w') = false := beq_eq_false_iff_ne.mpr e2
        have e4 : look (y :: without r w) w' = look (without r w) w' := by
          unfold look
          rw [List.find?_cons, hb]
        have e5 : look (y :: r) w' = look r w' := by
          unfold look
          rw [List.find?_cons, hb]
        rw [e4, e5, ih]
theorem look_snoc {hd : List Held} {x : Held} {w' : Nat} : look (without hd x.flow ++ [x]) w' = if w' = x.flow then some x else look hd w' := by
  unfold look
  rw [List.find?_append]
  have h := look_without hd x.flow w'
  unfold look at h
  rw [h]
  by_cases e : w' = x.flow
  · rw [if_pos e, if_pos e]
    rw [Option.none_or, List.find?_cons, show (x.flow == w') = true from beq_iff_eq.mpr e.symm]
  · rw [if_neg e, if_neg e]
    have : List.find? (fun y => y.flow == w') [x] = none := by
      rw [List.find?_cons, show (x.flow == w') = false from beq_eq_false_iff_ne.mpr fun z => e z.symm]
      rfl
    rw [this, Option.or_none]
theorem without_nd {hd : List Held} {w : Nat} (nd : (hd.map (·.flow)).Nodup) : ((without hd w).map (·.flow)).Nodup :=
  List.Nodup.sublist (List.Sublist.map _ List.filter_sublist) nd
theorem snoc_nd {hd : List Held} {x : Held} (nd : (hd.map (·.flow)).Nodup) : ((without hd x.flow ++ [x]).map (·.flow)).Nodup := by
  rw [List.map_append]
  refine List.nodup_append.mpr ⟨without_nd nd, by simp, fun a ha b hb => ?_⟩
  obtain ⟨y, hy, ey⟩ := List.mem_map.mp ha
  have : b = x.flow := by simpa using hb
  have h2 := (List.mem_filter.mp hy).2
  intro e
  rw [this, ← ey] at e
  simp [e] at h2
theorem without_mem {hd : List Held} {w : Nat} {x : Held} (h : x ∈ without hd w) : x ∈ hd := (List.mem_filter.mp h).1
theorem without_le (hd : List Held) (w : Nat) : (without hd w).length ≤ hd.length := List.length_filter_le _ _
theorem any_look {hd : List Held} {w : Nat} : (hd.any fun x => x.flow == w) = (look hd w).isSome := by
  unfold look
  induction hd with
  | nil => rfl
  | cons y r ih =>
    rw [List.any_cons, List.find?_cons, ih]
    cases (y.flow == w) <;> rfl

/-! ### a house that is as it may be -/
structure Good (h : House) : Prop where
  size1 : 16 ≤ h.size
  size2 : h.size ≤ 1024
  hops : h.hops ≤ 255
  ready : h.ready.length ≤ 64
  frames : ∀ f ∈ h.ready, f.length ≤ 1040
  nd : (h.held.map (·.flow)).Nodup
  few : h.held.length ≤ 8
  bytes : ∀ x ∈ h.held, x.bytes.length ≤ 4096
  cnt : h.counts.length = 3
  last : ∀ l, h.last = some l → l.length ≤ 4096
theorem good_new {m t : Int} (hm : isIn 16 1024 m = true) (ht : isIn 0 255 t = true) : Good ⟨m.toNat, t.toNat, [], [], List.replicate 3 0, none⟩ := by
  unfold isIn at hm ht
  rw [Bool.and_eq_true] at hm ht
  have h1 := of_decide_eq_true hm.1
  have h2 := of_decide_eq_true hm.2
  have h3 := of_decide_eq_true ht.1
  have h4 := of_decide_eq_true ht.2
  refine ⟨?_, ?_, ?_, Nat.zero_le _, fun _ m => (nomatch m), List.nodup_nil, Nat.zero_le _, fun _ m => (nomatch m), rfl, fun _ e => (nomatch e)⟩
  · show 16 ≤ m.toNat
    omega
  · show m.toNat ≤ 1024
    omega
  · show t.toNat ≤ 255
    omega
theorem counted_len (c : List Nat) (k : Nat) : (counted c k).length = c.length := by
  unfold counted
  rw [List.length_set]

/-! ### faults -/
theorem fault_cases (f : List Nat) : (f.length < 16 ∧ fault f = 1) ∨ (16 ≤ f.length ∧ withRest (f.take (f.length - 4)) ≠ f ∧ fault f = 2) ∨
    (16 ≤ f.length ∧ withRest (f.take (f.length - 4)) = f ∧ (headIn f).len ≠ f.length - 16 ∧ fault f = 3) ∨
    (16 ≤ f.length ∧ withRest (f.take (f.length - 4)) = f ∧ (headIn f).len = f.length - 16 ∧ sum (f.take (f.length - 4)) ≠ 65535 ∧ fault f = 4) ∨
    (16 ≤ f.length ∧ withRest (f.take (f.length - 4)) = f ∧ (headIn f).len = f.length - 16 ∧ sum (f.take (f.length - 4)) = 65535 ∧ 3 < (headIn f).marks ∧ fault f = 5) ∨
    (16 ≤ f.length ∧ withRest (f.take (f.length - 4)) = f ∧ (headIn f).len = f.length - 16 ∧ sum (f.take (f.length - 4)) = 65535 ∧ (headIn f).marks ≤ 3 ∧ fault f = 0) := by
  unfold fault
  by_cases h1 : f.length < 16
  · rw [if_pos h1]
    exact .inl ⟨h1, rfl⟩
  rw [if_neg h1]
  have h16 : 16 ≤ f.length := by omega
  have ri := rest_iff (f := f) (by omega)
  by_cases h2 : f.drop (f.length - 4) = low 4 (crc (f.take (f.length - 4)))
  · have e2 := ri.mpr h2
    rw [if_neg (fun z => z h2)]
    by_cases h3 : (headIn f).len = f.length - 16
    · rw [if_neg (fun z => z h3)]
      by_cases h4 : sum (f.take (f.length - 4)) = 65535
      · rw [if_neg (fun z => z h4)]
        by_cases h5 : 3 < (headIn f).marks
        · rw [if_pos h5]
          exact .inr (.inr (.inr (.inr (.inl ⟨h16, e2, h3, h4, h5, rfl⟩))))
        · rw [if_neg h5]
          exact .inr (.inr (.inr (.inr (.inr ⟨h16, e2, h3, h4, by omega, rfl⟩))))
      · rw [if_pos h4]
        exact .inr (.inr (.inr (.inl ⟨h16, e2, h3, h4, rfl⟩)))
    · rw [if_pos h3]
      exact .inr (.inr (.inl ⟨h16, e2, h3, rfl⟩))
  · rw [if_pos h2]
    exact .inr (.inl ⟨h16, fun z => h2 (ri.mp z), rfl⟩)
theorem fault_zero {f : List Nat} (h : fault f = 0) : 16 ≤ f.length ∧ (headIn f).len = f.length - 16 ∧ (headIn f).marks ≤ 3 := by
  rcases fault_cases f with ⟨_, e⟩ | ⟨_, _, e⟩ | ⟨_, _, _, e⟩ | ⟨_, _, _, _, e⟩ | ⟨_, _, _, _, _, e⟩ | ⟨a, _, b, _, c, _⟩
  · rw [h] at e; cases e
  · rw [h] at e; cases e
  · rw [h] at e; cases e
  · rw [h] at e; cases e
  · rw [h] at e; cases e
  · exact ⟨a, b, c⟩
theorem fault_ne_one {f : List Nat} (h : fault f ≠ 1) : 16 ≤ f.length := by
  rcases fault_cases f with ⟨_, e⟩ | ⟨a, _⟩ | ⟨a, _⟩ | ⟨a, _⟩ | ⟨a, _⟩ | ⟨a, _⟩
  · exact absurd e h
  all_goals exact a
theorem fault_le (f : List Nat) : fault f ≤ 5 := by
  rcases fault_cases f with ⟨_, e⟩ | ⟨_, _, e⟩ | ⟨_, _, _, e⟩ | ⟨_, _, _, _, e⟩ | ⟨_, _, _, _, _, e⟩ | ⟨_, _, _, _, _, e⟩ <;> omega
theorem bodyIn_len (f : List Nat) : (bodyIn f).length = f.length - 16 := by
  unfold bodyIn
  rw [List.length_take, List.length_drop]
  omega

/-! ### passed on -/
theorem take8 {f : List Nat} (ho : Oct f) (h : 16 ≤ f.length) : f.take 8 = high 2 (headIn f).flow ++ high 4 (headIn f).at_ ++ high 2 (headIn f).len := by
  show f.take 8 = high 2 (ofHigh (f.take 2)) ++ high 4 (ofHigh ((f.drop 2).take 4)) ++ high 2 (ofHigh ((f.drop 6).take 2))
  rw [high_ofHigh 2 _ (by rw [List.length_take]; omega) (ho.take _), high_ofHigh 4 _ (by rw [List.length_take, List.length_drop]; omega) ((ho.drop _).take _), high_ofHigh 2 _ (by rw [List.length_take, List.length_drop]; omega) ((ho.drop _).take _)]
  have e1 : f.take 6 = f.take 2 ++ (f.drop 2).take 4 := List.take_add (i := 2) (j := 4)
  have e2 : f.take 8 = f.take 6 ++ (f.drop 6).take 2 := List.take_add (i := 6) (j := 2)
  rw [e2, e1]
theorem two_at {f : List Nat} {i : Nat} (h : i + 2 ≤ f.length) : (f.drop i).take 2 = [f.getD i 0, f.getD (i + 1) 0] := by
  rw [List.drop_eq_getElem_cons (by omega), List.drop_eq_getElem_cons (by omega)]
  have e1 : f.getD i 0 = f[i] := by simp [List.getD, show i < f.length by omega]
  have e2 : f.getD (i + 1) 0 = f[i + 1] := by simp [List.getD, show i + 1 < f.length by omega]
  rw [e1, e2]
  rfl
theorem word_in {f : List Nat} (h : 16 ≤ f.length) : ofHigh ((f.drop 8).take 2) = 256 * (headIn f).marks + (headIn f).hops := by
  rw [two_at (by omega), ofHigh_two]
  rfl
theorem passed_eq {f : List Nat} (ho : Oct f) (h : 16 ≤ f.length) (hh : (headIn f).hops ≠ 0) :
    passed f = withRest (f.take 8 ++ high 2 (256 * (headIn f).marks + (headIn f).hops - 1) ++ high 2 (mended (sumIn f) (256 * (headIn f).marks + (headIn f).hops) (256 * (headIn f).marks + (headIn f).hops - 1)) ++ bodyIn f) := by
  have hm : (headIn f).marks < 256 := oct_getD ho 8
  have hp : (headIn f).hops < 256 := oct_getD ho 9
  have e : 256 * (headIn f).marks + (headIn f).hops - 1 = 256 * (headIn f).marks + ((headIn f).hops - 1) := by omega
  have e2 : high 2 (256 * (headIn f).marks + (headIn f).hops - 1) = [(headIn f).marks, (headIn f).hops - 1] := by
    rw [e]
    exact high_two _ _ hm (by omega)
  rw [e2, take8 ho h]
  rfl
theorem passed_len {f : List Nat} (h : 16 ≤ f.length) : (passed f).length = f.length := by
  show (withRest (headOf _ _ ++ bodyIn f)).length = f.length
  rw [withRest_len, List.length_append, headOf_len, bodyIn_len]
  omega

/-! ### joining, way by way -/
section
variable {h : House} {f : List Nat}
theorem join_full (hm : (headIn f).marks = 1) (hc : ((look h.held (headIn f).flow).isNone && decide (FLOWS ≤ h.held.length)) = true) : h.join f = (h, 6, []) := by
  unfold House.join
  dsimp only
  unfold look at hc
  rw [hm, if_pos (by decide), hc, if_pos (by decide)]
theorem join_alone (hm : (headIn f).marks = 3) (hb : (bodyIn f).length ≤ 4096) : h.join f = ({ h with held := without h.held (headIn f).flow }, 2, bodyIn f) := by
  unfold House.join
  dsimp only
  rw [hm, if_pos rfl]
  have hc : ((look h.held (headIn f).flow).isNone && decide (FLOWS ≤ h.held.length) && decide (3 < 2)) = false := by
    rw [show decide (3 < 2) = false from rfl, Bool.and_false]
  show (if ((look h.held (headIn f).flow).isNone && decide (FLOWS ≤ h.held.length) && decide (3 < 2)) = true then _ else _) = _
  rw [hc, if_neg Bool.false_ne_true]
  show (if LONG < (bodyIn f).length then _ else _) = _
  rw [if_neg (show ¬ LONG < (bodyIn f).length by unfold LONG; omega), if_pos (show 2 ≤ 3 by omega)]
  rfl
theorem join_begin (hm : (headIn f).marks = 1) (hb : (bodyIn f).length ≤ 4096) (hc : ((look h.held (headIn f).flow).isNone && decide (FLOWS ≤ h.held.length)) = false) :
    h.join f = ({ h with held := without h.held (headIn f).flow ++ [⟨(headIn f).flow, ((headIn f).at_ + (bodyIn f).length) % 2 ^ 32, bodyIn f⟩] }, 0, []) := by
  unfold House.join
  dsimp only
  rw [hm, if_pos rfl]
  show (if ((look h.held (headIn f).flow).isNone && decide (FLOWS ≤ h.held.length) && decide (1 < 2)) = true then _ else _) = _
  rw [hc, Bool.false_and, if_neg Bool.false_ne_true]
  show (if LONG < (bodyIn f).length then _ else _) = _
  rw [if_neg (show ¬ LONG < (bodyIn f).length by unfold LONG; omega), if_neg (show ¬ 2 ≤ 1 by omega), if_pos rfl]
  rfl
theorem join_none (hm : (headIn f).marks % 2 ≠ 1) (hl : look h.held (headIn f).flow = none) : h.join f = (h, 3, []) := by
  unfold House.join
  dsimp only
  rw [if_neg hm]
  unfold look at hl
  rw [hl]
theorem join_else {x : Held} (hm : (headIn f).marks % 2 ≠ 1) (hl : look h.held (headIn f).flow = some x) (hn : x.next ≠ (headIn f).at_) : h.join f = ({ h with held := without h.held (headIn f).flow }, 4, []) := by
  unfold House.join
  dsimp only
  rw [if_neg hm]
  unfold look at hl
  rw [hl]
  show (if x.next = (headIn f).at_ then _ else _) = _
  rw [if_neg hn]
  rfl
theorem join_long {x : Held} (hm : (headIn f).marks % 2 ≠ 1) (hl : look h.held (headIn f).flow = some x) (hn : x.next = (headIn f).at_) (hb : 4096 < (x.bytes ++ bodyIn f).length) : h.join f = ({ h with held := without h.held (headIn f).flow }, 5, []) := by
  unfold House.join
  dsimp only
  rw [if_neg hm]
  unfold look at hl
  rw [hl]
  show (if x.next = (headIn f).at_ then _ else _) = _
  rw [if_pos hn, if_pos (show LONG < (x.bytes ++ bodyIn f).length from hb)]
  rfl
theorem join_end {x : Held} (hm : (headIn f).marks = 2) (hl : look h.held (headIn f).flow = some x) (hn : x.next = (headIn f).at_) (hb : ¬ 4096 < (x.bytes ++ bodyIn f).length) : h.join f = ({ h with held := without h.held (headIn f).flow }, 2, x.bytes ++ bodyIn f) := by
  unfold House.join
  dsimp only
  rw [hm, if_neg (by decide)]
  unfold look at hl
  rw [hl]
  show (if x.next = (headIn f).at_ then _ else _) = _
  rw [if_pos hn, if_neg (show ¬ LONG < (x.bytes ++ bodyIn f).length from hb), if_pos (by decide)]
  rfl
theorem join_on {x : Held} (hm : (headIn f).marks = 0) (hl : look h.held (headIn f).flow = some x) (hn : x.next = (headIn f).at_) (hb : ¬ 4096 < (x.bytes ++ bodyIn f).length) :
    h.join f = ({ h with held := without h.held (headIn f).flow ++ [⟨(headIn f).flow, ((headIn f).at_ + (bodyIn f).length) % 2 ^ 32, x.bytes ++ bodyIn f⟩] }, 1, []) := by
  unfold House.join
  dsimp only
  rw [hm, if_neg (by decide)]
  unfold look at hl
  rw [hl]
  show (if x.next = (headIn f).at_ then _ else _) = _
  rw [if_pos hn, if_neg (show ¬ LONG < (x.bytes ++ bodyIn f).length from hb), if_neg (by decide), if_neg (by decide)]
  rfl
end

/-! ### the house behind a call -/
theorem good_held {h : House} (g : Good h) {hd : List Held} (h1 : (hd.map (·.flow)).Nodup) (h2 : hd.length ≤ 8) (h3 : ∀ x ∈ hd, x.bytes.length ≤ 4096) : Good { h with held := hd } :=
  ⟨g.size1, g.size2, g.hops, g.ready, g.frames, h1, h2, h3, g.cnt, g.last⟩
theorem good_without {h : House} (g : Good h) (w : Nat) : Good { h with held := without h.held w } :=
  good_held g (without_nd g.nd) (Nat.le_trans (without_le _ _) g.few) fun x m => g.bytes x (without_mem m)
theorem good_put {h : House} (g : Good h) {x : Held} (hb : x.bytes.length ≤ 4096) (hf : (look h.held x.flow).isSome = true ∨ h.held.length < 8) : Good { h with held := without h.held x.flow ++ [x] } := by
  refine good_held g (snoc_nd g.nd) ?_ fun y m => ?_
  · rw [List.length_append]
    show (without h.held x.flow).length + 1 ≤ 8
    rcases hf with hf | hf
    · obtain ⟨z, hz⟩ := Option.isSome_iff_exists.mp hf
      rw [without_len g.nd hz]
      exact g.few
    · have := without_le h.held x.flow
      omega
  · rcases List.mem_append.mp m with m | m
    · exact g.bytes y (without_mem m)
    · rw [List.mem_singleton.mp m]
      exact hb
/-- what a joined frame leaves, way by way; its whole message is not long -/
theorem good_join {h : House} (g : Good h) {f : List Nat} (hf : fault f = 0) (hl : f.length ≤ 1040) : Good (h.join f).1 ∧ ((h.join f).2.1 = 2 → (h.join f).2.2.length ≤ 4096) := by
  obtain ⟨h16, _, hm3⟩ := fault_zero hf
  have hb : (bodyIn f).length ≤ 1024 := by rw [bodyIn_len]; omega
  by_cases hm : (headIn f).marks % 2 = 1
  · have hm' : (headIn f).marks = 1 ∨ (headIn f).marks = 3 := by omega
    rcases hm' with hm' | hm'
    · cases hc : ((look h.held (headIn f).flow).isNone && decide (FLOWS ≤ h.held.length))
      · rw [join_begin hm' (by omega) hc]
        refine ⟨good_put (x := ⟨(headIn f).flow, _, _⟩) g (show (bodyIn f).length ≤ 4096 by omega) ?_, fun e => nomatch e⟩
        show (look h.held (headIn f).flow).isSome = true ∨ _
        cases e : look h.held (headIn f).flow with
        | some z => exact .inl rfl
        | none =>
          rw [e] at hc
          have := of_decide_eq_false (show decide (FLOWS ≤ h.held.length) = false from hc)
          unfold FLOWS at this
          exact .inr (by omega)
      · rw [join_full hm' hc]
        exact ⟨g, fun e => nomatch e⟩
    · rw [join_alone hm' (by omega)]
      exact ⟨good_without g _, fun _ => (by show (bodyIn f).length ≤ 4096; omega)⟩
  · cases hk : look h.held (headIn f).flow with
    | none =>
      rw [join_none hm hk]
      exact ⟨g, fun e => nomatch e⟩
    | some x =>
      by_cases hn : x.next = (headIn f).at_
      · by_cases hlong : 4096 < (x.bytes ++ bodyIn f).length
        · rw [join_long hm hk hn hlong]
          exact ⟨good_without g _, fun e => nomatch e⟩
        · have hm' : (headIn f).marks = 0 ∨ (headIn f).marks = 2 := by omega
          rcases hm' with hm' | hm'
          · rw [join_on hm' hk hn hlong]
            exact ⟨good_put (x := ⟨(headIn f).flow, _, _⟩) g (show (x.bytes ++ bodyIn f).length ≤ 4096 by omega) (.inl (by show (look h.held (headIn f).flow).isSome = true; rw [hk]; rfl)), fun e => nomatch e⟩
          · rw [join_end hm' hk hn hlong]
            exact ⟨good_without g _, fun _ => (by show (x.bytes ++ bodyIn f).length ≤ 4096; omega)⟩
      · rw [join_else hm hk hn]
        exact ⟨good_without g _, fun e => nomatch e⟩

/-! ### the calls as they are handed in -/
/-- n, and so many bytes -/
structure Tl (n : Int) (r : List Int) (lo most : Int) : Prop where
  len : r.length = Sj51Neutral.many n lo most
  oct : ∀ z ∈ r, 0 ≤ z ∧ z ≤ 255
theorem tl_of {n : Int} {r : List Int} {lo most : Int} (h : Sj51Neutral.told_ n r lo most = true) : Tl n r lo most := by
  unfold Sj51Neutral.told_ at h
  rw [Bool.and_eq_true, Bool.and_eq_true] at h
  refine ⟨eq_of_beq h.2.1, fun z m => ?_⟩
  have := List.all_eq_true.mp h.2.2 z m
  rw [Bool.and_eq_true] at this
  exact ⟨of_decide_eq_true this.1, of_decide_eq_true this.2⟩
theorem isIn_true {a b z : Int} : isIn a b z = true ↔ a ≤ z ∧ z ≤ b := by
  unfold isIn
  rw [Bool.and_eq_true, decide_eq_true_iff, decide_eq_true_iff]
theorem isIn_dec (a b z : Int) : isIn a b z = decide (a ≤ z ∧ z ≤ b) := by
  unfold isIn
  rw [Bool.decide_and]
/-- the bytes are all there, where n is as told -/
theorem Tl.all {n : Int} {r : List Int} {lo most : Int} (t : Tl n r lo most) (h : isIn lo most n = true) : r.length = n.toNat ∧ r.take n.toNat = r := by
  have h' := isIn_true.mp h
  have e := t.len
  unfold Sj51Neutral.many at e
  rw [if_pos h'] at e
  exact ⟨e, List.take_of_length_le (by omega)⟩
theorem Tl.nats {n : Int} {r : List Int} {lo most : Int} (t : Tl n r lo most) : Oct (Sj51.nats r) ∧ Sj51.ints (Sj51.nats r) = r := by
  refine ⟨fun x m => ?_, ?_⟩
  · obtain ⟨z, hz, e⟩ := List.mem_map.mp m
    have := t.oct z hz
    omega
  · unfold Sj51.ints Sj51.nats
    rw [List.map_map]
    conv => rhs; rw [← List.map_id r]
    refine List.map_congr_left fun z hz => ?_
    have := t.oct z hz
    show ((z.toNat : Nat) : Int) = z
    omega
theorem nats_len (r : List Int) : (Sj51.nats r).length = r.length := List.length_map _
inductive Asked : Int → List Int → Sj51.Call → Prop
  | open_ (m t : Int) : Asked 1 [m, t] (.open_ m t)
  | sum (n : Int) (r : List Int) (h : Tl n r 0 4096) : Asked 2 (n :: r) (.sum n r)
  | crc (n : Int) (r : List Int) (h : Tl n r 0 4096) : Asked 3 (n :: r) (.crc n r)
  | cut (w a n : Int) (r : List Int) (h0 : 0 ≤ a) (h1 : a < 4294967296) (h : Tl n r 1 4096) : Asked 4 (w :: a :: n :: r) (.cut w a n r)
  | next : Asked 5 [] .next
  | check (n : Int) (r : List Int) (h : Tl n r 0 1040) : Asked 6 (n :: r) (.check n r)
  | pass (n : Int) (r : List Int) (h : Tl n r 0 1040) : Asked 7 (n :: r) (.pass n r)
  | join (n : Int) (r : List Int) (h : Tl n r 0 1040) : Asked 8 (n :: r) (.join n r)
  | held (w : Int) : Asked 9 [w] (.held w)
  | drop (w : Int) : Asked 10 [w] (.drop w)
  | counts : Asked 11 [] .counts
  | message : Asked 12 [] .message
theorem asked_of {p : Int} {ns : List Int} {q : Sj51.Call} (h : Sj51Neutral.callOf (p :: ns) = some q) (hz : ∀ z ∈ p :: ns, z < 4294967296) : Asked p ns q := by
  unfold Sj51Neutral.callOf at h
  split at h
  · rename_i m t e
    obtain ⟨rfl, rfl⟩ := List.cons.inj e
    split at h
    · cases h; exact .open_ m t
    · cases h
  · rename_i n r e
    obtain ⟨rfl, rfl⟩ := List.cons.inj e
    split at h
    · cases h; exact .sum n r (tl_of (by assumption))
    · cases h
  · rename_i n r e
    obtain ⟨rfl, rfl⟩ := List.cons.inj e
    split at h
    · cases h; exact .crc n r (tl_of (by assumption))
    · cases h
  · rename_i w a n r e
    obtain ⟨rfl, rfl⟩ := List.cons.inj e
    split at h
    · rename_i c
      cases h
      exact .cut w a n r c.2.1 (hz a (by simp)) (tl_of c.2.2)
    · cases h
  · rename_i e
    obtain ⟨rfl, rfl⟩ := List.cons.inj e
    cases h; exact .next
  · rename_i n r e
    obtain ⟨rfl, rfl⟩ := List.cons.inj e
    split at h
    · cases h; exact .check n r (tl_of (by assumption))
    · cases h
  · rename_i n r e
    obtain ⟨rfl, rfl⟩ := List.cons.inj e
    split at h
    · cases h; exact .pass n r (tl_of (by assumption))
    · cases h
  · rename_i n r e
    obtain ⟨rfl, rfl⟩ := List.cons.inj e
    split at h
    · cases h; exact .join n r (tl_of (by assumption))
    · cases h
  · rename_i w e
    obtain ⟨rfl, rfl⟩ := List.cons.inj e
    split at h
    · cases h; exact .held w
    · cases h
  · rename_i w e
    obtain ⟨rfl, rfl⟩ := List.cons.inj e
    split at h
    · cases h; exact .drop w
    · cases h
  · rename_i e
    obtain ⟨rfl, rfl⟩ := List.cons.inj e
    cases h; exact .counts
  · rename_i e
    obtain ⟨rfl, rfl⟩ := List.cons.inj e
    cases h; exact .message
  · cases h

/-- a state that is as it may be -/
def GoodS : Sj51.State → Prop
  | none => True
  | some h => Good h
theorem on_cut (h : House) (w a n : Int) (l : List Int) : on h (.cut w a n l) = if (!isIn 0 65535 w || !isIn 0 (2 ^ 32 - 1) a || !isIn 1 4096 n) = true then (h, just (-2)) else
    if READY < h.ready.length + (Sj51.cut h.size w.toNat a.toNat h.hops (nats (l.take n.toNat))).length then (h, just (-5))
    else ({ h with ready := h.ready ++ Sj51.cut h.size w.toNat a.toNat h.hops (nats (l.take n.toNat)) }, just (nat (Sj51.cut h.size w.toNat a.toNat h.hops (nats (l.take n.toNat))).length)) := rfl
theorem on_next_nil {h : House} (e : h.ready = []) : on h .next = (h, just (-6)) := by
  show (match h.ready with
    | [] => (h, just (-6))
    | f :: l => ({ h with ready := l }, (⟨nat f.length, Sj51.ints f⟩ : Ans))) = _
  rw [e]
theorem on_next_cons {h : House} {f : Bytes} {l : List Bytes} (e : h.ready = f :: l) : on h .next = ({ h with ready := l }, ⟨nat f.length, Sj51.ints f⟩) := by
  show (match h.ready with
    | [] => (h, just (-6))
    | f :: l => ({ h with ready := l }, (⟨nat f.length, Sj51.ints f⟩ : Ans))) = _
  rw [e]
theorem on_join (h : House) (n : Int) (l : List Int) : on h (.join n l) = if (!isIn 0 1040 n) = true then (h, just (-2)) else
    if fault (nats (l.take n.toNat)) ≠ 0 then ({ h with counts := counted h.counts 0 }, just (10 + nat (fault (nats (l.take n.toNat))))) else
      ({ (h.join (nats (l.take n.toNat))).1 with counts := counted h.counts (if (h.join (nats (l.take n.toNat))).2.1 < 3 then 1 else 2), last := if (h.join (nats (l.take n.toNat))).2.1 = 2 then some (h.join (nats (l.take n.toNat))).2.2 else (h.join (nats (l.take n.toNat))).1.last }, just (nat (h.join (nats (l.take n.toNat))).2.1)) := rfl
theorem on_held (h : House) (w : Int) : on h (.held w) = if (!isIn 0 65535 w) = true then (h, just (-2)) else (match look h.held w.toNat with
    | none => (h, just (-6))
    | some x => (h, ⟨nat x.bytes.length, nat x.next :: Sj51.ints x.bytes⟩)) := rfl
theorem on_drop (h : House) (w : Int) : on h (.drop w) = if (!isIn 0 65535 w) = true then (h, just (-2)) else if (h.held.any fun x => x.flow == w.toNat) = false then (h, just (-6)) else ({ h with held := without h.held w.toNat }, just (nat h.held.length - 1)) := rfl
theorem on_counts (h : House) : on h .counts = (h, ⟨0, Sj51.ints h.counts ++ [nat h.held.length, nat h.ready.length]⟩) := rfl
theorem on_message (h : House) : on h .message = (match h.last with
    | none => (h, just (-6))
    | some l => (h, ⟨nat l.length, Sj51.ints l⟩)) := rfl
theorem good_on {h : House} (g : Good h) {p : Int} {ns : List Int} {c : Sj51.Call} (a : Asked p ns c) : Good (on h c).1 := by
  cases a with
  | open_ m t => exact g
  | sum n r t => exact g
  | crc n r t => exact g
  | check n r t => exact g
  | pass n r t => exact g
  | cut w a n r h0 h1 t =>
    rw [on_cut]
    split
    · exact g
    · rename_i hc
      have hn : isIn 1 4096 n = true := by
        cases e : isIn 1 4096 n
        · rw [e] at hc; simp at hc
        · rfl
      have hn' := isIn_true.mp hn
      have hl : (nats (r.take n.toNat)).length = n.toNat := by rw [nats_len, (t.all hn).2, (t.all hn).1]
      split
      · exact g
      · rename_i hr
        unfold READY at hr
        refine ⟨g.size1, g.size2, g.hops, by rw [List.length_append]; omega, fun f m => ?_, g.nd, g.few, g.bytes, g.cnt, g.last⟩
        rcases List.mem_append.mp m with m | m
        · exact g.frames f m
        · have hs := g.size1
          have hs2 := g.size2
          rw [cut_eq (by omega) (by rw [hl]; omega)] at m
          obtain ⟨i, _, rfl⟩ := List.mem_map.mp m
          unfold cutAt
          rw [frame_len]
          unfold part
          rw [List.length_take]
          omega
  | next =>
    cases e : h.ready with
    | nil =>
      rw [on_next_nil e]
      exact g
    | cons f l =>
      rw [on_next_cons e]
      have hr := g.ready
      rw [e] at hr
      exact ⟨g.size1, g.size2, g.hops, by show l.length ≤ 64; simp at hr; omega, fun f' m => g.frames f' (by rw [e]; exact List.mem_cons_of_mem _ m), g.nd, g.few, g.bytes, g.cnt, g.last⟩
  | join n r t =>
    rw [on_join]
    split
    · exact g
    · rename_i hc
      have hn : isIn 0 1040 n = true := by
        cases e : isIn 0 1040 n
        · rw [e] at hc; simp at hc
        · rfl
      have hn' := isIn_true.mp hn
      have hl : (nats (r.take n.toNat)).length = n.toNat := by rw [nats_len, (t.all hn).2, (t.all hn).1]
      split
      · exact ⟨g.size1, g.size2, g.hops, g.ready, g.frames, g.nd, g.few, g.bytes, by show (counted _ _).length = 3; rw [counted_len]; exact g.cnt, g.last⟩
      · rename_i hf
        have hf' : fault (nats (r.take n.toNat)) = 0 := Decidable.not_not.mp hf
        obtain ⟨gj, gl⟩ := good_join g hf' (by rw [hl]; omega)
        refine ⟨gj.size1, gj.size2, gj.hops, gj.ready, gj.frames, gj.nd, gj.few, gj.bytes, by show (counted _ _).length = 3; rw [counted_len]; exact g.cnt, fun l e => ?_⟩
        have e' : (if (h.join (nats (r.take n.toNat))).2.1 = 2 then some (h.join (nats (r.take n.toNat))).2.2 else (h.join (nats (r.take n.toNat))).1.last) = some l := e
        split at e'
        · rename_i h2
          rw [← Option.some.inj e']
          exact gl h2
        · exact gj.last l e'
  | held w =>
    rw [on_held]
    split
    · exact g
    · split
      · exact g
      · exact g
  | drop w =>
    rw [on_drop]
    split
    · exact g
    · split
      · exact g
      · exact good_without g _
  | counts => exact g
  | message =>
    rw [on_message]
    split
    · exact g
    · exact g
end FC

/-! Framecard: the list of calls and the list of answers. Plain Lean. -/
namespace FC
/-- the calls, one behind another -/
def flat : List (Int × List Int) → List Int
  | [] => []
  | c :: r => c.1 :: (c.2.length : Int) :: (c.2 ++ 0 :: flat r)
/-- all answers from a state on -/
def outs : Sj51.State → List (Int × List Int) → List Int
  | _, [] => []
  | s, c :: r => ((Sj51Neutral.step s [c.1 :: c.2]).2.length : Int) :: ((Sj51Neutral.step s [c.1 :: c.2]).2 ++ outs (Sj51Neutral.step s [c.1 :: c.2]).1 r)
theorem flat_len_cons (c : Int × List Int) (r : List (Int × List Int)) : (flat (c :: r)).length = c.2.length + 3 + (flat r).length := by
  show (c.1 :: (c.2.length : Int) :: (c.2 ++ 0 :: flat r)).length = _
  rw [List.length_cons, List.length_cons, List.length_append, List.length_cons]
  omega
theorem flat_app : ∀ (a b : List (Int × List Int)), flat (a ++ b) = flat a ++ flat b
  | [], _ => rfl
  | c :: a, b => by
    show c.1 :: (c.2.length : Int) :: (c.2 ++ 0 :: flat (a ++ b)) = (c.1 :: (c.2.length : Int) :: (c.2 ++ 0 :: flat a)) ++ flat b
    rw [flat_app a b]
    simp
theorem flat_ge : ∀ cs : List (Int × List Int), cs.length ≤ (flat cs).length
  | [] => Nat.le_refl _
  | c :: r => by
    have ih := flat_ge r
    rw [flat_len_cons, List.length_cons]
    omega
def pairOf (c : List (List Int)) : Int × List Int := match c with
  | (p :: l) :: _ => (p, l)
  | _ => (0, [])
theorem one_row {c : List (List Int)} (h1 : PyWide.okCall c) (h2 : c.length = 1) : c = [(pairOf c).1 :: (pairOf c).2] ∧ PyWide.put1 c = (pairOf c).1 :: ((pairOf c).2.length : Int) :: ((pairOf c).2 ++ [0]) := by
  obtain ⟨p, l, xs, rfl⟩ := h1
  have e : xs = [] := by
    rw [List.length_cons] at h2
    exact List.length_eq_zero_iff.mp (by omega)
  subst e
  exact ⟨rfl, rfl⟩
theorem put_flat : ∀ {cs : List (List (List Int))}, (∀ c ∈ cs, PyWide.okCall c) → (∀ c ∈ cs, c.length = 1) → PyWide.put cs = flat (cs.map pairOf)
  | [], _, _ => rfl
  | c :: r, h1, h2 => by
    have ih := put_flat (cs := r) (fun d m => h1 d (List.mem_cons_of_mem _ m)) (fun d m => h2 d (List.mem_cons_of_mem _ m))
    obtain ⟨_, e⟩ := one_row (h1 c (List.mem_cons_self ..)) (h2 c (List.mem_cons_self ..))
    show PyWide.put1 c ++ PyWide.put r = (pairOf c).1 :: ((pairOf c).2.length : Int) :: ((pairOf c).2 ++ 0 :: flat (r.map pairOf))
    rw [e, ih]
    simp
theorem told_outs : ∀ {cs : List (List (List Int))} (s : Sj51.State), (∀ c ∈ cs, PyWide.okCall c) → (∀ c ∈ cs, c.length = 1) → PyFlat.told (PyFlat.played Sj51Neutral.step s cs) = outs s (cs.map pairOf)
  | [], _, _, _ => rfl
  | c :: r, s, h1, h2 => by
    obtain ⟨e, _⟩ := one_row (h1 c (List.mem_cons_self ..)) (h2 c (List.mem_cons_self ..))
    have ih := told_outs (cs := r) (Sj51Neutral.step s c).1 (fun d m => h1 d (List.mem_cons_of_mem _ m)) (fun d m => h2 d (List.mem_cons_of_mem _ m))
    have e1 : PyFlat.told (PyFlat.played Sj51Neutral.step s (c :: r)) = ((Sj51Neutral.step s c).2.length : Int) :: ((Sj51Neutral.step s c).2 ++ PyFlat.told (PyFlat.played Sj51Neutral.step (Sj51Neutral.step s c).1 r)) := by
      show PyFlat.told ((Sj51Neutral.step s c).2 :: PyFlat.played Sj51Neutral.step (Sj51Neutral.step s c).1 r) = _
      unfold PyFlat.told
      rw [List.flatMap_cons]
      rfl
    rw [e1, ih]
    show _ = ((Sj51Neutral.step s [(pairOf c).1 :: (pairOf c).2]).2.length : Int) :: ((Sj51Neutral.step s [(pairOf c).1 :: (pairOf c).2]).2 ++ outs (Sj51Neutral.step s [(pairOf c).1 :: (pairOf c).2]).1 (r.map pairOf))
    rw [← e]
theorem asked_split {ns : List Int} (h : PySj51.answers_asked ns = true) : ∃ cs : List (Int × List Int), ns = flat cs ∧ (∀ c ∈ cs, ∃ q, Sj51Neutral.callOf (c.1 :: c.2) = some q ∧ ∀ z ∈ c.1 :: c.2, z < 4294967296) ∧
    PySj51.answers ns = outs Sj51Neutral.start cs ∧ (outs Sj51Neutral.start cs).length ≤ 10000000 := by
  unfold PySj51.answers_asked at h
  cases e : PySj51.calls ns with
  | none =>
    rw [e] at h
    cases h
  | some cs =>
    rw [e] at h
    dsimp only at h
    rw [Bool.and_eq_true, Bool.and_eq_true] at h
    obtain ⟨⟨_, ha⟩, hs⟩ := h
    unfold Sj51Neutral.asked at ha
    rw [Bool.and_eq_true] at ha
    have all1 := List.all_eq_true.mp ha.1
    obtain ⟨hp, hok⟩ := PyWide.put_calls _ _ _ e
    have hlen : ∀ c ∈ cs, c.length = 1 := fun c m => by
      have := all1 c m
      unfold Sj51Neutral.asked1 at this
      rw [Bool.and_eq_true] at this
      exact eq_of_beq this.1
    have ea : PySj51.answers ns = outs Sj51Neutral.start (cs.map pairOf) := by
      unfold PySj51.answers
      rw [e]
      exact told_outs _ hok hlen
    refine ⟨cs.map pairOf, hp.trans (put_flat hok hlen), fun d m => ?_, ea, ?_⟩
    · obtain ⟨c, mc, rfl⟩ := List.mem_map.mp m
      obtain ⟨ec, _⟩ := one_row (hok c mc) (hlen c mc)
      have h1 := all1 c mc
      unfold Sj51Neutral.asked1 at h1
      rw [Bool.and_eq_true, Bool.and_eq_true] at h1
      obtain ⟨_, h2, h3⟩ := h1
      have eh : c.headD [] = (pairOf c).1 :: (pairOf c).2 := by
        conv => lhs; rw [ec]
        rfl
      rw [eh] at h2 h3
      obtain ⟨q, hq⟩ := Option.isSome_iff_exists.mp h3
      refine ⟨q, hq, fun z mz => ?_⟩
      have := List.all_eq_true.mp h2 z mz
      rw [Bool.and_eq_true] at this
      have h4 := of_decide_eq_true this.2
      omega
    · rw [← ea]
      exact of_decide_eq_true hs

/-! ### a step, way by way -/
theorem step_free {s : Sj51.State} {c : Sj51.Call} {a : Sj51.Ans} (h : Sj51.free c = some a) : Sj51.step s c = (s, a) := by
  unfold Sj51.step
  rw [h]
theorem step_open (s : Sj51.State) (m t : Int) : Sj51.step s (.open_ m t) = if (!Sj51.isIn 16 1024 m || !Sj51.isIn 0 255 t) = true then (s, Sj51.just (-2)) else (some ⟨m.toNat, t.toNat, [], [], List.replicate 3 0, none⟩, Sj51.just 0) := rfl
/-- calls that need a house -/
def needs : Sj51.Call → Bool
  | .cut .. | .next | .join .. | .held .. | .drop .. | .counts | .message => true
  | _ => false
theorem step_none {c : Sj51.Call} (h : needs c = true) : Sj51.step none c = (none, Sj51.just (-7)) := by
  cases c <;> first | rfl | cases h
theorem step_some {c : Sj51.Call} (h : needs c = true) (x : Sj51.House) : Sj51.step (some x) c = (some (Sj51.on x c).1, (Sj51.on x c).2) := by
  cases c <;> first | rfl | cases h
theorem good_step {s : Sj51.State} (g : GoodS s) {p : Int} {ns : List Int} {c : Sj51.Call} (a : Asked p ns c) : GoodS (Sj51.step s c).1 := by
  cases n : needs c with
  | true =>
    cases s with
    | none =>
      rw [step_none n]
      exact g
    | some x =>
      rw [step_some n]
      exact good_on g a
  | false =>
    cases f : Sj51.free c with
    | some b =>
      rw [step_free f]
      exact g
    | none =>
      cases c with
      | open_ m t =>
        rw [step_open]
        split
        · exact g
        · rename_i hc
          have h1 : Sj51.isIn 16 1024 m = true := by
            cases e : Sj51.isIn 16 1024 m
            · rw [e] at hc; simp at hc
            · rfl
          have h2 : Sj51.isIn 0 255 t = true := by
            cases e : Sj51.isIn 0 255 t
            · rw [e] at hc; simp at hc
            · rfl
          exact good_new h1 h2
      | _ => first | (cases f; done) | (cases n; done)
theorem nstep {s : Sj51.State} {p : Int} {l : List Int} {q : Sj51.Call} (h : Sj51Neutral.callOf (p :: l) = some q) : Sj51Neutral.step s [p :: l] = ((Sj51.step s q).1, (Sj51.step s q).2.v :: (Sj51.step s q).2.l) := by
  unfold Sj51Neutral.step
  show (match Sj51Neutral.callOf (p :: l) with | none => _ | some q => _) = _
  rw [h]
end FC

/-! Framecard: what the walk is made of: short rules over the layer, the places of the text, the facts of the top. -/
namespace FC
open PySem PySem.Spec PyProof.Rows L2
/-! ### a constant of the module; a written table of defs with whole numbers for keys -/
def GInt (mg : Str → Option Value) (x : Str) (n : Int) : Prop := ∃ t, mg x = some (.int n t)
def KeysAre : List DictEntry → List (Int × Addr) → Prop
  | [], [] => True
  | e :: r, p :: q => (∃ t, e.key = .int p.1 t) ∧ e.hash = hashInt p.1 ∧ e.val = .ref p.2 ∧ KeysAre r q
  | _, _ => False
structure KTab (K : PySem.W.Frag) (mg : Str → Option Value) (x : Str) (d : Addr) (kvs : List (Int × Addr)) : Prop where
  mg : mg x = some (.ref d)
  low : (d == sysModules) = false
  at_ : ∃ es n, K.lookup d = some ⟨.type "dict", none, .dict es n, #[]⟩ ∧ KeysAre es.toList kvs
theorem keys_hash (prog : Program) (w : World) : ∀ {l : List DictEntry} {kvs : List (Int × Addr)}, KeysAre l kvs → ∀ e ∈ l, ∃ k, (intKind prog w).is k e.key = true ∧ e.hash = (intKind prog w).hash k
  | _ :: _, _ :: _, ⟨⟨t, h1⟩, h2, _, _⟩, _, .head _ => ⟨_, by rw [h1]; exact intKind_is prog w _ t, h2⟩
  | _ :: _, _ :: _, ⟨_, _, _, r⟩, _, .tail _ m => keys_hash prog w r _ m
theorem keys_find : ∀ {l : List DictEntry} {kvs : List (Int × Addr)} (k : Int), KeysAre l kvs → ((l.find? fun e => Value.isInt k e.key).map (·.val)) = (kvs.lookup k).map Value.ref
  | [], [], _, _ => rfl
  | e :: r, p :: q, k, ⟨⟨t, h1⟩, _, h3, h4⟩ => by
    have ih := keys_find k h4
    have e1 : Value.isInt k e.key = (p.1 == k) := by
      rw [h1]
      rfl
    rw [List.find?_cons, e1]
    by_cases c : p.1 = k
    · rw [show (p.1 == k) = true from beq_iff_eq.mpr c]
      show some e.val = ((p :: q).lookup k).map Value.ref
      have e2 : (p :: q).lookup k = some p.2 := by
        show (match k == p.1 with | true => some p.2 | false => q.lookup k) = some p.2
        rw [show (k == p.1) = true from beq_iff_eq.mpr c.symm]
      rw [e2, h3]
      rfl
    · rw [show (p.1 == k) = false from beq_eq_false_iff_ne.mpr c]
      have e2 : (p :: q).lookup k = q.lookup k := by
        show (match k == p.1 with | true => some p.2 | false => q.lookup k) = _
        rw [show (k == p.1) = false from beq_eq_false_iff_ne.mpr fun z => c z.symm]
      rw [e2]
      exact ih
theorem KTab.map {K : PySem.W.Frag} {mg : Str → Option Value} {x : Str} {d : Addr} {kvs : List (Int × Addr)} (D : KTab K mg x d kvs) {h : Heap} (prog : Program) (w : World) (X : K.In h) : h.MapOf (intKind prog w) d (fun k => (kvs.lookup k).map Value.ref) := by
  obtain ⟨es, n, hl, hk⟩ := D.at_
  refine ⟨_, es, n, X _ _ hl, ⟨rfl, rfl, rfl⟩, rfl, fun e he => ?_, fun k => ?_⟩
  · exact keys_hash prog w hk e (Array.mem_toList_iff.mpr he)
  · have := keys_find k hk
    show findBy (intKind prog w).is es k = (kvs.lookup k).map Value.ref
    rw [← this]
    unfold findBy
    rw [← Array.find?_toList]
    rfl
def tKIn (d : Addr) (kvs : List (Int × Addr)) (ty td : TE) : TE := fun σ H Q => ty σ H fun y H1 => td σ H1 fun x H2 => ∃ n : Int, x = .ref d ∧ y = .int n ∧ Q (.bl (kvs.lookup n).isSome) H2
def tKGet (d : Addr) (kvs : List (Int × Addr)) (td ty : TE) : TE := fun σ H Q => td σ H fun x H1 => ty σ H1 fun y H2 => ∃ (n : Int) (f : Addr), x = .ref d ∧ y = .int n ∧ kvs.lookup n = some f ∧ Q (.ref f) H2
section
variable {X : Cx} {i o : Expr} {ty td : TE} {pos : Pos} {x : Str} {d : Addr} {kvs : List (Int × Addr)}
theorem pc_kin (D : KTab X.K X.mg x d kvs) (hi : PE X i ty) (ho : PE X o td) : PC X .In i o (tKIn d kvs ty td) := by
  refine ⟨fun pins s σ H Q I h => ?_⟩
  refine thn (hi.run pins s σ H _ I h) fun iv s1 ⟨y, H1, I1, ry, q1⟩ => thn (ho.run pins s1 σ H1 _ I1 q1) fun u s2 ⟨z, H2, I2, rx, n, ex, ey, q2⟩ => ?_
  subst ex ey
  obtain rfl : u = Value.ref d := rx
  obtain ⟨t, rfl⟩ := (show ∃ t, iv = Value.int n t from ry)
  refine wpAny_in_of (intKind_is X.prog X.w n t) D.low (D.map X.prog X.w I2.kIn) ?_
  refine ⟨.bl (kvs.lookup n).isSome, H2, I2.tok _, ?_, q2⟩
  show Value.bool _ = Value.bool _
  cases kvs.lookup n <;> rfl
theorem pe_kget (D : KTab X.K X.mg x d kvs) (ho : PE X o td) (hi : PE X i ty) (hs : PlainIx i) : PE X (.Subscript o i pos) (tKGet d kvs td ty) := by
  refine ⟨fun pins s σ H Q I h => ?_⟩
  refine Subscript_ (binT ho hi I (R := fun x y H2 => ∃ (n : Int) (f : Addr), x = .ref d ∧ y = .int n ∧ kvs.lookup n = some f ∧ Q (.ref f) H2) h fun v u s2 x y H2 I2 rx ry q => ?_)
  obtain ⟨n, f, ex, ey, e, q⟩ := q
  subst ex ey
  obtain rfl : v = Value.ref d := rx
  obtain ⟨t, rfl⟩ := (show ∃ t, u = Value.int n t from ry)
  have hm := D.map X.prog X.w I2.kIn
  exact tail_any hm.typeIs slot_dict_getitem.lookup (wpAny_getItem_of (intKind_is X.prog X.w n t) hm (by rw [e]; rfl) ⟨.ref f, H2, I2.tok _, rfl, q⟩) (hs _ _)
end
section
variable {X : Cx} {x : Str} {pos : Pos}
theorem pe_gi {n : Int} (h : GInt X.mg x n) (hg : Gl X x := by rfl) (hd : (x == ("__debug__" : Str)) = false := by decide) : PE X (.Name x pos) (tC (.int n)) := by
  obtain ⟨t, h⟩ := h
  exact pe_glob hg h ⟨t, rfl⟩ hd
end
/-! ### defs, methods, classes of the text; those that keep a promise -/
structure Def (K : PySem.W.Frag) (mg : Str → Option Value) (x : Str) (st : Stmt) (ps : List Str) : Prop where
  ex : ∃ f fd, Fun K x x st f fd ∧ mg x = some (.ref f) ∧ Binds K fd ps []
structure Met (K : PySem.W.Frag) (C : Addr) (m qual : Str) (st : Stmt) (ps : List Str) : Prop where
  ex : ∃ f fd, Fun K m qual st f fd ∧ Meth K C m f ∧ Binds K fd ps []
structure Ini (K : PySem.W.Frag) (C : Addr) (qual : Str) (st : Stmt) (ps : List Str) : Prop where
  ex : ∃ f fd, Fun K "__init__" qual st f fd ∧ Mk K C f ∧ Binds K fd ps []
section
variable (P : Program) (w : World) (K : PySem.W.Frag) (mg : Str → Option Value) (base : Heap)
structure Cal (k : Nat) (x : Str) (sp : Sp) : Prop where
  ex : ∃ f fd ps, FnOk P w K mg base CX0 k f fd ps sp ∧ mg x = some (.ref f) ∧ PySem.W.keepIn K (.ref f) = true ∧ Binds K fd ps []
structure MCal (k : Nat) (C : Addr) (m : Str) (sp : Sp) : Prop where
  ex : ∃ f fd ps, FnOk P w K mg base CX0 k f fd ps sp ∧ Meth K C m f ∧ Binds K fd ps []
structure ICal (k : Nat) (x : Str) (C : Addr) (sp : Sp) : Prop where
  ex : ∃ f fd ps, FnOk P w K mg base CX0 k f fd ps sp ∧ Mk K C f ∧ mg x = some (.ref C) ∧ Binds K fd ps []
end
section
variable {P : Program} {w : World} {K : PySem.W.Frag} {mg : Str → Option Value} {base : Heap}
theorem Def.cal {x : Str} {st : Stmt} {N ps : List Str} {k : Nat} {sp : Sp} (D : Def K mg x st ps) (S : FnScope N ps (defScope st)) (len : ∀ vs H Q E, sp vs H Q E → vs.length = ps.length)
    (hbody : ∀ (f : Addr) (cdv : Value) (A : Around) (outer : List Env) (s : Shared) (H : Hp) (vs : List V) (Q : VK) (E : XK), Room k (A.deeper (envOfC x (defScope st) s.heap.objs.size f cdv)) → sp vs H Q E →
      ∃ t, PSs (cxOf CX0 P w K mg base N x (defScope st) f cdv A outer s H E).nox (defBody st) t ∧ t { nx := fun _ H' => Q .non H', rt := Q } (start N vs) H) : Cal P w K mg base (k + 1) x sp := by
  obtain ⟨f, fd, F, m, b⟩ := D.ex
  exact ⟨f, fd, ps, F.ok S len (hbody f), m, F.kp, b⟩
theorem Met.cal {C : Addr} {m q : Str} {st : Stmt} {N ps : List Str} {k : Nat} {sp : Sp} (D : Met K C m q st ps) (S : FnScope N ps (defScope st)) (len : ∀ vs H Q E, sp vs H Q E → vs.length = ps.length)
    (hbody : ∀ (f : Addr) (cdv : Value) (A : Around) (outer : List Env) (s : Shared) (H : Hp) (vs : List V) (Q : VK) (E : XK), Room k (A.deeper (envOfC q (defScope st) s.heap.objs.size f cdv)) → sp vs H Q E →
      ∃ t, PSs (cxOf CX0 P w K mg base N q (defScope st) f cdv A outer s H E).nox (defBody st) t ∧ t { nx := fun _ H' => Q .non H', rt := Q } (start N vs) H) : MCal P w K mg base (k + 1) C m sp := by
  obtain ⟨f, fd, F, m, b⟩ := D.ex
  exact ⟨f, fd, ps, F.ok S len (hbody f), m, b⟩
theorem Ini.cal {x : Str} {C : Addr} {q : Str} {st : Stmt} {N ps : List Str} {k : Nat} {sp : Sp} (D : Ini K C q st ps) (hm : mg x = some (.ref C)) (S : FnScope N ps (defScope st)) (len : ∀ vs H Q E, sp vs H Q E → vs.length = ps.length)
    (hbody : ∀ (f : Addr) (cdv : Value) (A : Around) (outer : List Env) (s : Shared) (H : Hp) (vs : List V) (Q : VK) (E : XK), Room k (A.deeper (envOfC q (defScope st) s.heap.objs.size f cdv)) → sp vs H Q E →
      ∃ t, PSs (cxOf CX0 P w K mg base N q (defScope st) f cdv A outer s H E).nox (defBody st) t ∧ t { nx := fun _ H' => Q .non H', rt := Q } (start N vs) H) : ICal P w K mg base (k + 1) x C sp := by
  obtain ⟨f, fd, F, m, b⟩ := D.ex
  exact ⟨f, fd, ps, F.ok S len (hbody f), m, hm, b⟩
end
/-- readings without the defaults' list -/
def tCal (sp : Sp) (t : TA) : TE := fun σ H Q => t σ H fun vs H1 => sp vs H1 Q E0
def tMet (C : Addr) (m : Str) (sp : Sp) (ta : TE) (t : TA) : TE := fun σ H Q => ta σ H fun x H1 => ∃ a dx fs, x = .ref a ∧ H1 a = some (.ins C dx fs) ∧ fs.lookup m = none ∧ t σ H1 fun vs H2 => sp (x :: vs) H2 Q E0
def tNew (C : Addr) (sp : Sp) (t : TA) : TE := fun σ H Q => t σ H fun vs H1 => ∀ x dx, H1 x = none → H1 dx = none → dx ≠ x →
  sp (.ref x :: vs) (upd (upd H1 dx (.own x)) x (.ins C dx [])) (fun v H2 => v = .non ∧ Q (.ref x) H2) E0
section
variable {X : Cx} {k : Nat} {sp : Sp} {x m : Str} {C : Addr} {p apos pos : Pos} {o e : Expr} {es : List Expr} {ta : TE} {t : TA}
theorem pe_cal (c : Cal X.prog X.w X.K X.mg X.base k x sp) (hr : Room k X.A) (ha : PA X (e :: es) t) (hg : Gl X x := by rfl) (hdb : (x == ("__debug__" : Str)) = false := by decide)
    (he : starEach (e :: es) X.env = (false, eval e X.env) :: starEach es X.env := by rfl) (hpl : (backTo pos (starEach es X.env)).any (·.1) = false := by rfl) : PE X (.Call (.Name x p) (e :: es) [] pos) (tCal sp t) := by
  obtain ⟨f, fd, ps, F, hm, hk, hb⟩ := c.ex
  refine ⟨fun pins s σ H Q I h => ?_⟩
  refine (pe_call (dvs := []) F hr hg hm hk hb .nil pass0 ha hdb he hpl).run pins s σ H Q I ?_
  show t σ H fun vs H1 => sp (vs ++ []) H1 Q E0
  simp only [List.append_nil]
  exact h
theorem pe_mcal {pl : Sem Bool} (he : PE X o ta) (cl : Cls X.K C) (c : MCal X.prog X.w X.K X.mg X.base k C m sp) (hr : Room k X.A) (ha : PA X (e :: es) t)
    (hst : starEach (e :: es) X.env = (false, eval e X.env) :: starEach es X.env := by rfl) (hpl : (backTo pos (starEach es X.env)).any (·.1) = false := by rfl)
    (ht : eval (.Call (.Attribute o m apos) (e :: es) [] pos) X.env = (do
      let ov ← eval o X.env
      standAt apos.atName
      let (f, first) ← holding [ov] (getMethod ov m pl)
      callWith pos f first (backTo pos (starEach (e :: es) X.env)) (backToKw pos (keywordEach [] X.env))) := by rfl) :
    PE X (.Call (.Attribute o m apos) (e :: es) [] pos) (tMet C m sp ta t) := by
  obtain ⟨f, fd, ps, F, hm, hb⟩ := c.ex
  refine ⟨fun pins s σ H Q I h => ?_⟩
  refine (pe_meth (dvs := []) he cl hm F hr hb .nil pass0 ha hst hpl ht).run pins s σ H Q I ?_
  show ta σ H fun x H1 => ∃ a dx fs, x = .ref a ∧ H1 a = some (.ins C dx fs) ∧ fs.lookup m = none ∧ t σ H1 fun vs H2 => sp (x :: (vs ++ [])) H2 Q E0
  simp only [List.append_nil]
  exact h
theorem pe_mcal0 {pl : Sem Bool} (he : PE X o ta) (cl : Cls X.K C) (c : MCal X.prog X.w X.K X.mg X.base k C m sp) (hr : Room k X.A)
    (ht : eval (.Call (.Attribute o m apos) [] [] pos) X.env = (do
      let ov ← eval o X.env
      standAt apos.atName
      let (f, first) ← holding [ov] (getMethod ov m pl)
      callWith pos f first (backTo pos (starEach [] X.env)) (backToKw pos (keywordEach [] X.env))) := by rfl) :
    PE X (.Call (.Attribute o m apos) [] [] pos) (tMet C m sp ta tNil) := by
  obtain ⟨f, fd, ps, F, hm, hb⟩ := c.ex
  exact ⟨fun pins s σ H Q I h => (pe_meth0 (dvs := []) he cl hm F hr hb .nil pass0 ht).run pins s σ H Q I h⟩
theorem pe_new (c : ICal X.prog X.w X.K X.mg X.base k x C sp) (hr : Room (k + 1) X.A) (ha : PA X (e :: es) t) (hg : Gl X x := by rfl) (hdb : (x == ("__debug__" : Str)) = false := by decide)
    (he : starEach (e :: es) X.env = (false, eval e X.env) :: starEach es X.env := by rfl) (hpl : (backTo pos (starEach es X.env)).any (·.1) = false := by rfl) : PE X (.Call (.Name x p) (e :: es) [] pos) (tNew C sp t) := by
  obtain ⟨f, fd, ps, F, M, hm, hb⟩ := c.ex
  refine ⟨fun pins s σ H Q I h => ?_⟩
  refine (pe_make (dvs := []) M F hr hg hm hb .nil pass0 ha hdb he hpl).run pins s σ H Q I ?_
  show t σ H fun vs H1 => ∀ x dx, H1 x = none → H1 dx = none → dx ≠ x → sp (.ref x :: (vs ++ [])) (upd (upd H1 dx (.own x)) x (.ins C dx [])) (fun v H2 => v = .non ∧ Q (.ref x) H2) E0
  simp only [List.append_nil]
  exact h
theorem pe_new0 (c : ICal X.prog X.w X.K X.mg X.base k x C sp) (hr : Room (k + 1) X.A) (hg : Gl X x := by rfl) (hdb : (x == ("__debug__" : Str)) = false := by decide) : PE X (.Call (.Name x p) [] [] pos) (tNew C sp tNil) := by
  obtain ⟨f, fd, ps, F, M, hm, hb⟩ := c.ex
  exact ⟨fun pins s σ H Q I h => (pe_make0 (dvs := []) M F hr hg hm hb .nil pass0 hdb).run pins s σ H Q I h⟩
end
/-! ### the text by places, its scopes, the facts of the top -/
def top (i : Nat) : Stmt := PySem.Challenge.pw_framecard_s01_answers.main.body.getD i (.Pass ⟨0, 0, 0, 0⟩)
abbrev s_folded : Stmt := top 5
abbrev s_word_at : Stmt := top 6
abbrev s_sum_by_ones : Stmt := top 7
abbrev s_check_of : Stmt := top 8
abbrev s_mended_check : Stmt := top 9
abbrev s_halved : Stmt := top 10
abbrev s_divided_by_byte : Stmt := top 11
abbrev s_rest_of : Stmt := top 12
abbrev s_octets_of : Stmt := top 27
abbrev s_number_at : Stmt := top 28
abbrev s_with_rest : Stmt := top 29
abbrev s_head_of : Stmt := top 30
abbrev s_frame_of : Stmt := top 31
abbrev s_flow_in : Stmt := top 32
abbrev s_place_in : Stmt := top 33
abbrev s_long_in : Stmt := top 34
abbrev s_marks_in : Stmt := top 35
abbrev s_hops_in : Stmt := top 36
abbrev s_body_in : Stmt := top 37
abbrev s_has_right_rest : Stmt := top 38
abbrev s_has_right_sum : Stmt := top 39
abbrev s_fault_of : Stmt := top 40
abbrev s_passed_on : Stmt := top 41
abbrev s_marks_of : Stmt := top 42
abbrev s_Held_init : Stmt := inClass (top 46) 0
abbrev s_House_init : Stmt := inClass (top 47) 0
abbrev s_add_frames : Stmt := inClass (top 47) 1
abbrev s_take_frame : Stmt := inClass (top 47) 2
abbrev s_holds : Stmt := inClass (top 47) 3
abbrev s_held_of : Stmt := inClass (top 47) 4
abbrev s_let_go : Stmt := inClass (top 47) 5
abbrev s_hold : Stmt := inClass (top 47) 6
abbrev s_many_flows : Stmt := inClass (top 47) 7
abbrev s_keep_whole : Stmt := inClass (top 47) 8
abbrev s_count_faulty : Stmt := inClass (top 47) 9
abbrev s_count_answer : Stmt := inClass (top 47) 10
abbrev s_place_behind : Stmt := top 48
abbrev s_frames_of : Stmt := top 49
abbrev s_ended : Stmt := top 60
abbrev s_begun : Stmt := top 61
abbrev s_gone_on : Stmt := top 62
abbrev s_joined : Stmt := top 63
abbrev s_is_between : Stmt := top 76
abbrev s_sum_said : Stmt := top 77
abbrev s_crc_said : Stmt := top 78
abbrev s_check_said : Stmt := top 79
abbrev s_pass_said : Stmt := top 80
abbrev s_may_open : Stmt := top 81
abbrev s_house_of : Stmt := top 82
abbrev s_cut_said : Stmt := top 83
abbrev s_next_said : Stmt := top 84
abbrev s_join_said : Stmt := top 85
abbrev s_held_said : Stmt := top 86
abbrev s_drop_said : Stmt := top 87
abbrev s_counts_said : Stmt := top 88
abbrev s_message_said : Stmt := top 89
abbrev s_Card_init : Stmt := inClass (top 95) 0
abbrev s_opened : Stmt := inClass (top 95) 1
abbrev s_told : Stmt := inClass (top 95) 2
abbrev s_calls_in : Stmt := top 96
abbrev s_answers : Stmt := top 97
theorem sc_folded : FnScope ["total"] ["total"] (defScope s_folded) := ⟨rfl, rfl, rfl, by decide +kernel, rfl, by decide +kernel, by decide +kernel⟩
theorem sc_word_at : FnScope ["row", "at", "low"] ["row", "at"] (defScope s_word_at) := ⟨rfl, rfl, rfl, by decide +kernel, rfl, by decide +kernel, by decide +kernel⟩
theorem sc_sum_by_ones : FnScope ["row", "total", "at"] ["row"] (defScope s_sum_by_ones) := ⟨rfl, rfl, rfl, by decide +kernel, rfl, by decide +kernel, by decide +kernel⟩
theorem sc_check_of : FnScope ["row"] ["row"] (defScope s_check_of) := ⟨rfl, rfl, rfl, by decide +kernel, rfl, by decide +kernel, by decide +kernel⟩
theorem sc_mended_check : FnScope ["total", "word"] ["total", "word"] (defScope s_mended_check) := ⟨rfl, rfl, rfl, by decide +kernel, rfl, by decide +kernel, by decide +kernel⟩
theorem sc_halved : FnScope ["rest"] ["rest"] (defScope s_halved) := ⟨rfl, rfl, rfl, by decide +kernel, rfl, by decide +kernel, by decide +kernel⟩
theorem sc_divided_by_byte : FnScope ["rest", "octet", "turn"] ["rest", "octet"] (defScope s_divided_by_byte) := ⟨rfl, rfl, rfl, by decide +kernel, rfl, by decide +kernel, by decide +kernel⟩
theorem sc_rest_of : FnScope ["row", "rest", "octet"] ["row"] (defScope s_rest_of) := ⟨rfl, rfl, rfl, by decide +kernel, rfl, by decide +kernel, by decide +kernel⟩
theorem sc_octets_of : FnScope ["number", "many", "found", "turn"] ["number", "many"] (defScope s_octets_of) := ⟨rfl, rfl, rfl, by decide +kernel, rfl, by decide +kernel, by decide +kernel⟩
theorem sc_number_at : FnScope ["row", "at", "many", "number", "octet"] ["row", "at", "many"] (defScope s_number_at) := ⟨rfl, rfl, rfl, by decide +kernel, rfl, by decide +kernel, by decide +kernel⟩
theorem sc_with_rest : FnScope ["row"] ["row"] (defScope s_with_rest) := ⟨rfl, rfl, rfl, by decide +kernel, rfl, by decide +kernel, by decide +kernel⟩
theorem sc_head_of : FnScope ["flow", "place", "many", "marks", "hops", "total", "ahead"] ["flow", "place", "many", "marks", "hops", "total"] (defScope s_head_of) := ⟨rfl, rfl, rfl, by decide +kernel, rfl, by decide +kernel, by decide +kernel⟩
theorem sc_frame_of : FnScope ["flow", "place", "marks", "hops", "body", "bare", "head"] ["flow", "place", "marks", "hops", "body"] (defScope s_frame_of) := ⟨rfl, rfl, rfl, by decide +kernel, rfl, by decide +kernel, by decide +kernel⟩
theorem sc_flow_in : FnScope ["frame"] ["frame"] (defScope s_flow_in) := ⟨rfl, rfl, rfl, by decide +kernel, rfl, by decide +kernel, by decide +kernel⟩
theorem sc_place_in : FnScope ["frame"] ["frame"] (defScope s_place_in) := ⟨rfl, rfl, rfl, by decide +kernel, rfl, by decide +kernel, by decide +kernel⟩
theorem sc_long_in : FnScope ["frame"] ["frame"] (defScope s_long_in) := ⟨rfl, rfl, rfl, by decide +kernel, rfl, by decide +kernel, by decide +kernel⟩
theorem sc_marks_in : FnScope ["frame"] ["frame"] (defScope s_marks_in) := ⟨rfl, rfl, rfl, by decide +kernel, rfl, by decide +kernel, by decide +kernel⟩
theorem sc_hops_in : FnScope ["frame"] ["frame"] (defScope s_hops_in) := ⟨rfl, rfl, rfl, by decide +kernel, rfl, by decide +kernel, by decide +kernel⟩
theorem sc_body_in : FnScope ["frame"] ["frame"] (defScope s_body_in) := ⟨rfl, rfl, rfl, by decide +kernel, rfl, by decide +kernel, by decide +kernel⟩
theorem sc_has_right_rest : FnScope ["frame"] ["frame"] (defScope s_has_right_rest) := ⟨rfl, rfl, rfl, by decide +kernel, rfl, by decide +kernel, by decide +kernel⟩
theorem sc_has_right_sum : FnScope ["frame"] ["frame"] (defScope s_has_right_sum) := ⟨rfl, rfl, rfl, by decide +kernel, rfl, by decide +kernel, by decide +kernel⟩
theorem sc_fault_of : FnScope ["frame"] ["frame"] (defScope s_fault_of) := ⟨rfl, rfl, rfl, by decide +kernel, rfl, by decide +kernel, by decide +kernel⟩
theorem sc_passed_on : FnScope ["frame", "word", "total"] ["frame"] (defScope s_passed_on) := ⟨rfl, rfl, rfl, by decide +kernel, rfl, by decide +kernel, by decide +kernel⟩
theorem sc_marks_of : FnScope ["is_first", "is_last", "marks"] ["is_first", "is_last"] (defScope s_marks_of) := ⟨rfl, rfl, rfl, by decide +kernel, rfl, by decide +kernel, by decide +kernel⟩
theorem sc_Held_init : FnScope ["self", "octets", "place"] ["self", "octets", "place"] (defScope s_Held_init) := ⟨rfl, rfl, rfl, by decide +kernel, rfl, by decide +kernel, by decide +kernel⟩
theorem sc_House_init : FnScope ["self", "size", "hops"] ["self", "size", "hops"] (defScope s_House_init) := ⟨rfl, rfl, rfl, by decide +kernel, rfl, by decide +kernel, by decide +kernel⟩
theorem sc_add_frames : FnScope ["self", "frames"] ["self", "frames"] (defScope s_add_frames) := ⟨rfl, rfl, rfl, by decide +kernel, rfl, by decide +kernel, by decide +kernel⟩
theorem sc_take_frame : FnScope ["self"] ["self"] (defScope s_take_frame) := ⟨rfl, rfl, rfl, by decide +kernel, rfl, by decide +kernel, by decide +kernel⟩
theorem sc_holds : FnScope ["self", "flow"] ["self", "flow"] (defScope s_holds) := ⟨rfl, rfl, rfl, by decide +kernel, rfl, by decide +kernel, by decide +kernel⟩
theorem sc_held_of : FnScope ["self", "flow"] ["self", "flow"] (defScope s_held_of) := ⟨rfl, rfl, rfl, by decide +kernel, rfl, by decide +kernel, by decide +kernel⟩
theorem sc_let_go : FnScope ["self", "flow"] ["self", "flow"] (defScope s_let_go) := ⟨rfl, rfl, rfl, by decide +kernel, rfl, by decide +kernel, by decide +kernel⟩
theorem sc_hold : FnScope ["self", "flow", "octets", "place"] ["self", "flow", "octets", "place"] (defScope s_hold) := ⟨rfl, rfl, rfl, by decide +kernel, rfl, by decide +kernel, by decide +kernel⟩
theorem sc_many_flows : FnScope ["self"] ["self"] (defScope s_many_flows) := ⟨rfl, rfl, rfl, by decide +kernel, rfl, by decide +kernel, by decide +kernel⟩
theorem sc_keep_whole : FnScope ["self", "octets"] ["self", "octets"] (defScope s_keep_whole) := ⟨rfl, rfl, rfl, by decide +kernel, rfl, by decide +kernel, by decide +kernel⟩
theorem sc_count_faulty : FnScope ["self"] ["self"] (defScope s_count_faulty) := ⟨rfl, rfl, rfl, by decide +kernel, rfl, by decide +kernel, by decide +kernel⟩
theorem sc_count_answer : FnScope ["self", "answer"] ["self", "answer"] (defScope s_count_answer) := ⟨rfl, rfl, rfl, by decide +kernel, rfl, by decide +kernel, by decide +kernel⟩
theorem sc_place_behind : FnScope ["place", "many"] ["place", "many"] (defScope s_place_behind) := ⟨rfl, rfl, rfl, by decide +kernel, rfl, by decide +kernel, by decide +kernel⟩
theorem sc_frames_of : FnScope ["house", "flow", "place", "message", "found", "start", "body", "marks"] ["house", "flow", "place", "message"] (defScope s_frames_of) := ⟨rfl, rfl, rfl, by decide +kernel, rfl, by decide +kernel, by decide +kernel⟩
theorem sc_ended : FnScope ["house", "flow", "octets"] ["house", "flow", "octets"] (defScope s_ended) := ⟨rfl, rfl, rfl, by decide +kernel, rfl, by decide +kernel, by decide +kernel⟩
theorem sc_begun : FnScope ["house", "flow", "frame", "alone", "body"] ["house", "flow", "frame"] (defScope s_begun) := ⟨rfl, rfl, rfl, by decide +kernel, rfl, by decide +kernel, by decide +kernel⟩
theorem sc_gone_on : FnScope ["house", "flow", "frame", "held", "body", "octets"] ["house", "flow", "frame"] (defScope s_gone_on) := ⟨rfl, rfl, rfl, by decide +kernel, rfl, by decide +kernel, by decide +kernel⟩
theorem sc_joined : FnScope ["house", "frame", "fault", "flow", "answer"] ["house", "frame"] (defScope s_joined) := ⟨rfl, rfl, rfl, by decide +kernel, rfl, by decide +kernel, by decide +kernel⟩
theorem sc_is_between : FnScope ["number", "least", "most"] ["number", "least", "most"] (defScope s_is_between) := ⟨rfl, rfl, rfl, by decide +kernel, rfl, by decide +kernel, by decide +kernel⟩
theorem sc_sum_said : FnScope ["numbers"] ["numbers"] (defScope s_sum_said) := ⟨rfl, rfl, rfl, by decide +kernel, rfl, by decide +kernel, by decide +kernel⟩
theorem sc_crc_said : FnScope ["numbers"] ["numbers"] (defScope s_crc_said) := ⟨rfl, rfl, rfl, by decide +kernel, rfl, by decide +kernel, by decide +kernel⟩
theorem sc_check_said : FnScope ["numbers", "frame", "fault"] ["numbers"] (defScope s_check_said) := ⟨rfl, rfl, rfl, by decide +kernel, rfl, by decide +kernel, by decide +kernel⟩
theorem sc_pass_said : FnScope ["numbers", "frame", "fault"] ["numbers"] (defScope s_pass_said) := ⟨rfl, rfl, rfl, by decide +kernel, rfl, by decide +kernel, by decide +kernel⟩
theorem sc_may_open : FnScope ["numbers"] ["numbers"] (defScope s_may_open) := ⟨rfl, rfl, rfl, by decide +kernel, rfl, by decide +kernel, by decide +kernel⟩
theorem sc_house_of : FnScope ["numbers"] ["numbers"] (defScope s_house_of) := ⟨rfl, rfl, rfl, by decide +kernel, rfl, by decide +kernel, by decide +kernel⟩
theorem sc_cut_said : FnScope ["house", "numbers", "flow", "place", "many", "frames"] ["house", "numbers"] (defScope s_cut_said) := ⟨rfl, rfl, rfl, by decide +kernel, rfl, by decide +kernel, by decide +kernel⟩
theorem sc_next_said : FnScope ["house", "numbers", "frame"] ["house", "numbers"] (defScope s_next_said) := ⟨rfl, rfl, rfl, by decide +kernel, rfl, by decide +kernel, by decide +kernel⟩
theorem sc_join_said : FnScope ["house", "numbers"] ["house", "numbers"] (defScope s_join_said) := ⟨rfl, rfl, rfl, by decide +kernel, rfl, by decide +kernel, by decide +kernel⟩
theorem sc_held_said : FnScope ["house", "numbers", "flow", "held"] ["house", "numbers"] (defScope s_held_said) := ⟨rfl, rfl, rfl, by decide +kernel, rfl, by decide +kernel, by decide +kernel⟩
theorem sc_drop_said : FnScope ["house", "numbers", "flow"] ["house", "numbers"] (defScope s_drop_said) := ⟨rfl, rfl, rfl, by decide +kernel, rfl, by decide +kernel, by decide +kernel⟩
theorem sc_counts_said : FnScope ["house", "numbers"] ["house", "numbers"] (defScope s_counts_said) := ⟨rfl, rfl, rfl, by decide +kernel, rfl, by decide +kernel, by decide +kernel⟩
theorem sc_message_said : FnScope ["house", "numbers"] ["house", "numbers"] (defScope s_message_said) := ⟨rfl, rfl, rfl, by decide +kernel, rfl, by decide +kernel, by decide +kernel⟩
theorem sc_Card_init : FnScope ["self"] ["self"] (defScope s_Card_init) := ⟨rfl, rfl, rfl, by decide +kernel, rfl, by decide +kernel, by decide +kernel⟩
theorem sc_opened : FnScope ["self", "numbers"] ["self", "numbers"] (defScope s_opened) := ⟨rfl, rfl, rfl, by decide +kernel, rfl, by decide +kernel, by decide +kernel⟩
theorem sc_told : FnScope ["self", "number", "numbers", "bare", "deed"] ["self", "number", "numbers"] (defScope s_told) := ⟨rfl, rfl, rfl, by decide +kernel, rfl, by decide +kernel, by decide +kernel⟩
theorem sc_calls_in : FnScope ["calls", "found", "at", "start", "end"] ["calls"] (defScope s_calls_in) := ⟨rfl, rfl, rfl, by decide +kernel, rfl, by decide +kernel, by decide +kernel⟩
theorem sc_answers : FnScope ["calls", "card", "found", "number", "numbers", "told"] ["calls"] (defScope s_answers) := ⟨rfl, rfl, rfl, by decide +kernel, rfl, by decide +kernel, by decide +kernel⟩
/-- what the top has written -/
structure Txt (K : PySem.W.Frag) (mg : Str → Option Value) (CE CH CC : Addr) : Prop where
  n_len : mg "len" = none
  n_range : mg "range" = none
  c_WORD : GInt mg "WORD" 65536
  c_LAST_WORD : GInt mg "LAST_WORD" 65535
  c_ALL_ONES : GInt mg "ALL_ONES" 4294967295
  c_DIVIDER : GInt mg "DIVIDER" 3988292384
  c_HEAD : GInt mg "HEAD" 12
  c_REST : GInt mg "REST" 4
  c_LEAST : GInt mg "LEAST" 16
  c_FLOW_AT : GInt mg "FLOW_AT" 0
  c_PLACE_AT : GInt mg "PLACE_AT" 2
  c_LONG_AT : GInt mg "LONG_AT" 6
  c_MARKS_AT : GInt mg "MARKS_AT" 8
  c_HOPS_AT : GInt mg "HOPS_AT" 9
  c_SUM_AT : GInt mg "SUM_AT" 10
  c_BEGINS : GInt mg "BEGINS" 1
  c_ENDS : GInt mg "ENDS" 2
  c_ALONE : GInt mg "ALONE" 3
  c_MOST_MARKS : GInt mg "MOST_MARKS" 3
  c_PLACES : GInt mg "PLACES" 4294967296
  c_MOST_FLOWS : GInt mg "MOST_FLOWS" 8
  c_MOST_LONG : GInt mg "MOST_LONG" 4096
  c_BEGAN : GInt mg "BEGAN" 0
  c_GOES_ON : GInt mg "GOES_ON" 1
  c_WHOLE : GInt mg "WHOLE" 2
  c_NOTHING_HELD : GInt mg "NOTHING_HELD" 3
  c_ELSEWHERE : GInt mg "ELSEWHERE" 4
  c_TOO_LONG : GInt mg "TOO_LONG" 5
  c_NO_ROOM : GInt mg "NO_ROOM" 6
  c_FAULTY_joining : GInt mg "FAULTY_joining" 10
  c_NOT_AS_TOLD : GInt mg "NOT_AS_TOLD" (-2)
  c_TOO_MANY : GInt mg "TOO_MANY" (-5)
  c_NONE_THERE : GInt mg "NONE_THERE" (-6)
  c_FAULTY_asks : GInt mg "FAULTY_asks" (-10)
  c_LEAST_SIZE : GInt mg "LEAST_SIZE" 16
  c_MOST_SIZE : GInt mg "MOST_SIZE" 1024
  c_MOST_HOPS : GInt mg "MOST_HOPS" 255
  c_MOST_BYTES : GInt mg "MOST_BYTES" 4096
  c_MOST_FRAME : GInt mg "MOST_FRAME" 1040
  c_MOST_FLOW : GInt mg "MOST_FLOW" 65535
  c_MOST_READY : GInt mg "MOST_READY" 64
  c_OPEN : GInt mg "OPEN" 1
  c_NO_HOUSE : GInt mg "NO_HOUSE" (-7)
  t_BARE : ∃ (d f2 f3 f6 f7 : Addr), KTab K mg "BARE" d [(2, f2), (3, f3), (6, f6), (7, f7)] ∧ mg "sum_said" = some (.ref f2) ∧ mg "crc_said" = some (.ref f3) ∧ mg "check_said" = some (.ref f6) ∧ mg "pass_said" = some (.ref f7)
  t_HOUSED : ∃ (d f4 f5 f8 f9 f10 f11 f12 : Addr), KTab K mg "HOUSED" d [(4, f4), (5, f5), (8, f8), (9, f9), (10, f10), (11, f11), (12, f12)] ∧ mg "cut_said" = some (.ref f4) ∧ mg "next_said" = some (.ref f5) ∧ mg "join_said" = some (.ref f8) ∧ mg "held_said" = some (.ref f9) ∧ mg "drop_said" = some (.ref f10) ∧ mg "counts_said" = some (.ref f11) ∧ mg "message_said" = some (.ref f12)
  clE : Cls K CE
  mgE : mg "Held" = some (.ref CE)
  noE_octets : NoAttr K CE "octets"
  noE_place : NoAttr K CE "place"
  clH : Cls K CH
  mgH : mg "House" = some (.ref CH)
  noH_size : NoAttr K CH "size"
  noH_hops : NoAttr K CH "hops"
  noH_ready : NoAttr K CH "ready"
  noH_flows : NoAttr K CH "flows"
  noH_whole : NoAttr K CH "whole"
  noH_faulty : NoAttr K CH "faulty"
  noH_good : NoAttr K CH "good"
  noH_bad : NoAttr K CH "bad"
  clC : Cls K CC
  mgC : mg "Card" = some (.ref CC)
  noC_house : NoAttr K CC "house"
  d_folded : Def K mg "folded" s_folded ["total"]
  d_word_at : Def K mg "word_at" s_word_at ["row", "at"]
  d_sum_by_ones : Def K mg "sum_by_ones" s_sum_by_ones ["row"]
  d_check_of : Def K mg "check_of" s_check_of ["row"]
  d_mended_check : Def K mg "mended_check" s_mended_check ["total", "word"]
  d_halved : Def K mg "halved" s_halved ["rest"]
  d_divided_by_byte : Def K mg "divided_by_byte" s_divided_by_byte ["rest", "octet"]
  d_rest_of : Def K mg "rest_of" s_rest_of ["row"]
  d_octets_of : Def K mg "octets_of" s_octets_of ["number", "many"]
  d_number_at : Def K mg "number_at" s_number_at ["row", "at", "many"]
  d_with_rest : Def K mg "with_rest" s_with_rest ["row"]
  d_head_of : Def K mg "head_of" s_head_of ["flow", "place", "many", "marks", "hops", "total"]
  d_frame_of : Def K mg "frame_of" s_frame_of ["flow", "place", "marks", "hops", "body"]
  d_flow_in : Def K mg "flow_in" s_flow_in ["frame"]
  d_place_in : Def K mg "place_in" s_place_in ["frame"]
  d_long_in : Def K mg "long_in" s_long_in ["frame"]
  d_marks_in : Def K mg "marks_in" s_marks_in ["frame"]
  d_hops_in : Def K mg "hops_in" s_hops_in ["frame"]
  d_body_in : Def K mg "body_in" s_body_in ["frame"]
  d_has_right_rest : Def K mg "has_right_rest" s_has_right_rest ["frame"]
  d_has_right_sum : Def K mg "has_right_sum" s_has_right_sum ["frame"]
  d_fault_of : Def K mg "fault_of" s_fault_of ["frame"]
  d_passed_on : Def K mg "passed_on" s_passed_on ["frame"]
  d_marks_of : Def K mg "marks_of" s_marks_of ["is_first", "is_last"]
  i_Held_init : Ini K CE "Held.__init__" s_Held_init ["self", "octets", "place"]
  i_House_init : Ini K CH "House.__init__" s_House_init ["self", "size", "hops"]
  m_add_frames : Met K CH "add_frames" "House.add_frames" s_add_frames ["self", "frames"]
  m_take_frame : Met K CH "take_frame" "House.take_frame" s_take_frame ["self"]
  m_holds : Met K CH "holds" "House.holds" s_holds ["self", "flow"]
  m_held_of : Met K CH "held_of" "House.held_of" s_held_of ["self", "flow"]
  m_let_go : Met K CH "let_go" "House.let_go" s_let_go ["self", "flow"]
  m_hold : Met K CH "hold" "House.hold" s_hold ["self", "flow", "octets", "place"]
  m_many_flows : Met K CH "many_flows" "House.many_flows" s_many_flows ["self"]
  m_keep_whole : Met K CH "keep_whole" "House.keep_whole" s_keep_whole ["self", "octets"]
  m_count_faulty : Met K CH "count_faulty" "House.count_faulty" s_count_faulty ["self"]
  m_count_answer : Met K CH "count_answer" "House.count_answer" s_count_answer ["self", "answer"]
  d_place_behind : Def K mg "place_behind" s_place_behind ["place", "many"]
  d_frames_of : Def K mg "frames_of" s_frames_of ["house", "flow", "place", "message"]
  d_ended : Def K mg "ended" s_ended ["house", "flow", "octets"]
  d_begun : Def K mg "begun" s_begun ["house", "flow", "frame"]
  d_gone_on : Def K mg "gone_on" s_gone_on ["house", "flow", "frame"]
  d_joined : Def K mg "joined" s_joined ["house", "frame"]
  d_is_between : Def K mg "is_between" s_is_between ["number", "least", "most"]
  d_sum_said : Def K mg "sum_said" s_sum_said ["numbers"]
  d_crc_said : Def K mg "crc_said" s_crc_said ["numbers"]
  d_check_said : Def K mg "check_said" s_check_said ["numbers"]
  d_pass_said : Def K mg "pass_said" s_pass_said ["numbers"]
  d_may_open : Def K mg "may_open" s_may_open ["numbers"]
  d_house_of : Def K mg "house_of" s_house_of ["numbers"]
  d_cut_said : Def K mg "cut_said" s_cut_said ["house", "numbers"]
  d_next_said : Def K mg "next_said" s_next_said ["house", "numbers"]
  d_join_said : Def K mg "join_said" s_join_said ["house", "numbers"]
  d_held_said : Def K mg "held_said" s_held_said ["house", "numbers"]
  d_drop_said : Def K mg "drop_said" s_drop_said ["house", "numbers"]
  d_counts_said : Def K mg "counts_said" s_counts_said ["house", "numbers"]
  d_message_said : Def K mg "message_said" s_message_said ["house", "numbers"]
  i_Card_init : Ini K CC "Card.__init__" s_Card_init ["self"]
  m_opened : Met K CC "opened" "Card.opened" s_opened ["self", "numbers"]
  m_told : Met K CC "told" "Card.told" s_told ["self", "number", "numbers"]
  d_calls_in : Def K mg "calls_in" s_calls_in ["calls"]
  d_answers : Def K mg "answers" s_answers ["calls"]
/-! ### from what the top has written to these facts -/
section
variable {K : PySem.W.Frag} {h : Heap} {mg : Str → Option Value}
theorem gint_mk {x : Str} {n : Int} {t : Tok} (X : K.In h) (G : h.Ns mainGlobals mg) (a : PySem.W.nsIn K mainGlobals x = some (some (.int n t))) : GInt mg x n := ⟨t, PySem.W.mg_of X G a⟩
theorem then_ {p q : Prop} (hp : p) (h : p → q) : q := h hp
/-- a class: its facts and the module's name of it; C is an explicit letter of the facts behind -/
def ClsAt (K : PySem.W.Frag) (mg : Str → Option Value) (x : Str) (C : Addr) : Prop := Cls K C ∧ mg x = some (.ref C)
theorem cls_mk {x : Str} {C : Addr} (X : K.In h) (G : h.Ns mainGlobals mg) (a : PySem.W.nsIn K mainGlobals x = some (some (.ref C))) (pg : PySem.W.plainGet K C Str.empty = true) (hd : PySem.W.hasDictIn K C = true) (po : PySem.W.plainOver K C = true)
    (sa : PySem.W.findIn K (.ref C) "__setattr__" = some (some (.builtin "object.__setattr__"))) : ClsAt K mg x C := ⟨⟨pg, hd, po, sa⟩, PySem.W.mg_of X G a⟩
theorem no_mk {x f : Str} {C : Addr} (c : ClsAt K mg x C) (a : PySem.W.findIn K (.ref C) f = some none) : NoAttr K C f := a
theorem tab_mk {x : Str} {d : Addr} {es : Array DictEntry} {n : Nat} {kvs : List (Int × Addr)} (X : K.In h) (G : h.Ns mainGlobals mg) (a : PySem.W.nsIn K mainGlobals x = some (some (.ref d)))
    (l : K.lookup d = some ⟨.type "dict", none, .dict es n, #[]⟩) (w : (d == sysModules) = false) (ks : KeysAre es.toList kvs) : KTab K mg x d kvs := ⟨PySem.W.mg_of X G a, w, es, n, l, ks⟩
theorem tab_BARE {d f2 f3 f6 f7 : Addr} {es : Array DictEntry} {n : Nat} (X : K.In h) (G : h.Ns mainGlobals mg) (a : PySem.W.nsIn K mainGlobals "BARE" = some (some (.ref d))) (l : K.lookup d = some ⟨.type "dict", none, .dict es n, #[]⟩) (w : (d == sysModules) = false) (m2 : PySem.W.nsIn K mainGlobals "sum_said" = some (some (.ref f2))) (m3 : PySem.W.nsIn K mainGlobals "crc_said" = some (some (.ref f3))) (m6 : PySem.W.nsIn K mainGlobals "check_said" = some (some (.ref f6))) (m7 : PySem.W.nsIn K mainGlobals "pass_said" = some (some (.ref f7))) (ks : KeysAre es.toList [(2, f2), (3, f3), (6, f6), (7, f7)]) :
    ∃ (d f2 f3 f6 f7 : Addr), KTab K mg "BARE" d [(2, f2), (3, f3), (6, f6), (7, f7)] ∧ mg "sum_said" = some (.ref f2) ∧ mg "crc_said" = some (.ref f3) ∧ mg "check_said" = some (.ref f6) ∧ mg "pass_said" = some (.ref f7) :=
  ⟨d, f2, f3, f6, f7, tab_mk X G a l w ks, PySem.W.mg_of X G m2, PySem.W.mg_of X G m3, PySem.W.mg_of X G m6, PySem.W.mg_of X G m7⟩
theorem tab_HOUSED {d f4 f5 f8 f9 f10 f11 f12 : Addr} {es : Array DictEntry} {n : Nat} (X : K.In h) (G : h.Ns mainGlobals mg) (a : PySem.W.nsIn K mainGlobals "HOUSED" = some (some (.ref d))) (l : K.lookup d = some ⟨.type "dict", none, .dict es n, #[]⟩) (w : (d == sysModules) = false) (m4 : PySem.W.nsIn K mainGlobals "cut_said" = some (some (.ref f4))) (m5 : PySem.W.nsIn K mainGlobals "next_said" = some (some (.ref f5))) (m8 : PySem.W.nsIn K mainGlobals "join_said" = some (some (.ref f8))) (m9 : PySem.W.nsIn K mainGlobals "held_said" = some (some (.ref f9))) (m10 : PySem.W.nsIn K mainGlobals "drop_said" = some (some (.ref f10))) (m11 : PySem.W.nsIn K mainGlobals "counts_said" = some (some (.ref f11))) (m12 : PySem.W.nsIn K mainGlobals "message_said" = some (some (.ref f12))) (ks : KeysAre es.toList [(4, f4), (5, f5), (8, f8), (9, f9), (10, f10), (11, f11), (12, f12)]) :
    ∃ (d f4 f5 f8 f9 f10 f11 f12 : Addr), KTab K mg "HOUSED" d [(4, f4), (5, f5), (8, f8), (9, f9), (10, f10), (11, f11), (12, f12)] ∧ mg "cut_said" = some (.ref f4) ∧ mg "next_said" = some (.ref f5) ∧ mg "join_said" = some (.ref f8) ∧ mg "held_said" = some (.ref f9) ∧ mg "drop_said" = some (.ref f10) ∧ mg "counts_said" = some (.ref f11) ∧ mg "message_said" = some (.ref f12) :=
  ⟨d, f4, f5, f8, f9, f10, f11, f12, tab_mk X G a l w ks, PySem.W.mg_of X G m4, PySem.W.mg_of X G m5, PySem.W.mg_of X G m8, PySem.W.mg_of X G m9, PySem.W.mg_of X G m10, PySem.W.mg_of X G m11, PySem.W.mg_of X G m12⟩
theorem def_mk {x : Str} {st : Stmt} {ps : List Str} {f : Addr} {oc : Value} {od an : Option Addr} {osl : Array (Option Value)} {kV doc pm cdv ct : Value} (X : K.In h) (G : h.Ns mainGlobals mg)
    (hb : ∀ (kV doc pm : Value) (an : Option Addr) (cdv ct : Value) (us : List Value), us.length = ps.length → bindArgs (PySem.W.fnOf x x (defArgs st) (defBody st) (defScope st) .none kV doc pm an cdv ct) ⟨us, []⟩ = pure (ps.zip us))
    (a : PySem.W.nsIn K mainGlobals x = some (some (.ref f))) (l : K.lookup f = some ⟨oc, od, .func (PySem.W.fnOf x x (defArgs st) (defBody st) (defScope st) .none kV doc pm an cdv ct), osl⟩)
    (c : PySem.W.codeIn K cdv x = true) (k : PySem.W.keepIn K (.ref f) = true) : Def K mg x st ps :=
  ⟨f, _, fun_mk l c k, PySem.W.mg_of X G a, (fun_mk l c k).binds hb⟩
theorem met_mk {x : Str} {C : Addr} {m q : Str} {st : Stmt} {ps : List Str} {f : Addr} {oc : Value} {od an : Option Addr} {osl : Array (Option Value)} {kV doc pm cdv ct : Value}
    (_ : ClsAt K mg x C)
    (hb : ∀ (kV doc pm : Value) (an : Option Addr) (cdv ct : Value) (us : List Value), us.length = ps.length → bindArgs (PySem.W.fnOf m q (defArgs st) (defBody st) (defScope st) .none kV doc pm an cdv ct) ⟨us, []⟩ = pure (ps.zip us))
    (a : PySem.W.findIn K (.ref C) m = some (some (.ref f))) (i : PySem.W.isFn K (.ref f) = true) (l : K.lookup f = some ⟨oc, od, .func (PySem.W.fnOf m q (defArgs st) (defBody st) (defScope st) .none kV doc pm an cdv ct), osl⟩)
    (c : PySem.W.codeIn K cdv q = true) (k : PySem.W.keepIn K (.ref f) = true) : Met K C m q st ps :=
  ⟨f, _, fun_mk l c k, ⟨a, i, k⟩, (fun_mk l c k).binds hb⟩
theorem ini_mk {x : Str} {C : Addr} {q : Str} {st : Stmt} {ps : List Str} {f : Addr} {oc : Value} {od an : Option Addr} {osl : Array (Option Value)} {kV doc pm cdv ct : Value}
    (_ : ClsAt K mg x C)
    (hb : ∀ (kV doc pm : Value) (an : Option Addr) (cdv ct : Value) (us : List Value), us.length = ps.length → bindArgs (PySem.W.fnOf "__init__" q (defArgs st) (defBody st) (defScope st) .none kV doc pm an cdv ct) ⟨us, []⟩ = pure (ps.zip us))
    (a : PySem.W.findIn K (.ref C) "__init__" = some (some (.ref f))) (i : PySem.W.isFn K (.ref f) = true) (l : K.lookup f = some ⟨oc, od, .func (PySem.W.fnOf "__init__" q (defArgs st) (defBody st) (defScope st) .none kV doc pm an cdv ct), osl⟩)
    (c : PySem.W.codeIn K cdv q = true) (k : PySem.W.keepIn K (.ref f) = true) (mk : PySem.W.makesIn K C = true) (kc : PySem.W.keepIn K (.ref C) = true) : Ini K C q st ps :=
  ⟨f, _, fun_mk l c k, ⟨mk, a, i, kc⟩, (fun_mk l c k).binds hb⟩
end
end FC

/-! Framecard: sums.py walked. -/
namespace FC
open PySem PySem.Spec PyProof.Rows L2
/-! ### lists of whole numbers in the heap -/
def vi (l : List Int) : List V := l.map V.int
def vb (b : List Nat) : List V := b.map fun (n : Nat) => V.int (n : Int)
theorem vb_vi (b : List Nat) : vb b = vi (Sj51.ints b) := by
  unfold vb vi Sj51.ints
  rw [List.map_map]
  rfl
theorem vb_len (b : List Nat) : (vb b).length = b.length := List.length_map _
theorem vi_len (b : List Int) : (vi b).length = b.length := List.length_map _
theorem vb_app (a b : List Nat) : vb (a ++ b) = vb a ++ vb b := List.map_append
theorem vb_get {b : List Nat} {i : Nat} (h : i < b.length) : (vb b)[i]? = some (V.int ((b.getD i 0 : Nat) : Int)) := by
  unfold vb
  rw [List.getElem?_map, List.getElem?_eq_getElem h]
  simp [List.getD, h]
theorem vi_get {b : List Int} {i : Nat} (h : i < b.length) : (vi b)[i]? = some (V.int (b.getD i 0)) := by
  unfold vi
  rw [List.getElem?_map, List.getElem?_eq_getElem h]
  simp [List.getD, h]
theorem cut_tail (b : List V) (i : Nat) : cutV b (some (i : Int)) none = b.drop i := by
  unfold cutV
  rw [HT.sIx_nat, HT.sIx_none]
  by_cases h : i ≤ b.length
  · rw [Nat.min_eq_left h, List.take_of_length_le (by rw [List.length_drop]; omega)]
  · rw [Nat.min_eq_right (by omega), List.drop_eq_nil_of_le (Nat.le_refl _), List.drop_eq_nil_of_le (by omega)]
    simp
theorem cut_head (b : List V) (j : Nat) : cutV b none (some (j : Int)) = b.take j := by
  unfold cutV
  rw [HT.sIx_nat, HT.sIx_none, List.drop_zero, Nat.sub_zero]
  by_cases h : j ≤ b.length
  · rw [Nat.min_eq_left h]
  · rw [Nat.min_eq_right (by omega), List.take_of_length_le (Nat.le_refl _), List.take_of_length_le (by omega)]
theorem cut_mid (b : List V) (i j : Nat) : cutV b (some (i : Int)) (some (j : Int)) = (b.drop i).take (j - i) := by
  unfold cutV
  rw [HT.sIx_nat, HT.sIx_nat]
  by_cases h : i ≤ b.length
  · rw [Nat.min_eq_left h]
    by_cases h2 : j ≤ b.length
    · rw [Nat.min_eq_left h2]
    · rw [Nat.min_eq_right (by omega), List.take_of_length_le (by rw [List.length_drop]; omega), List.take_of_length_le (by rw [List.length_drop]; omega)]
  · rw [Nat.min_eq_right (show b.length ≤ i by omega), List.drop_eq_nil_of_le (Nat.le_refl _), List.drop_eq_nil_of_le (show b.length ≤ i by omega)]
    simp
theorem vb_drop (b : List Nat) (i : Nat) : (vb b).drop i = vb (b.drop i) := (List.map_drop ..).symm
theorem vb_take (b : List Nat) (i : Nat) : (vb b).take i = vb (b.take i) := (List.map_take ..).symm
theorem vi_drop (b : List Int) (i : Nat) : (vi b).drop i = vi (b.drop i) := (List.map_drop ..).symm
theorem vi_take (b : List Int) (i : Nat) : (vi b).take i = vi (b.take i) := (List.map_take ..).symm
theorem Same.new {H : Hp} {p : Addr} {o : HO} (h : H p = none) : Same H (upd H p o) := fun b u e => by
  rw [upd_ne (ne_of_none e h)]
  exact e
theorem q_int {Q : VK} {H : Hp} {i j : Int} (k : Q (.int j) H) (e : i = j) : Q (.int i) H := e ▸ k
theorem iteP {c : Bool} {A B : Prop} (hc : c = true) (h : A) : if c = true then A else B := by
  rw [if_pos hc]
  exact h
theorem iteM {c : Bool} {A B : Prop} (hc : c = false) (h : B) : if c = true then A else B := by
  rw [hc, if_neg Bool.false_ne_true]
  exact h
theorem size_ok {n : Nat} (h : n ≤ 16000000) : n ≤ sizeLine := Nat.le_trans h (by decide)
theorem size_lt {n : Nat} (h : n < 16000000) : n < sizeLine := Nat.lt_of_lt_of_le h (by decide)
/-- a range from nought, by c -/
theorem rg_up {n c : Nat} (hc : 0 < c) (hc2 : c ≤ 100000) (hn : n ≤ 100000) : RgC 0 (n : Int) (c : Int) (parts c n) := by
  have e : Builtin.Range.rangeSize 0 (n : Int) (c : Int) = (parts c n : Nat) := by
    unfold Builtin.Range.rangeSize
    rw [if_pos (show (c : Int) > 0 by omega)]
    by_cases h : n = 0
    · subst h
      rw [if_neg (by omega)]
      unfold parts
      rw [Nat.div_eq_of_lt (by omega)]
      rfl
    · rw [if_pos (by omega)]
      have e1 : ((n : Int) - 0 - 1) = ((n - 1 : Nat) : Int) := by omega
      rw [e1, ← Int.natCast_ediv]
      unfold parts
      rw [show n + c - 1 = (n - 1) + c by omega, Nat.add_div_right _ hc]
      rfl
  refine ⟨by omega, by omega, ?_, e⟩
  have hp : parts c n ≤ n := by
    unfold parts
    by_cases h : n = 0
    · subst h
      rw [Nat.div_eq_of_lt (by omega)]
      exact Nat.le_refl _
    · rw [show n + c - 1 = (n - 1) + c by omega, Nat.add_div_right _ hc]
      have := Nat.div_le_self (n - 1) c
      omega
  unfold Builtin.Range.small
  rw [e]
  simp only [Builtin.Range.rangeFitsLong, Bool.and_eq_true, Bool.or_eq_true, decide_eq_true_eq, beq_iff_eq, show ((c : Int) > 0) by omega, if_true]
  omega
/-! ### the promises -/
def sp_folded : Sp := fun vs H Q _ => ∃ n : Nat, vs = [.int (n : Int)] ∧ n < 4294967296 ∧ Q (.int ((Sj51.fold n : Nat) : Int)) H
def sp_word_at : Sp := fun vs H Q _ => ∃ (a : Addr) (b : List Nat) (i : Nat), vs = [.ref a, .int (i : Int)] ∧ H a = some (.lst (vb b)) ∧ i < b.length ∧ Q (.int ((256 * b.getD i 0 + b.getD (i + 1) 0 : Nat) : Int)) H
def sp_sum_by_ones : Sp := fun vs H Q _ => ∃ (a : Addr) (b : List Nat), vs = [.ref a] ∧ H a = some (.lst (vb b)) ∧ Oct b ∧ b.length ≤ 10000 ∧ Q (.int ((Sj51.sum b : Nat) : Int)) H
def sp_check_of : Sp := fun vs H Q _ => ∃ (a : Addr) (b : List Nat), vs = [.ref a] ∧ H a = some (.lst (vb b)) ∧ Oct b ∧ b.length ≤ 10000 ∧ Q (.int ((Sj51.check b : Nat) : Int)) H
def sp_mended_check : Sp := fun vs H Q _ => ∃ s a : Nat, vs = [.int (s : Int), .int (a : Int)] ∧ s ≤ 65535 ∧ a ≤ 65535 ∧ 1 ≤ a ∧ Q (.int ((Sj51.mended s a (a - 1) : Nat) : Int)) H
def sp_halved : Sp := fun vs H Q _ => ∃ c : Nat, vs = [.int (c : Int)] ∧ Q (.int ((Sj51.bitStep c : Nat) : Int)) H
def sp_divided : Sp := fun vs H Q _ => ∃ c b : Nat, vs = [.int (c : Int), .int (b : Int)] ∧ Q (.int ((Sj51.byteStep c b : Nat) : Int)) H
def sp_rest_of : Sp := fun vs H Q _ => ∃ (a : Addr) (b : List Nat), vs = [.ref a] ∧ H a = some (.lst (vb b)) ∧ Q (.int ((Sj51.crc b : Nat) : Int)) H
section
variable {P : Program} {w : World} {K : PySem.W.Frag} {mg : Str → Option Value} {base : Heap} {CE CH CC : Addr}
theorem c_folded (T : Txt K mg CE CH CC) : Cal P w K mg base 1 "folded" sp_folded := by
  refine T.d_folded.cal sc_folded (fun vs H Q E h => ?_) (fun f cdv A outer s H vs Q E hr h => ?_)
  · obtain ⟨n, rfl, _⟩ := h
    rfl
  · obtain ⟨n, rfl, hn, k⟩ := h
    refine ⟨_, (pss_cons (ps_while PassesOwn.never (pt_cmpR op_ge (pv 0) (pe_gi T.c_WORD) (nomark _)) (pss_one (ps_set (i := 0) sc_folded.nd rfl (Or.inl rfl) (pe_op op_add (pe_op op_fdiv (pv 0) (pe_gi T.c_WORD)) (pe_op op_mod (pv 0) (pe_gi T.c_WORD))))))
      (pss_one (ps_ret (pv 0)))), ?_⟩
    refine while_by (fun σ H' => ∃ m g : Nat, σ = [some (.int (m : Int))] ∧ H' = H ∧ Sj51.folded g m = Sj51.fold n) (fun σ _ => match σ with | [some (.int m)] => m.toNat | _ => 0) ⟨n, 8, rfl, rfl, rfl⟩ ?_
      (fun σ H Q Q' hq ⟨v, e, i, j, e1, e2, c, ek, q⟩ => ⟨v, e, i, j, e1, e2, c, ek, hq _ _ q⟩)
    rintro σ H' ⟨m, g, rfl, rfl, hg⟩
    refine ⟨_, rfl, _, _, rfl, rfl, _, rfl, ite2 (fun c => ?_) (fun c => ?_)⟩
    · have c' : ¬ m < 65536 := by
        have := of_decide_eq_true c
        omega
      obtain ⟨g', hg'⟩ := folded_step (f := g) (m := m) c' (by rw [hg]; exact fold_small hn)
      refine ⟨_, rfl, _, _, rfl, rfl, ⟨by decide, by decide⟩, _, rfl, _, _, rfl, rfl, (by show (0 : Int) < 65536; decide), _, _, rfl, rfl, ?_⟩
      refine ⟨⟨m / 65536 + m % 65536, g', ?_, rfl, hg'.trans hg⟩, ?_⟩
      · show [some (V.int ((m : Int) / 65536 + (m : Int) % 65536))] = _
        have e : (m : Int) / 65536 + (m : Int) % 65536 = ((m / 65536 + m % 65536 : Nat) : Int) := by omega
        rw [e]
      · show ((m : Int) / 65536 + (m : Int) % 65536).toNat < ((m : Int)).toNat
        omega
    · have c' : m < 65536 := by
        rw [decide_eq_true_iff] at c
        omega
      refine ⟨_, rfl, ?_⟩
      rw [folded_lt c'] at hg
      rw [hg]
      exact k
theorem c_word_at (T : Txt K mg CE CH CC) : Cal P w K mg base 1 "word_at" sp_word_at := by
  refine T.d_word_at.cal sc_word_at (fun vs H Q E h => ?_) (fun f cdv A outer s H vs Q E hr h => ?_)
  · obtain ⟨a, b, i, rfl, _⟩ := h
    rfl
  · obtain ⟨a, b, i, rfl, ha, hi, k⟩ := h
    refine ⟨_, (pss_cons (ps_set (i := 2) sc_word_at.nd rfl (Or.inl rfl) pe_int)
      (pss_cons (ps_if (pt_cmpR op_lt (pe_op op_add (pv 1) pe_int) (pe_callB call_len_seq (by rfl) T.n_len PySem.boot_len (pa_cons (pv 0) pa_nil)) (nomark _)) (pss_one (ps_set (i := 2) sc_word_at.nd rfl (Or.inl rfl) (pe_ix ix_list (pv 0) (pe_op op_add (pv 1) pe_int) (fun _ _ => rfl)))) pss_nil)
      (pss_one (ps_ret (pe_op op_add (pe_op op_mul pe_int (pe_ix ix_list (pv 0) (pv 1) (fun _ _ => rfl))) (pv 2)))))), ?_⟩
    refine ⟨_, rfl, _, _, rfl, rfl, _, rfl, a, _, rfl, .inl (SqL.of ha), _, _, rfl, rfl, _, rfl, ite2 (fun c => ?_) (fun c => ?_)⟩
    · have c' : i + 1 < b.length := by
        have := of_decide_eq_true c
        rw [vb_len] at this
        omega
      refine ⟨_, rfl, _, rfl, _, _, rfl, rfl, a, _, _, _, rfl, rfl, SqL.of ha, at_of (j := i + 1) (by omega) (vb_get c'), ?_⟩
      refine ⟨_, rfl, _, rfl, a, _, _, _, rfl, rfl, SqL.of ha, at_of (j := i) rfl (vb_get hi), _, _, rfl, rfl, .inl ⟨by decide, by decide⟩, _, rfl, _, _, rfl, rfl, ?_⟩
      exact q_int k (show (256 * ((b.getD i 0 : Nat) : Int) + ((b.getD (i + 1) 0 : Nat) : Int)) = ((256 * b.getD i 0 + b.getD (i + 1) 0 : Nat) : Int) by omega)
    · have c' : ¬ i + 1 < b.length := by
        intro z
        refine c (decide_eq_true ?_)
        rw [vb_len]
        omega
      refine ⟨_, rfl, _, rfl, a, _, _, _, rfl, rfl, SqL.of ha, at_of (j := i) rfl (vb_get hi), _, _, rfl, rfl, .inl ⟨by decide, by decide⟩, _, rfl, _, _, rfl, rfl, ?_⟩
      have e0 : b.getD (i + 1) 0 = 0 := by
        have : b[i + 1]? = none := List.getElem?_eq_none (by omega)
        simp [List.getD, this]
      exact q_int k (show (256 * ((b.getD i 0 : Nat) : Int) + 0) = ((256 * b.getD i 0 + b.getD (i + 1) 0 : Nat) : Int) by omega)
theorem c_sum_by_ones (T : Txt K mg CE CH CC) : Cal P w K mg base 2 "sum_by_ones" sp_sum_by_ones := by
  refine T.d_sum_by_ones.cal sc_sum_by_ones (fun vs H Q E h => ?_) (fun f cdv A outer s H vs Q E hr h => ?_)
  · obtain ⟨a, b, rfl, _⟩ := h
    rfl
  · obtain ⟨a, b, rfl, ha, ho, hl, k⟩ := h
    refine ⟨_, (pss_cons (ps_set (i := 1) sc_sum_by_ones.nd rfl (Or.inl rfl) pe_int)
      (pss_cons (ps_for PassesOwn.never rfl (pi_range3 rfl T.n_range (pa_cons pe_int (pa_cons (pe_callB call_len_seq (by rfl) T.n_len PySem.boot_len (pa_cons (pv 0) pa_nil)) (pa_cons pe_int pa_nil)))) (pg_name (i := 2) sc_sum_by_ones.nd rfl (Or.inl rfl)) (pss_one (ps_set (i := 1) sc_sum_by_ones.nd rfl (Or.inl rfl) (pe_op op_add (pv 1) (pe_cal (c_word_at T) (hr.mono (by decide)) (pa_cons (pv 0) (pa_cons (pv 2) pa_nil)))))))
      (pss_one (ps_ret (pe_cal (c_folded T) (hr.mono (by decide)) (pa_cons (pv 1) pa_nil)))))), ?_⟩
    refine ⟨_, rfl, a, _, rfl, .inl (SqL.of ha), 0, _, 2, parts 2 b.length, rfl, by rw [vb_len]; exact rg_up (c := 2) (by decide) (by decide) (by omega), ?_⟩
    refine for_rangeC (lo := 0) (c := 2) (n := parts 2 b.length) (fun i σ H' => ∃ (v : Option V) (t : Nat), σ = [some (.ref a), some (.int (t : Int)), v] ∧ H' = H ∧ t + wsum (b.drop (2 * i)) = wsum b) ⟨none, 0, rfl, rfl, by simp⟩ ?_ ?_
    · rintro i σ H' hi ⟨v, t, rfl, rfl, ht⟩
      have hi' : 2 * i < b.length := by
        have := (parts_lt (m := 2) (n := b.length) (i := i) (by decide)).mp hi
        omega
      refine ⟨_, rfl, _, rfl, _, rfl, a, b, 2 * i, ?_, ha, hi', _, _, rfl, rfl, ?_⟩
      · show [V.ref a, V.int (0 + (i : Int) * 2)] = [V.ref a, V.int ((2 * i : Nat) : Int)]
        rw [show (0 + (i : Int) * 2) = ((2 * i : Nat) : Int) by omega]
      · refine ⟨some (.int (0 + (i : Int) * 2)), t + (256 * b.getD (2 * i) 0 + b.getD (2 * i + 1) 0), ?_, rfl, ?_⟩
        · show [some (V.ref a), some (V.int ((t : Int) + ((256 * b.getD (2 * i) 0 + b.getD (2 * i + 1) 0 : Nat) : Int))), some (V.int (0 + (i : Int) * 2))] = _
          rw [show ((t : Int) + ((256 * b.getD (2 * i) 0 + b.getD (2 * i + 1) 0 : Nat) : Int)) = ((t + (256 * b.getD (2 * i) 0 + b.getD (2 * i + 1) 0) : Nat) : Int) by omega]
        · rw [wsum_at hi'] at ht
          rw [show 2 * (i + 1) = 2 * i + 2 by omega]
          omega
    · rintro σ H' ⟨v, t, rfl, rfl, ht⟩
      have e : b.drop (2 * parts 2 b.length) = [] := by
        refine List.drop_eq_nil_of_le ?_
        have h1 := parts_lt (m := 2) (n := b.length) (i := parts 2 b.length) (by decide)
        have h2 : ¬ parts 2 b.length * 2 < b.length := fun z => Nat.lt_irrefl _ (h1.mpr z)
        omega
      rw [e, wsum_nil, Nat.add_zero] at ht
      subst ht
      exact ⟨_, rfl, wsum b, rfl, wsum_small ho hl, k⟩
theorem c_check_of (T : Txt K mg CE CH CC) : Cal P w K mg base 3 "check_of" sp_check_of := by
  refine T.d_check_of.cal sc_check_of (fun vs H Q E h => ?_) (fun f cdv A outer s H vs Q E hr h => ?_)
  · obtain ⟨a, b, rfl, _⟩ := h
    rfl
  · obtain ⟨a, b, rfl, ha, ho, hl, k⟩ := h
    refine ⟨_, (pss_one (ps_ret (pe_op op_sub (pe_gi T.c_LAST_WORD) (pe_cal (c_sum_by_ones T) (hr.mono (by decide)) (pa_cons (pv 0) pa_nil))))), ?_⟩
    refine ⟨_, rfl, a, b, rfl, ha, ho, hl, _, _, rfl, rfl, ?_⟩
    have := sum_small ho hl
    exact q_int k (show ((65535 : Int) - ((Sj51.sum b : Nat) : Int)) = ((65535 - Sj51.sum b : Nat) : Int) by omega)
theorem c_mended_check (T : Txt K mg CE CH CC) : Cal P w K mg base 2 "mended_check" sp_mended_check := by
  refine T.d_mended_check.cal sc_mended_check (fun vs H Q E h => ?_) (fun f cdv A outer s H vs Q E hr h => ?_)
  · obtain ⟨a, b, rfl, _⟩ := h
    rfl
  · obtain ⟨x, a, rfl, hx, ha, ha1, k⟩ := h
    refine ⟨_, (pss_one (ps_ret (pe_op op_sub (pe_gi T.c_LAST_WORD) (pe_cal (c_folded T) (hr.mono (by decide)) (pa_cons (pe_op op_add (pe_op op_add (pe_op op_sub (pe_gi T.c_LAST_WORD) (pv 0)) (pe_op op_sub (pe_gi T.c_LAST_WORD) (pv 1))) (pe_op op_sub (pv 1) pe_int)) pa_nil))))), ?_⟩
    refine ⟨_, rfl, _, _, rfl, rfl, _, rfl, _, _, rfl, rfl, _, _, rfl, rfl, _, rfl, _, _, rfl, rfl, _, _, rfl, rfl, (65535 - x) + (65535 - a) + (a - 1), ?_, ?_, _, _, rfl, rfl, ?_⟩
    · show [V.int ((65535 : Int) - (x : Int) + ((65535 : Int) - (a : Int)) + ((a : Int) - 1))] = _
      rw [show ((65535 : Int) - (x : Int) + ((65535 : Int) - (a : Int)) + ((a : Int) - 1)) = (((65535 - x) + (65535 - a) + (a - 1) : Nat) : Int) by omega]
    · omega
    · have h1 : (65535 - x) + (65535 - a) + (a - 1) < 4294967296 := by omega
      have := fold_small h1
      exact q_int k (show ((65535 : Int) - ((Sj51.fold ((65535 - x) + (65535 - a) + (a - 1)) : Nat) : Int)) = ((65535 - Sj51.fold ((65535 - x) + (65535 - a) + (a - 1)) : Nat) : Int) by omega)
theorem c_halved (T : Txt K mg CE CH CC) : Cal P w K mg base 1 "halved" sp_halved := by
  refine T.d_halved.cal sc_halved (fun vs H Q E h => ?_) (fun f cdv A outer s H vs Q E hr h => ?_)
  · obtain ⟨c, rfl, _⟩ := h
    rfl
  · obtain ⟨c, rfl, k⟩ := h
    have e1 : Builtin.bitAnd (c : Int) 1 = (c : Int) % 2 := PyProof.Rows.bitAnd_m1 _
    refine ⟨_, (pss_cons (ps_if (pt_cmpR op_eq (pe_op op_and (pv 0) pe_int) pe_int (nomark _)) (pss_one (ps_ret (pe_op op_xor (pe_op op_shr (pv 0) pe_int) (pe_gi T.c_DIVIDER)))) pss_nil)
      (pss_one (ps_ret (pe_op op_shr (pv 0) pe_int)))), ?_⟩
    refine ⟨_, rfl, _, _, rfl, rfl, rfl, _, rfl, ite2 (fun h => ?_) (fun h => ?_)⟩
    · have h' : c % 2 = 1 := by
        have := V.int.inj (of_decide_eq_true h)
        rw [e1] at this
        omega
      refine ⟨_, rfl, _, _, rfl, rfl, (by show (0 : Int) ≤ 1; decide), _, _, rfl, rfl, ?_⟩
      have e2 : Builtin.bitXor ((c : Int) / 2 ^ (1 : Int).toNat) 3988292384 = ((Sj51.bitStep c : Nat) : Int) := by
        rw [Bits.bitXor_pp (by show 0 ≤ (c : Int) / 2; omega) (by decide)]
        unfold Sj51.bitStep
        rw [if_pos h']
        have : ((c : Int) / 2 ^ (1 : Int).toNat).toNat = c / 2 := by
          show ((c : Int) / 2).toNat = c / 2
          omega
        rw [this]
        rfl
      exact q_int k e2
    · have h' : ¬ c % 2 = 1 := fun z => h (decide_eq_true (congrArg V.int (by rw [e1]; omega)))
      refine ⟨_, rfl, _, _, rfl, rfl, (by show (0 : Int) ≤ 1; decide), ?_⟩
      have e2 : (c : Int) / 2 ^ (1 : Int).toNat = ((Sj51.bitStep c : Nat) : Int) := by
        unfold Sj51.bitStep
        rw [if_neg h']
        show (c : Int) / 2 = _
        omega
      exact q_int k e2
theorem c_divided_by_byte (T : Txt K mg CE CH CC) : Cal P w K mg base 2 "divided_by_byte" sp_divided := by
  refine T.d_divided_by_byte.cal sc_divided_by_byte (fun vs H Q E h => ?_) (fun f cdv A outer s H vs Q E hr h => ?_)
  · obtain ⟨c, b, rfl, _⟩ := h
    rfl
  · obtain ⟨c, b, rfl, k⟩ := h
    refine ⟨_, (pss_cons (ps_set (i := 0) sc_divided_by_byte.nd rfl (Or.inl rfl) (pe_op op_xor (pv 0) (pv 1)))
      (pss_cons (ps_for PassesOwn.never rfl (pi_range1 rfl T.n_range (pa_cons pe_int pa_nil)) (pg_name (i := 2) sc_divided_by_byte.nd rfl (Or.inl rfl)) (pss_one (ps_set (i := 0) sc_divided_by_byte.nd rfl (Or.inl rfl) (pe_cal (c_halved T) (hr.mono (by decide)) (pa_cons (pv 0) pa_nil)))))
      (pss_one (ps_ret (pv 0))))), ?_⟩
    have e1 : Builtin.bitXor (c : Int) (b : Int) = ((Nat.xor c b : Nat) : Int) := by
      rw [Bits.bitXor_pp (by omega) (by omega), Int.toNat_natCast, Int.toNat_natCast]
      rfl
    refine ⟨_, rfl, _, rfl, _, _, rfl, rfl, 8, rfl, by decide, by decide, ?_⟩
    refine for_range (lo := 0) (n := 8) (fun i σ H' => ∃ v : Option V, σ = [some (.int (((List.range i).foldl (fun c _ => Sj51.bitStep c) (Nat.xor c b) : Nat) : Int)), some (.int (b : Int)), v] ∧ H' = H) ⟨none, congrArg (fun z : Int => [some (V.int z), some (V.int (b : Int)), none]) e1, rfl⟩ ?_ ?_
    · rintro i σ H' hi ⟨v, rfl, rfl⟩
      refine ⟨_, rfl, _, rfl, ?_⟩
      refine ⟨some (.int (0 + (i : Int))), ?_, rfl⟩
      rw [List.range_succ, List.foldl_append]
      rfl
    · rintro σ H' ⟨v, rfl, rfl⟩
      exact ⟨_, rfl, k⟩
theorem take_snoc {α : Type} : ∀ {l : List α} {i : Nat} {x : α}, l[i]? = some x → l.take (i + 1) = l.take i ++ [x]
  | [], i, x, h => by simp at h
  | a :: l, 0, x, h => by
    have e : a = x := Option.some.inj h
    subst e
    rfl
  | a :: l, i + 1, x, h => by
    have ih := take_snoc (l := l) (i := i) (x := x) h
    show a :: l.take (i + 1) = a :: l.take i ++ [x]
    rw [ih]
    rfl
theorem vb_at {b : List Nat} {i : Nat} {y : V} (h : (vb b)[i]? = some y) : ∃ z : Nat, b[i]? = some z ∧ y = V.int (z : Int) := by
  unfold vb at h
  rw [List.getElem?_map] at h
  cases e : b[i]? with
  | none =>
    rw [e] at h
    cases h
  | some z =>
    rw [e] at h
    exact ⟨z, rfl, (Option.some.inj h).symm⟩
theorem c_rest_of (T : Txt K mg CE CH CC) : Cal P w K mg base 3 "rest_of" sp_rest_of := by
  refine T.d_rest_of.cal sc_rest_of (fun vs H Q E h => ?_) (fun f cdv A outer s H vs Q E hr h => ?_)
  · obtain ⟨a, b, rfl, _⟩ := h
    rfl
  · obtain ⟨a, b, rfl, ha, k⟩ := h
    refine ⟨_, (pss_cons (ps_set (i := 1) sc_rest_of.nd rfl (Or.inl rfl) (pe_gi T.c_ALL_ONES))
      (pss_cons (ps_for PassesOwn.never rfl (pi_list (pv 0)) (pg_name (i := 2) sc_rest_of.nd rfl (Or.inl rfl)) (pss_one (ps_set (i := 1) sc_rest_of.nd rfl (Or.inl rfl) (pe_cal (c_divided_by_byte T) (hr.mono (by decide)) (pa_cons (pv 1) (pa_cons (pv 2) pa_nil))))))
      (pss_one (ps_ret (pe_op op_xor (pv 1) (pe_gi T.c_ALL_ONES)))))), ?_⟩
    refine ⟨_, rfl, a, rfl, ⟨_, SqL.of ha⟩, for_list (K := K) (a := a) (xs := vb b) (fun i σ H' => ∃ v : Option V, σ = [some (.ref a), some (.int (((b.take i).foldl Sj51.byteStep 0xFFFFFFFF : Nat) : Int)), v] ∧ H' = H)
      ⟨none, rfl, rfl⟩ (fun i σ H' _ ⟨_, _, e⟩ => e ▸ SqL.of ha) ?_ ?_⟩
    · rintro i y σ H' hi ⟨v, rfl, rfl⟩
      obtain ⟨z, hz, rfl⟩ := vb_at hi
      refine ⟨_, rfl, _, rfl, _, z, rfl, ?_⟩
      refine ⟨some (.int (z : Int)), ?_, rfl⟩
      rw [take_snoc hz, List.foldl_append]
      rfl
    · rintro σ H' ⟨v, rfl, rfl⟩
      rw [vb_len, List.take_length]
      refine ⟨_, rfl, _, _, rfl, rfl, ?_⟩
      have e1 : Builtin.bitXor ((b.foldl Sj51.byteStep 0xFFFFFFFF : Nat) : Int) 4294967295 = ((Sj51.crc b : Nat) : Int) := by
        rw [Bits.bitXor_pp (by omega) (by decide), Int.toNat_natCast]
        rfl
      exact q_int k e1
end
end FC

/-! Framecard: layout.py walked. -/
namespace FC
open PySem PySem.Spec PyProof.Rows L2
/-! ### == of two lists of whole numbers -/
def pd (b : List Nat) : List PyData := b.map fun (n : Nat) => PyData.int (n : Int)
theorem dp_all {K : PySem.W.Frag} {H : Hp} : ∀ b : List Nat, DpAll K H (vb b) (pd b)
  | [] => .nil
  | n :: b => .cons (.int _) (dp_all b)
theorem dp_lst {K : PySem.W.Frag} {H : Hp} {a : Addr} {b : List Nat} (h : H a = some (.lst (vb b))) : Dp K H (.ref a) (.list (pd b)) := .lst (SqL.of h) (dp_all b)
theorem pd_can : ∀ b : List Nat, PyData.canLayAll0 (pd b) = true
  | [] => by
    show PyData.canLayAll0 [] = true
    rw [PyData.canLayAll0]
  | n :: b => by
    show PyData.canLayAll0 (PyData.int (n : Int) :: pd b) = true
    rw [PyData.canLayAll0, pd_can b, PyData.canLay0]
    rfl
theorem pd_depth : ∀ b : List Nat, PyData.depthAll (pd b) = 0
  | [] => by
    show PyData.depthAll [] = 0
    rw [PyData.depthAll]
  | n :: b => by
    show PyData.depthAll (PyData.int (n : Int) :: pd b) = 0
    rw [PyData.depthAll, pd_depth b, PyData.depth]
    rfl
theorem pd_shaped (b : List Nat) : SeqAt.shaped (.list (pd b)) = true := by
  unfold SeqAt.shaped
  rw [Bool.and_eq_true]
  constructor
  · rw [PyData.canLay0]
    exact pd_can b
  · rw [PyData.depth, pd_depth b]
    decide
theorem pd_eqvAll : ∀ a b : List Nat, PyData.eqvAll (pd a) (pd b) = decide (a = b)
  | [], [] => by
    show PyData.eqvAll [] [] = _
    rw [PyData.eqvAll]
    rfl
  | [], n :: b => by
    show PyData.eqvAll [] (PyData.int (n : Int) :: pd b) = _
    rw [PyData.eqvAll]
    simp
  | n :: a, [] => by
    show PyData.eqvAll (PyData.int (n : Int) :: pd a) [] = _
    rw [PyData.eqvAll]
    simp
  | n :: a, m :: b => by
    show PyData.eqvAll (PyData.int (n : Int) :: pd a) (PyData.int (m : Int) :: pd b) = _
    rw [PyData.eqvAll, pd_eqvAll a b, PyData.eqv]
    by_cases e : n = m
    · subst e
      simp
    · have : ¬ (n : Int) = (m : Int) := by omega
      simp [e, this]
theorem pd_eqv (a b : List Nat) : PyData.eqv (.list (pd a)) (.list (pd b)) = decide (a = b) := by
  rw [PyData.eqv]
  exact pd_eqvAll a b
/-! ### the promises -/
/-- a new list of bytes is handed back, all else stands -/
def Gives (H : Hp) (Q : VK) (b : List Nat) : Prop := ∀ H' p, Same H H' → H p = none → H' p = some (.lst (vb b)) → Q (.ref p) H'
def GivesI (H : Hp) (Q : VK) (i : Int) : Prop := ∀ H', Same H H' → Q (.int i) H'
def GivesB (H : Hp) (Q : VK) (c : Bool) : Prop := ∀ H', Same H H' → Q (.bl c) H'
def sp_octets_of : Sp := fun vs H Q _ => ∃ v n : Nat, vs = [.int (v : Int), .int (n : Int)] ∧ n ≤ 8 ∧ Gives H Q (Sj51.high n v)
def sp_number_at : Sp := fun vs H Q _ => ∃ (a : Addr) (b : List Nat) (i n : Nat), vs = [.ref a, .int (i : Int), .int (n : Int)] ∧ H a = some (.lst (vb b)) ∧ GivesI H Q ((Sj51.ofHigh ((b.drop i).take n) : Nat) : Int)
def sp_with_rest : Sp := fun vs H Q _ => ∃ (a : Addr) (b : List Nat), vs = [.ref a] ∧ H a = some (.lst (vb b)) ∧ b.length ≤ 10000 ∧ Gives H Q (withRest b)
def sp_head_of : Sp := fun vs H Q _ => ∃ (h : Sj51.Head) (s : Nat), vs = [.int (h.flow : Int), .int (h.at_ : Int), .int (h.len : Int), .int (h.marks : Int), .int (h.hops : Int), .int (s : Int)] ∧ Gives H Q (Sj51.headOf h s)
def sp_frame_of : Sp := fun vs H Q _ => ∃ (h : Sj51.Head) (a : Addr) (l : List Nat), vs = [.int (h.flow : Int), .int (h.at_ : Int), .int (h.marks : Int), .int (h.hops : Int), .ref a] ∧ H a = some (.lst (vb l)) ∧ l.length ≤ 5000 ∧ Oct l ∧
  h.len = l.length ∧ h.marks < 256 ∧ h.hops < 256 ∧ Gives H Q (Sj51.frame h l)
def sp_flow_in : Sp := fun vs H Q _ => ∃ (a : Addr) (f : List Nat), vs = [.ref a] ∧ H a = some (.lst (vb f)) ∧ GivesI H Q (((Sj51.headIn f).flow : Nat) : Int)
def sp_place_in : Sp := fun vs H Q _ => ∃ (a : Addr) (f : List Nat), vs = [.ref a] ∧ H a = some (.lst (vb f)) ∧ GivesI H Q (((Sj51.headIn f).at_ : Nat) : Int)
def sp_long_in : Sp := fun vs H Q _ => ∃ (a : Addr) (f : List Nat), vs = [.ref a] ∧ H a = some (.lst (vb f)) ∧ GivesI H Q (((Sj51.headIn f).len : Nat) : Int)
def sp_marks_in : Sp := fun vs H Q _ => ∃ (a : Addr) (f : List Nat), vs = [.ref a] ∧ H a = some (.lst (vb f)) ∧ 16 ≤ f.length ∧ Q (.int (((Sj51.headIn f).marks : Nat) : Int)) H
def sp_hops_in : Sp := fun vs H Q _ => ∃ (a : Addr) (f : List Nat), vs = [.ref a] ∧ H a = some (.lst (vb f)) ∧ 16 ≤ f.length ∧ Q (.int (((Sj51.headIn f).hops : Nat) : Int)) H
def sp_body_in : Sp := fun vs H Q _ => ∃ (a : Addr) (f : List Nat), vs = [.ref a] ∧ H a = some (.lst (vb f)) ∧ 16 ≤ f.length ∧ Gives H Q (Sj51.bodyIn f)
def sp_has_right_rest : Sp := fun vs H Q _ => ∃ (a : Addr) (f : List Nat), vs = [.ref a] ∧ H a = some (.lst (vb f)) ∧ 16 ≤ f.length ∧ f.length ≤ 5000 ∧ GivesB H Q (decide (withRest (f.take (f.length - 4)) = f))
def sp_has_right_sum : Sp := fun vs H Q _ => ∃ (a : Addr) (f : List Nat), vs = [.ref a] ∧ H a = some (.lst (vb f)) ∧ 16 ≤ f.length ∧ f.length ≤ 5000 ∧ Oct f ∧ GivesB H Q (decide (Sj51.sum (f.take (f.length - 4)) = 65535))
def sp_fault_of : Sp := fun vs H Q _ => ∃ (a : Addr) (f : List Nat), vs = [.ref a] ∧ H a = some (.lst (vb f)) ∧ f.length ≤ 5000 ∧ Oct f ∧ GivesI H Q ((Sj51.fault f : Nat) : Int)
def sp_passed_on : Sp := fun vs H Q _ => ∃ (a : Addr) (f : List Nat), vs = [.ref a] ∧ H a = some (.lst (vb f)) ∧ 16 ≤ f.length ∧ f.length ≤ 5000 ∧ Oct f ∧ (Sj51.headIn f).hops ≠ 0 ∧ Gives H Q (Sj51.passed f)
def sp_marks_of : Sp := fun vs H Q _ => ∃ a b : Bool, vs = [.bl a, .bl b] ∧ Q (.int (((if a = true then 1 else 0) + (if b = true then 2 else 0) : Nat) : Int)) H
section
variable {P : Program} {w : World} {K : PySem.W.Frag} {mg : Str → Option Value} {base : Heap} {CE CH CC : Addr}
theorem c_octets_of (T : Txt K mg CE CH CC) : Cal P w K mg base 1 "octets_of" sp_octets_of := by
  refine T.d_octets_of.cal sc_octets_of (fun vs H Q E h => ?_) (fun f cdv A outer s H vs Q E hr h => ?_)
  · obtain ⟨v, n, rfl, _⟩ := h
    rfl
  · obtain ⟨v, n, rfl, hn, k⟩ := h
    refine ⟨_, (pss_cons (ps_set (i := 2) sc_octets_of.nd rfl (Or.inl rfl) (pe_lst pa_nil))
      (pss_cons (ps_for PassesOwn.never rfl (pi_range1 rfl T.n_range (pa_cons (pv 1) pa_nil)) (pg_name (i := 3) sc_octets_of.nd rfl (Or.inl rfl)) (pss_cons (ps_set (i := 2) sc_octets_of.nd rfl (Or.inl rfl) (pe_op op_cat (pe_lst (pa_cons (pe_op op_mod (pv 0) pe_int) pa_nil)) (pv 2)))
      (pss_one (ps_set (i := 0) sc_octets_of.nd rfl (Or.inl rfl) (pe_op op_fdiv (pv 0) pe_int)))))
      (pss_one (ps_ret (pv 2))))), ?_⟩
    refine ⟨Nat.zero_le _, fun p0 hp0 => ?_⟩
    refine ⟨_, rfl, (n : Int), rfl, by omega, by omega, ?_⟩
    refine for_range (lo := 0) (n := n) (fun i σ H' => ∃ (x : Option V) (p : Addr), σ = [some (.int ((v / 256 ^ i : Nat) : Int)), some (.int (n : Int)), some (.ref p), x] ∧ Same H H' ∧ H p = none ∧ H' p = some (.lst (vb (Sj51.high i v)))) ?_ ?_ ?_
    · refine ⟨none, p0, ?_, Same.new hp0, hp0, upd_same⟩
      rw [Nat.pow_zero, Nat.div_one]
      rfl
    · rintro i σ H' hi ⟨x, p, rfl, s1, hp, hp'⟩
      refine ⟨_, rfl, _, _, rfl, rfl, (by show (0 : Int) < 256; decide), (by show 1 ≤ sizeLine; decide), fun q hq => ?_⟩
      have hpq : p ≠ q := ne_of_none hp' hq
      refine ⟨_, rfl, q, p, _, _, rfl, rfl, upd_same, by rw [upd_ne hpq]; exact hp', by rw [vb_len, high_len]; exact size_ok (by show 1 + i ≤ _; omega), fun r hr' => ?_⟩
      have s2 : Same H' (upd H' q (.lst [V.int (((v / 256 ^ i : Nat) : Int) % 256)])) := Same.new hq
      have hr2 := s2.free hr'
      refine ⟨_, rfl, _, _, rfl, rfl, ⟨by decide, by decide⟩, ?_⟩
      refine ⟨some (.int (0 + (i : Int))), r, ?_, s1.trans (s2.trans (Same.new hr')), s1.free hr2, ?_⟩
      · show [some (V.int (((v / 256 ^ i : Nat) : Int) / 256)), some (V.int (n : Int)), some (V.ref r), some (V.int (0 + (i : Int)))] = _
        have e : ((v / 256 ^ i : Nat) : Int) / 256 = ((v / 256 ^ (i + 1) : Nat) : Int) := by
          rw [Nat.pow_succ, ← Nat.div_div_eq_div_mul]
          omega
        rw [e]
      · rw [upd_same, high_succ]
        have e : ((v / 256 ^ i : Nat) : Int) % 256 = ((v / 256 ^ i % 256 : Nat) : Int) := by omega
        show some (HO.lst ([V.int (((v / 256 ^ i : Nat) : Int) % 256)] ++ vb (Sj51.high i v))) = _
        rw [e]
        rfl
    · rintro σ H' ⟨x, p, rfl, s1, hp, hp'⟩
      exact ⟨_, rfl, k H' p s1 hp hp'⟩
theorem c_number_at (T : Txt K mg CE CH CC) : Cal P w K mg base 1 "number_at" sp_number_at := by
  refine T.d_number_at.cal sc_number_at (fun vs H Q E h => ?_) (fun f cdv A outer s H vs Q E hr h => ?_)
  · obtain ⟨a, b, i, n, rfl, _⟩ := h
    rfl
  · obtain ⟨a, b, i, n, rfl, ha, k⟩ := h
    refine ⟨_, (pss_cons (ps_set (i := 3) sc_number_at.nd rfl (Or.inl rfl) pe_int)
      (pss_cons (ps_for PassesOwn.never rfl (pi_list (pe_slice sl_list (pv 0) (po_some (pv 1)) (po_some (pe_op op_add (pv 1) (pv 2))))) (pg_name (i := 4) sc_number_at.nd rfl (Or.inl rfl)) (pss_one (ps_set (i := 3) sc_number_at.nd rfl (Or.inl rfl) (pe_op op_add (pe_op op_mul pe_int (pv 3)) (pv 4)))))
      (pss_one (ps_ret (pv 3))))), ?_⟩
    refine ⟨_, rfl, _, rfl, _, rfl, _, rfl, _, rfl, _, _, rfl, rfl, _, rfl, a, _, rfl, SqL.of ha, fun p hp => ?_⟩
    have e : cutV (vb b) (some (i : Int)) (some ((i : Int) + (n : Int))) = vb ((b.drop i).take n) := by
      rw [show (i : Int) + (n : Int) = ((i + n : Nat) : Int) by omega, cut_mid, vb_drop, vb_take, show i + n - i = n by omega]
    have hpp : upd H p (.lst (cutV (vb b) (some (i : Int)) (some ((i : Int) + (n : Int))))) p = some (.lst (vb ((b.drop i).take n))) := by rw [upd_same, e]
    refine ⟨p, rfl, ⟨_, SqL.of hpp⟩, for_list (K := K) (a := p) (xs := vb ((b.drop i).take n)) (fun j σ H' => ∃ v : Option V, σ = [some (.ref a), some (.int (i : Int)), some (.int (n : Int)), some (.int (((((b.drop i).take n).take j).foldl (fun v b => 256 * v + b) 0 : Nat) : Int)), v] ∧ H' = _)
      ⟨none, rfl, rfl⟩ (fun j σ H' _ ⟨_, _, e⟩ => e ▸ SqL.of hpp) ?_ ?_⟩
    · rintro j y σ H' hj ⟨v, rfl, rfl⟩
      obtain ⟨z, hz, rfl⟩ := vb_at hj
      refine ⟨_, rfl, _, _, rfl, rfl, .inl ⟨by decide, by decide⟩, _, rfl, _, _, rfl, rfl, ?_⟩
      refine ⟨some (.int (z : Int)), ?_, rfl⟩
      rw [take_snoc hz, List.foldl_append]
      show [some (V.ref a), some (V.int (i : Int)), some (V.int (n : Int)), some (V.int (256 * (((((b.drop i).take n).take j).foldl (fun v b => 256 * v + b) 0 : Nat) : Int) + (z : Int))), some (V.int (z : Int))] = [some (V.ref a), some (V.int (i : Int)), some (V.int (n : Int)), some (V.int (((256 * (((b.drop i).take n).take j).foldl (fun v b => 256 * v + b) 0 + z : Nat) : Int))), some (V.int (z : Int))]
      rw [show (256 * (((((b.drop i).take n).take j).foldl (fun v b => 256 * v + b) 0 : Nat) : Int) + (z : Int)) = ((256 * (((b.drop i).take n).take j).foldl (fun v b => 256 * v + b) 0 + z : Nat) : Int) by omega]
    · rintro σ H' ⟨v, rfl, rfl⟩
      rw [vb_len, List.take_length]
      exact ⟨_, rfl, k _ (Same.new hp)⟩
theorem c_with_rest (T : Txt K mg CE CH CC) : Cal P w K mg base 4 "with_rest" sp_with_rest := by
  refine T.d_with_rest.cal sc_with_rest (fun vs H Q E h => ?_) (fun f cdv A outer s H vs Q E hr h => ?_)
  · obtain ⟨a, b, rfl, _⟩ := h
    rfl
  · obtain ⟨a, b, rfl, ha, hl, k⟩ := h
    refine ⟨_, (pss_one (ps_ret (pe_op op_cat (pv 0) (pe_revL (pe_cal (c_octets_of T) (hr.mono (by decide)) (pa_cons (pe_cal (c_rest_of T) (hr.mono (by decide)) (pa_cons (pv 0) pa_nil)) (pa_cons (pe_gi T.c_REST) pa_nil))))))), ?_⟩
    refine ⟨_, rfl, _, rfl, a, b, rfl, ha, Sj51.crc b, 4, rfl, by decide, fun H1 p s1 hp hp1 => ?_⟩
    refine ⟨p, _, rfl, SqL.of hp1, fun q hq => ?_⟩
    have s2 : Same H1 (upd H1 q (.lst (vb (Sj51.high 4 (Sj51.crc b))).reverse)) := Same.new hq
    refine ⟨a, q, _, _, rfl, rfl, s2 _ _ (s1 _ _ ha), upd_same, ?_, fun r hr' => ?_⟩
    · rw [vb_len, List.length_reverse, vb_len, high_len]
      exact size_ok (by omega)
    · refine k _ r (s1.trans (s2.trans (Same.new hr'))) (s1.free (s2.free hr')) ?_
      rw [upd_same]
      unfold withRest
      rw [vb_app, low_rev]
      show some (HO.lst (vb b ++ (vb (Sj51.high 4 (Sj51.crc b))).reverse)) = _
      unfold vb
      rw [List.map_reverse]
theorem c_head_of (T : Txt K mg CE CH CC) : Cal P w K mg base 2 "head_of" sp_head_of := by
  refine T.d_head_of.cal sc_head_of (fun vs H Q E h => ?_) (fun f cdv A outer s H vs Q E hr h => ?_)
  · obtain ⟨h, s, rfl, _⟩ := h
    rfl
  · obtain ⟨h, x, rfl, k⟩ := h
    refine ⟨_, (pss_cons (ps_set (i := 6) sc_head_of.nd rfl (Or.inl rfl) (pe_op op_cat (pe_op op_cat (pe_cal (c_octets_of T) (hr.mono (by decide)) (pa_cons (pv 0) (pa_cons pe_int pa_nil))) (pe_cal (c_octets_of T) (hr.mono (by decide)) (pa_cons (pv 1) (pa_cons pe_int pa_nil)))) (pe_cal (c_octets_of T) (hr.mono (by decide)) (pa_cons (pv 2) (pa_cons pe_int pa_nil)))))
      (pss_one (ps_ret (pe_op op_cat (pe_op op_cat (pv 6) (pe_lst (pa_cons (pv 3) (pa_cons (pv 4) pa_nil)))) (pe_cal (c_octets_of T) (hr.mono (by decide)) (pa_cons (pv 5) (pa_cons pe_int pa_nil))))))), ?_⟩
    refine ⟨_, rfl, h.flow, 2, rfl, by decide, fun H1 p1 s1 n1 e1 => ?_⟩
    refine ⟨_, rfl, h.at_, 4, rfl, by decide, fun H2 p2 s2 n2 e2 => ?_⟩
    refine ⟨p1, p2, _, _, rfl, rfl, s2 _ _ e1, e2, by rw [vb_len, vb_len, high_len, high_len]; exact size_ok (by decide), fun p3 n3 => ?_⟩
    have s3 := s2.trans (Same.new (o := HO.lst (vb (Sj51.high 2 h.flow) ++ vb (Sj51.high 4 h.at_))) n3)
    refine ⟨_, rfl, h.len, 2, rfl, by decide, fun H4 p4 s4 n4 e4 => ?_⟩
    refine ⟨p3, p4, _, _, rfl, rfl, s4 _ _ upd_same, e4, by rw [List.length_append, vb_len, vb_len, vb_len, high_len, high_len, high_len]; exact size_ok (by decide), fun p5 n5 => ?_⟩
    have s5 := s4.trans (Same.new (o := HO.lst (vb (Sj51.high 2 h.flow) ++ vb (Sj51.high 4 h.at_) ++ vb (Sj51.high 2 h.len))) n5)
    refine ⟨_, rfl, _, rfl, _, rfl, (by show 2 ≤ sizeLine; decide), fun p6 n6 => ?_⟩
    have ne65 : p5 ≠ p6 := ne_of_none upd_same n6
    refine ⟨p5, p6, _, _, rfl, rfl, by rw [upd_ne ne65, upd_same], upd_same, by rw [List.length_append, List.length_append, vb_len, vb_len, vb_len, high_len, high_len, high_len]; exact size_ok (by show 2 + 4 + 2 + 2 ≤ 16000000; decide), fun p7 n7 => ?_⟩
    have s6 := s5.trans (Same.new (o := HO.lst [V.int (h.marks : Int), V.int (h.hops : Int)]) n6)
    have s7 := s6.trans (Same.new (o := HO.lst (vb (Sj51.high 2 h.flow) ++ vb (Sj51.high 4 h.at_) ++ vb (Sj51.high 2 h.len) ++ [V.int (h.marks : Int), V.int (h.hops : Int)])) n7)
    refine ⟨_, rfl, x, 2, rfl, by decide, fun H8 p8 s8 n8 e8 => ?_⟩
    refine ⟨p7, p8, _, _, rfl, rfl, s8 _ _ upd_same, e8, by rw [List.length_append, List.length_append, List.length_append, vb_len, vb_len, vb_len, vb_len, high_len, high_len, high_len, high_len]; exact size_ok (by show 2 + 4 + 2 + 2 + 2 ≤ 16000000; decide), fun p9 n9 => ?_⟩
    have s9 : Same H H8 := s1.trans (s3.trans (s7.trans s8))
    refine k _ p9 (s9.trans (Same.new n9)) (s9.free n9) ?_
    rw [upd_same]
    unfold Sj51.headOf
    rw [vb_app, vb_app, vb_app, vb_app]
    rfl
theorem c_frame_of (T : Txt K mg CE CH CC) : Cal P w K mg base 5 "frame_of" sp_frame_of := by
  refine T.d_frame_of.cal sc_frame_of (fun vs H Q E h => ?_) (fun f cdv A outer s H vs Q E hr h => ?_)
  · obtain ⟨h, a, l, rfl, _⟩ := h
    rfl
  · obtain ⟨h, a, l, rfl, ha, hl, ho, hlen, hm, hh, k⟩ := h
    have el : ((vb l).length : Int) = (h.len : Int) := by rw [vb_len, hlen]
    refine ⟨_, (pss_cons (ps_set (i := 5) sc_frame_of.nd rfl (Or.inl rfl) (pe_cal (c_head_of T) (hr.mono (by decide)) (pa_cons (pv 0) (pa_cons (pv 1) (pa_cons (pe_callB call_len_seq (by rfl) T.n_len PySem.boot_len (pa_cons (pv 4) pa_nil)) (pa_cons (pv 2) (pa_cons (pv 3) (pa_cons pe_int pa_nil))))))))
      (pss_cons (ps_set (i := 6) sc_frame_of.nd rfl (Or.inl rfl) (pe_cal (c_head_of T) (hr.mono (by decide)) (pa_cons (pv 0) (pa_cons (pv 1) (pa_cons (pe_callB call_len_seq (by rfl) T.n_len PySem.boot_len (pa_cons (pv 4) pa_nil)) (pa_cons (pv 2) (pa_cons (pv 3) (pa_cons (pe_cal (c_check_of T) (hr.mono (by decide)) (pa_cons (pe_op op_cat (pv 5) (pv 4)) pa_nil)) pa_nil))))))))
      (pss_one (ps_ret (pe_cal (c_with_rest T) (hr.mono (by decide)) (pa_cons (pe_op op_cat (pv 6) (pv 4)) pa_nil)))))), ?_⟩
    refine ⟨_, rfl, _, rfl, _, rfl, a, _, rfl, .inl (SqL.of ha), _, rfl, _, rfl, h, 0, by rw [el]; rfl, fun H1 p1 s1 n1 e1 => ?_⟩
    have ha1 := s1 _ _ ha
    refine ⟨_, rfl, _, rfl, _, rfl, a, _, rfl, .inl (SqL.of ha1), _, rfl, _, rfl, _, rfl, _, rfl, p1, a, _, _, rfl, rfl, e1, ha1, by rw [vb_len, vb_len, headOf_len]; exact size_ok (by omega), fun p2 n2 => ?_⟩
    have s2 := Same.new (o := HO.lst (vb (Sj51.headOf h 0) ++ vb l)) n2
    refine ⟨p2, Sj51.headOf h 0 ++ l, rfl, by rw [upd_same, vb_app], (headOf_oct hm hh).app ho, by rw [List.length_append, headOf_len]; omega, ?_⟩
    refine ⟨h, Sj51.check (Sj51.headOf h 0 ++ l), by rw [el], fun H3 p3 s3 n3 e3 => ?_⟩
    have ha3 := s3 _ _ (s2 _ _ ha1)
    refine ⟨_, rfl, _, rfl, p3, a, _, _, rfl, rfl, e3, ha3, by rw [vb_len, vb_len, headOf_len]; exact size_ok (by omega), fun p4 n4 => ?_⟩
    have s4 := Same.new (o := HO.lst (vb (Sj51.headOf h (Sj51.check (Sj51.headOf h 0 ++ l))) ++ vb l)) n4
    refine ⟨p4, Sj51.headOf h (Sj51.check (Sj51.headOf h 0 ++ l)) ++ l, rfl, by rw [upd_same, vb_app], by rw [List.length_append, headOf_len]; omega, fun H5 p5 s5 n5 e5 => ?_⟩
    have s6 := s1.trans (s2.trans (s3.trans s4))
    exact k H5 p5 (s6.trans s5) (s6.free n5) (by rw [frame_eq]; exact e5)
theorem c_flow_in (T : Txt K mg CE CH CC) : Cal P w K mg base 2 "flow_in" sp_flow_in := by
  refine T.d_flow_in.cal sc_flow_in (fun vs H Q E h => ?_) (fun f cdv A outer s H vs Q E hr h => ?_)
  · obtain ⟨a, b, rfl, _⟩ := h
    rfl
  · obtain ⟨a, b, rfl, ha, k⟩ := h
    refine ⟨_, (pss_one (ps_ret (pe_cal (c_number_at T) (hr.mono (by decide)) (pa_cons (pv 0) (pa_cons (pe_gi T.c_FLOW_AT) (pa_cons pe_int pa_nil)))))), ?_⟩
    exact ⟨_, rfl, a, b, 0, 2, rfl, ha, k⟩
theorem c_place_in (T : Txt K mg CE CH CC) : Cal P w K mg base 2 "place_in" sp_place_in := by
  refine T.d_place_in.cal sc_place_in (fun vs H Q E h => ?_) (fun f cdv A outer s H vs Q E hr h => ?_)
  · obtain ⟨a, b, rfl, _⟩ := h
    rfl
  · obtain ⟨a, b, rfl, ha, k⟩ := h
    refine ⟨_, (pss_one (ps_ret (pe_cal (c_number_at T) (hr.mono (by decide)) (pa_cons (pv 0) (pa_cons (pe_gi T.c_PLACE_AT) (pa_cons pe_int pa_nil)))))), ?_⟩
    exact ⟨_, rfl, a, b, 2, 4, rfl, ha, k⟩
theorem c_long_in (T : Txt K mg CE CH CC) : Cal P w K mg base 2 "long_in" sp_long_in := by
  refine T.d_long_in.cal sc_long_in (fun vs H Q E h => ?_) (fun f cdv A outer s H vs Q E hr h => ?_)
  · obtain ⟨a, b, rfl, _⟩ := h
    rfl
  · obtain ⟨a, b, rfl, ha, k⟩ := h
    refine ⟨_, (pss_one (ps_ret (pe_cal (c_number_at T) (hr.mono (by decide)) (pa_cons (pv 0) (pa_cons (pe_gi T.c_LONG_AT) (pa_cons pe_int pa_nil)))))), ?_⟩
    exact ⟨_, rfl, a, b, 6, 2, rfl, ha, k⟩
theorem c_marks_in (T : Txt K mg CE CH CC) : Cal P w K mg base 1 "marks_in" sp_marks_in := by
  refine T.d_marks_in.cal sc_marks_in (fun vs H Q E h => ?_) (fun f cdv A outer s H vs Q E hr h => ?_)
  · obtain ⟨a, b, rfl, _⟩ := h
    rfl
  · obtain ⟨a, b, rfl, ha, hl, k⟩ := h
    refine ⟨_, (pss_one (ps_ret (pe_ix ix_list (pv 0) (pe_gi T.c_MARKS_AT) (fun _ _ => rfl)))), ?_⟩
    exact ⟨_, rfl, a, _, _, _, rfl, rfl, SqL.of ha, at_of (j := 8) rfl (vb_get (by omega)), k⟩
theorem c_hops_in (T : Txt K mg CE CH CC) : Cal P w K mg base 1 "hops_in" sp_hops_in := by
  refine T.d_hops_in.cal sc_hops_in (fun vs H Q E h => ?_) (fun f cdv A outer s H vs Q E hr h => ?_)
  · obtain ⟨a, b, rfl, _⟩ := h
    rfl
  · obtain ⟨a, b, rfl, ha, hl, k⟩ := h
    refine ⟨_, (pss_one (ps_ret (pe_ix ix_list (pv 0) (pe_gi T.c_HOPS_AT) (fun _ _ => rfl)))), ?_⟩
    exact ⟨_, rfl, a, _, _, _, rfl, rfl, SqL.of ha, at_of (j := 9) rfl (vb_get (by omega)), k⟩
theorem less4 {b : List Nat} (h : 16 ≤ b.length) : (((vb b).length : Nat) : Int) - 4 = ((b.length - 4 : Nat) : Int) := by
  rw [vb_len]
  omega
theorem c_body_in (T : Txt K mg CE CH CC) : Cal P w K mg base 1 "body_in" sp_body_in := by
  refine T.d_body_in.cal sc_body_in (fun vs H Q E h => ?_) (fun f cdv A outer s H vs Q E hr h => ?_)
  · obtain ⟨a, b, rfl, _⟩ := h
    rfl
  · obtain ⟨a, b, rfl, ha, hl, k⟩ := h
    refine ⟨_, (pss_one (ps_ret (pe_slice sl_list (pv 0) (po_some (pe_gi T.c_HEAD)) (po_some (pe_op op_sub (pe_callB call_len_seq (by rfl) T.n_len PySem.boot_len (pa_cons (pv 0) pa_nil)) (pe_gi T.c_REST)))))), ?_⟩
    refine ⟨_, rfl, _, rfl, _, rfl, a, _, rfl, .inl (SqL.of ha), _, _, rfl, rfl, _, rfl, a, _, rfl, SqL.of ha, fun p hp => ?_⟩
    refine k _ p (Same.new hp) hp ?_
    rw [upd_same]
    have e : cutV (vb b) (some 12) (some ((((vb b).length : Nat) : Int) - 4)) = vb (Sj51.bodyIn b) := by
      rw [less4 hl]
      have := cut_mid (vb b) 12 (b.length - 4)
      unfold Sj51.bodyIn
      rw [vb_drop, vb_take, show b.length - 4 - 12 = b.length - 16 by omega] at this
      exact this
    exact congrArg (fun z => some (HO.lst z)) e
theorem c_has_right_rest (T : Txt K mg CE CH CC) : Cal P w K mg base 5 "has_right_rest" sp_has_right_rest := by
  refine T.d_has_right_rest.cal sc_has_right_rest (fun vs H Q E h => ?_) (fun f cdv A outer s H vs Q E hr h => ?_)
  · obtain ⟨a, b, rfl, _⟩ := h
    rfl
  · obtain ⟨a, b, rfl, ha, hl, hl2, k⟩ := h
    refine ⟨_, (pss_one (ps_ret (pe_cmpR (op_eqD hr.units) (pe_cal (c_with_rest T) (hr.mono (by decide)) (pa_cons (pe_slice sl_list (pv 0) po_none (po_some (pe_op op_sub (pe_callB call_len_seq (by rfl) T.n_len PySem.boot_len (pa_cons (pv 0) pa_nil)) (pe_gi T.c_REST)))) pa_nil)) (pv 0) (nomark _)))), ?_⟩
    refine ⟨_, rfl, _, rfl, a, _, rfl, .inl (SqL.of ha), _, _, rfl, rfl, _, rfl, a, _, rfl, SqL.of ha, fun p hp => ?_⟩
    have e : cutV (vb b) none (some ((((vb b).length : Nat) : Int) - 4)) = vb (b.take (b.length - 4)) := by
      rw [less4 hl, cut_head, vb_take]
    have hpp : upd H p (.lst (cutV (vb b) none (some ((((vb b).length : Nat) : Int) - 4)))) p = some (.lst (vb (b.take (b.length - 4)))) := by rw [upd_same, e]
    have s1 : Same H (upd H p (.lst (cutV (vb b) none (some ((((vb b).length : Nat) : Int) - 4))))) := Same.new hp
    refine ⟨p, _, rfl, hpp, by rw [List.length_take]; omega, fun H2 q s2 nq eq => ?_⟩
    have s3 := s1.trans s2
    refine ⟨_, rfl, _, _, dp_lst eq, dp_lst (s3 _ _ ha), pd_shaped _, pd_shaped _, ?_⟩
    rw [pd_eqv]
    exact k H2 s3
theorem c_has_right_sum (T : Txt K mg CE CH CC) : Cal P w K mg base 3 "has_right_sum" sp_has_right_sum := by
  refine T.d_has_right_sum.cal sc_has_right_sum (fun vs H Q E h => ?_) (fun f cdv A outer s H vs Q E hr h => ?_)
  · obtain ⟨a, b, rfl, _⟩ := h
    rfl
  · obtain ⟨a, b, rfl, ha, hl, hl2, ho, k⟩ := h
    refine ⟨_, (pss_one (ps_ret (pe_cmpR op_eq (pe_cal (c_sum_by_ones T) (hr.mono (by decide)) (pa_cons (pe_slice sl_list (pv 0) po_none (po_some (pe_op op_sub (pe_callB call_len_seq (by rfl) T.n_len PySem.boot_len (pa_cons (pv 0) pa_nil)) (pe_gi T.c_REST)))) pa_nil)) (pe_gi T.c_LAST_WORD) (nomark _)))), ?_⟩
    refine ⟨_, rfl, _, rfl, a, _, rfl, .inl (SqL.of ha), _, _, rfl, rfl, _, rfl, a, _, rfl, SqL.of ha, fun p hp => ?_⟩
    have e : cutV (vb b) none (some ((((vb b).length : Nat) : Int) - 4)) = vb (b.take (b.length - 4)) := by
      rw [less4 hl, cut_head, vb_take]
    have hpp : upd H p (.lst (cutV (vb b) none (some ((((vb b).length : Nat) : Int) - 4)))) p = some (.lst (vb (b.take (b.length - 4)))) := by rw [upd_same, e]
    refine ⟨p, _, rfl, hpp, ho.take _, by rw [List.length_take]; omega, rfl, ?_⟩
    have e2 : decide (V.int ((Sj51.sum (b.take (b.length - 4)) : Nat) : Int) = V.int 65535) = decide (Sj51.sum (b.take (b.length - 4)) = 65535) := by
      refine decide_eq_decide.mpr ⟨fun z => ?_, fun z => ?_⟩
      · have := V.int.inj z
        omega
      · rw [z]
        rfl
    rw [e2]
    exact k _ (Same.new hp)
theorem c_fault_of (T : Txt K mg CE CH CC) : Cal P w K mg base 6 "fault_of" sp_fault_of := by
  refine T.d_fault_of.cal sc_fault_of (fun vs H Q E h => ?_) (fun f cdv A outer s H vs Q E hr h => ?_)
  · obtain ⟨a, b, rfl, _⟩ := h
    rfl
  · obtain ⟨a, b, rfl, ha, hl2, ho, k⟩ := h
    refine ⟨_, (pss_cons (ps_if (pt_cmpR op_lt (pe_callB call_len_seq (by rfl) T.n_len PySem.boot_len (pa_cons (pv 0) pa_nil)) (pe_gi T.c_LEAST) (nomark _)) (pss_one (ps_ret pe_int)) pss_nil)
      (pss_cons (ps_if (pt_not (pt_val (pe_cal (c_has_right_rest T) (hr.mono (by decide)) (pa_cons (pv 0) pa_nil)))) (pss_one (ps_ret pe_int)) pss_nil)
      (pss_cons (ps_if (pt_cmpR op_ne (pe_cal (c_long_in T) (hr.mono (by decide)) (pa_cons (pv 0) pa_nil)) (pe_op op_sub (pe_callB call_len_seq (by rfl) T.n_len PySem.boot_len (pa_cons (pv 0) pa_nil)) (pe_gi T.c_LEAST)) (nomark _)) (pss_one (ps_ret pe_int)) pss_nil)
      (pss_cons (ps_if (pt_not (pt_val (pe_cal (c_has_right_sum T) (hr.mono (by decide)) (pa_cons (pv 0) pa_nil)))) (pss_one (ps_ret pe_int)) pss_nil)
      (pss_cons (ps_if (pt_cmpR op_gt (pe_cal (c_marks_in T) (hr.mono (by decide)) (pa_cons (pv 0) pa_nil)) (pe_gi T.c_MOST_MARKS) (nomark _)) (pss_one (ps_ret pe_int)) pss_nil)
      (pss_one (ps_ret pe_int))))))), ?_⟩
    refine ⟨_, rfl, a, _, rfl, .inl (SqL.of ha), _, _, rfl, rfl, _, rfl, ?_⟩
    rcases fault_cases b with ⟨h1, e⟩ | h
    · refine iteP (decide_eq_true (by rw [vb_len]; omega)) ?_
      rw [e] at k
      exact k H (Same.refl H)
    have h16 : 16 ≤ b.length := by
      rcases h with ⟨z, _⟩ | ⟨z, _⟩ | ⟨z, _⟩ | ⟨z, _⟩ | ⟨z, _⟩ <;> exact z
    refine iteM (decide_eq_false (by rw [vb_len]; omega)) ?_
    refine ⟨_, rfl, a, b, rfl, ha, h16, hl2, fun H1 s1 => ⟨_, rfl, ?_⟩⟩
    have ha1 := s1 _ _ ha
    rcases h with ⟨_, h1, e⟩ | h
    · refine iteP (by rw [decide_eq_false h1]; rfl) ?_
      rw [e] at k
      exact k H1 s1
    have hr2 : withRest (b.take (b.length - 4)) = b := by
      rcases h with ⟨_, z, _⟩ | ⟨_, z, _⟩ | ⟨_, z, _⟩ | ⟨_, z, _⟩ <;> exact z
    refine iteM (by rw [decide_eq_true hr2]; rfl) ?_
    refine ⟨_, rfl, a, b, rfl, ha1, fun H2 s2 => ?_⟩
    have s12 := s1.trans s2
    have ha2 := s12 _ _ ha
    refine ⟨_, rfl, a, _, rfl, .inl (SqL.of ha2), _, _, rfl, rfl, rfl, _, rfl, ?_⟩
    have el : (((vb b).length : Nat) : Int) - 16 = ((b.length - 16 : Nat) : Int) := by
      rw [vb_len]
      omega
    rcases h with ⟨_, _, h1, e⟩ | h
    · refine iteP ?_ ?_
      · show (!decide (V.int (((Sj51.headIn b).len : Nat) : Int) = V.int ((((vb b).length : Nat) : Int) - 16))) = true
        rw [el, decide_eq_false (fun z => h1 (by have := V.int.inj z; omega))]
        rfl
      · rw [e] at k
        exact k H2 s12
    have hlen : (Sj51.headIn b).len = b.length - 16 := by
      rcases h with ⟨_, _, z, _⟩ | ⟨_, _, z, _⟩ | ⟨_, _, z, _⟩ <;> exact z
    refine iteM ?_ ?_
    · show (!decide (V.int (((Sj51.headIn b).len : Nat) : Int) = V.int ((((vb b).length : Nat) : Int) - 16))) = false
      rw [el, hlen, decide_eq_true rfl]
      rfl
    refine ⟨_, rfl, a, b, rfl, ha2, h16, hl2, ho, fun H3 s3 => ⟨_, rfl, ?_⟩⟩
    have s13 := s12.trans s3
    have ha3 := s13 _ _ ha
    rcases h with ⟨_, _, _, h1, e⟩ | h
    · refine iteP (by rw [decide_eq_false h1]; rfl) ?_
      rw [e] at k
      exact k H3 s13
    have hsum : Sj51.sum (b.take (b.length - 4)) = 65535 := by
      rcases h with ⟨_, _, _, z, _⟩ | ⟨_, _, _, z, _⟩ <;> exact z
    refine iteM (by rw [decide_eq_true hsum]; rfl) ?_
    refine ⟨_, rfl, a, b, rfl, ha3, h16, _, _, rfl, rfl, _, rfl, ?_⟩
    rcases h with ⟨_, _, _, _, h1, e⟩ | ⟨_, _, _, _, h1, e⟩
    · refine iteP (decide_eq_true (by omega)) ?_
      rw [e] at k
      exact k H3 s13
    · refine iteM (decide_eq_false (by omega)) ?_
      rw [e] at k
      exact k H3 s13
theorem c_passed_on (T : Txt K mg CE CH CC) : Cal P w K mg base 5 "passed_on" sp_passed_on := by
  refine T.d_passed_on.cal sc_passed_on (fun vs H Q E h => ?_) (fun f cdv A outer s H vs Q E hr h => ?_)
  · obtain ⟨a, b, rfl, _⟩ := h
    rfl
  · obtain ⟨a, b, rfl, ha, hl, hl2, ho, hh, k⟩ := h
    have hw : 256 * (Sj51.headIn b).marks + (Sj51.headIn b).hops ≤ 65535 ∧ 1 ≤ 256 * (Sj51.headIn b).marks + (Sj51.headIn b).hops := by
      have h1 : (Sj51.headIn b).marks < 256 := oct_getD ho 8
      have h2 : (Sj51.headIn b).hops < 256 := oct_getD ho 9
      omega
    have hs : Sj51.sumIn b ≤ 65535 := by
      have := ofHigh_lt 2 ((b.drop 10).take 2) (by rw [List.length_take, List.length_drop]; omega) ((ho.drop _).take _)
      unfold Sj51.sumIn
      omega
    refine ⟨_, (pss_cons (ps_set (i := 1) sc_passed_on.nd rfl (Or.inl rfl) (pe_cal (c_number_at T) (hr.mono (by decide)) (pa_cons (pv 0) (pa_cons (pe_gi T.c_MARKS_AT) (pa_cons pe_int pa_nil)))))
      (pss_cons (ps_set (i := 2) sc_passed_on.nd rfl (Or.inl rfl) (pe_cal (c_mended_check T) (hr.mono (by decide)) (pa_cons (pe_cal (c_number_at T) (hr.mono (by decide)) (pa_cons (pv 0) (pa_cons (pe_gi T.c_SUM_AT) (pa_cons pe_int pa_nil)))) (pa_cons (pv 1) pa_nil))))
      (pss_one (ps_ret (pe_cal (c_with_rest T) (hr.mono (by decide)) (pa_cons (pe_op op_cat (pe_op op_cat (pe_op op_cat (pe_slice sl_list (pv 0) po_none (po_some (pe_gi T.c_MARKS_AT))) (pe_cal (c_octets_of T) (hr.mono (by decide)) (pa_cons (pe_op op_sub (pv 1) pe_int) (pa_cons pe_int pa_nil)))) (pe_cal (c_octets_of T) (hr.mono (by decide)) (pa_cons (pv 2) (pa_cons pe_int pa_nil)))) (pe_cal (c_body_in T) (hr.mono (by decide)) (pa_cons (pv 0) pa_nil))) pa_nil)))))), ?_⟩
    refine ⟨_, rfl, a, b, 8, 2, rfl, ha, fun H1 s1 => ?_⟩
    rw [word_in hl]
    have ha1 := s1 _ _ ha
    refine ⟨_, rfl, a, b, 10, 2, rfl, ha1, fun H2 s2 => ?_⟩
    have ha2 := s2 _ _ ha1
    refine ⟨_, rfl, Sj51.sumIn b, 256 * (Sj51.headIn b).marks + (Sj51.headIn b).hops, rfl, hs, hw.1, hw.2, ?_⟩
    refine ⟨_, rfl, _, rfl, a, _, rfl, SqL.of ha2, fun p3 n3 => ?_⟩
    have e3 : cutV (vb b) none (some 8) = vb (b.take 8) := by
      have := cut_head (vb b) 8
      rw [vb_take] at this
      exact this
    have s3 := Same.new (o := HO.lst (cutV (vb b) none (some 8))) n3
    refine ⟨_, rfl, _, _, rfl, rfl, 256 * (Sj51.headIn b).marks + (Sj51.headIn b).hops - 1, 2, ?_, by decide, fun H4 p4 s4 n4 e4 => ?_⟩
    · show [V.int (((256 * (Sj51.headIn b).marks + (Sj51.headIn b).hops : Nat) : Int) - 1), V.int 2] = _
      rw [show ((256 * (Sj51.headIn b).marks + (Sj51.headIn b).hops : Nat) : Int) - 1 = ((256 * (Sj51.headIn b).marks + (Sj51.headIn b).hops - 1 : Nat) : Int) by omega]
      rfl
    have p34 : H4 p3 = some (.lst (vb (b.take 8))) := by
      rw [s4 p3 _ upd_same, e3]
    refine ⟨p3, p4, _, _, rfl, rfl, p34, e4, by rw [vb_len, vb_len, high_len, List.length_take]; exact size_ok (by omega), fun p5 n5 => ?_⟩
    have s5 := Same.new (o := HO.lst (vb (b.take 8) ++ vb (Sj51.high 2 (256 * (Sj51.headIn b).marks + (Sj51.headIn b).hops - 1)))) n5
    refine ⟨_, rfl, Sj51.mended (Sj51.sumIn b) (256 * (Sj51.headIn b).marks + (Sj51.headIn b).hops) (256 * (Sj51.headIn b).marks + (Sj51.headIn b).hops - 1), 2, rfl, by decide, fun H6 p6 s6 n6 e6 => ?_⟩
    refine ⟨p5, p6, _, _, rfl, rfl, s6 _ _ upd_same, e6, by rw [List.length_append, vb_len, vb_len, vb_len, high_len, high_len, List.length_take]; exact size_ok (by omega), fun p7 n7 => ?_⟩
    have s7 := Same.new (o := HO.lst (vb (b.take 8) ++ vb (Sj51.high 2 (256 * (Sj51.headIn b).marks + (Sj51.headIn b).hops - 1)) ++ vb (Sj51.high 2 (Sj51.mended (Sj51.sumIn b) (256 * (Sj51.headIn b).marks + (Sj51.headIn b).hops) (256 * (Sj51.headIn b).marks + (Sj51.headIn b).hops - 1))))) n7
    have s37 := s3.trans (s4.trans (s5.trans (s6.trans s7)))
    refine ⟨_, rfl, a, b, rfl, s37 _ _ ha2, hl, fun H8 p8 s8 n8 e8 => ?_⟩
    refine ⟨p7, p8, _, _, rfl, rfl, s8 _ _ upd_same, e8, by rw [List.length_append, List.length_append, vb_len, vb_len, vb_len, vb_len, high_len, high_len, List.length_take, bodyIn_len]; exact size_ok (by omega), fun p9 n9 => ?_⟩
    refine ⟨p9, b.take 8 ++ Sj51.high 2 (256 * (Sj51.headIn b).marks + (Sj51.headIn b).hops - 1) ++ Sj51.high 2 (Sj51.mended (Sj51.sumIn b) (256 * (Sj51.headIn b).marks + (Sj51.headIn b).hops) (256 * (Sj51.headIn b).marks + (Sj51.headIn b).hops - 1)) ++ Sj51.bodyIn b, rfl, by rw [upd_same, vb_app, vb_app, vb_app], ?_, fun H10 p10 s10 n10 e10 => ?_⟩
    · rw [List.length_append, List.length_append, List.length_append, high_len, high_len, List.length_take, bodyIn_len]
      omega
    have s9 := s1.trans (s2.trans (s37.trans (s8.trans (Same.new (o := HO.lst (vb (b.take 8) ++ vb (Sj51.high 2 (256 * (Sj51.headIn b).marks + (Sj51.headIn b).hops - 1)) ++ vb (Sj51.high 2 (Sj51.mended (Sj51.sumIn b) (256 * (Sj51.headIn b).marks + (Sj51.headIn b).hops) (256 * (Sj51.headIn b).marks + (Sj51.headIn b).hops - 1))) ++ vb (Sj51.bodyIn b))) n9))))
    exact k H10 p10 (s9.trans s10) (s9.free n10) (by rw [passed_eq ho hl hh]; exact e10)
theorem c_marks_of (T : Txt K mg CE CH CC) : Cal P w K mg base 1 "marks_of" sp_marks_of := by
  refine T.d_marks_of.cal sc_marks_of (fun vs H Q E h => ?_) (fun f cdv A outer s H vs Q E hr h => ?_)
  · obtain ⟨a, b, rfl, _⟩ := h
    rfl
  · obtain ⟨a, b, rfl, k⟩ := h
    refine ⟨_, (pss_cons (ps_set (i := 2) sc_marks_of.nd rfl (Or.inl rfl) pe_int)
      (pss_cons (ps_if (pt_val (pv 0)) (pss_one (ps_set (i := 2) sc_marks_of.nd rfl (Or.inl rfl) (pe_op op_add (pv 2) (pe_gi T.c_BEGINS)))) pss_nil)
      (pss_cons (ps_if (pt_val (pv 1)) (pss_one (ps_set (i := 2) sc_marks_of.nd rfl (Or.inl rfl) (pe_op op_add (pv 2) (pe_gi T.c_ENDS)))) pss_nil)
      (pss_one (ps_ret (pv 2)))))), ?_⟩
    refine ⟨_, rfl, a, rfl, ?_⟩
    cases a with
    | true =>
      refine iteT ⟨_, rfl, _, _, rfl, rfl, _, rfl, b, rfl, ?_⟩
      cases b with
      | true => exact iteT ⟨_, rfl, _, _, rfl, rfl, _, rfl, k⟩
      | false => exact iteF ⟨_, rfl, k⟩
    | false =>
      refine iteF ⟨_, rfl, b, rfl, ?_⟩
      cases b with
      | true => exact iteT ⟨_, rfl, _, _, rfl, rfl, _, rfl, k⟩
      | false => exact iteF ⟨_, rfl, k⟩
end
end FC

/-! Framecard: house.py walked. -/
namespace FC
open PySem PySem.Spec PyProof.Rows L2
/-! ### attributes by place -/
theorem lk_no : ∀ {f : Str} {ks : List Str} {l : List (Str × V)}, l.map (·.1) = ks → ks.contains f = false → l.lookup f = none
  | f, _, [], rfl, _ => rfl
  | f, _, (g, v) :: r, rfl, h => by
    have h' : ((f == g) || (r.map (·.1)).contains f) = false := h
    rw [Bool.or_eq_false_iff] at h'
    have ih := lk_no (l := r) rfl h'.2
    simp only [List.lookup, h'.1]
    exact ih
theorem lk_ix : ∀ {f : Str} {ks : List Str} {l : List (Str × V)} {j : Nat} {v : V}, l.map (·.1) = ks → (ks.findIdx? fun g => f == g) = some j → (l.map (·.2))[j]? = some v → l.lookup f = some v
  | f, _, [], j, v, rfl, h, _ => by cases h
  | f, _, (g, u) :: r, j, v, rfl, h, hv => by
    have h' : ((g :: r.map (·.1)).findIdx? fun g => f == g) = some j := h
    rw [List.findIdx?_cons] at h'
    cases e : (f == g) with
    | true =>
      rw [e, if_pos rfl] at h'
      cases h'
      simp only [List.lookup, e]
      exact hv
    | false =>
      rw [e, if_neg Bool.false_ne_true] at h'
      cases q : (r.map (·.1)).findIdx? fun g => f == g with
      | none =>
        rw [q] at h'
        cases h'
      | some i =>
        rw [q] at h'
        cases h'
        simp only [List.lookup, e]
        exact lk_ix rfl q hv
theorem put_new : ∀ {f : Str} {v : V} {ks : List Str} {l : List (Str × V)}, l.map (·.1) = ks → ks.contains f = false → putF f v l = l ++ [(f, v)]
  | f, v, _, [], rfl, _ => rfl
  | f, v, _, (g, u) :: r, rfl, h => by
    have h' : ((f == g) || (r.map (·.1)).contains f) = false := h
    rw [Bool.or_eq_false_iff] at h'
    have ne : ¬ g = f := fun e => by
      have := h'.1
      rw [e] at this
      simp at this
    show (if g = f then (g, v) :: r else (g, u) :: putF f v r) = (g, u) :: (r ++ [(f, v)])
    rw [if_neg ne, put_new (l := r) rfl h'.2]
theorem put_ix : ∀ {f : Str} {v : V} {ks : List Str} {l : List (Str × V)} {j : Nat}, l.map (·.1) = ks → (ks.findIdx? fun g => f == g) = some j → putF f v l = l.set j (f, v)
  | f, v, _, [], j, rfl, h => by cases h
  | f, v, _, (g, u) :: r, j, rfl, h => by
    have h' : ((g :: r.map (·.1)).findIdx? fun g => f == g) = some j := h
    rw [List.findIdx?_cons] at h'
    show (if g = f then (g, v) :: r else (g, u) :: putF f v r) = _
    cases e : (f == g) with
    | true =>
      rw [e, if_pos rfl] at h'
      cases h'
      have e' : f = g := eq_of_beq e
      subst e'
      rw [if_pos rfl]
      rfl
    | false =>
      rw [e, if_neg Bool.false_ne_true] at h'
      have ne : ¬ g = f := fun q => by
        rw [q] at e
        simp at e
      rw [if_neg ne]
      cases q : (r.map (·.1)).findIdx? fun g => f == g with
      | none =>
        rw [q] at h'
        cases h'
      | some i =>
        rw [q] at h'
        cases h'
        rw [put_ix (l := r) rfl q]
        rfl
/-! ### dicts -/
theorem valV_drop {κ : Type} [DecidableEq κ] (k j : κ) : ∀ kvs : List (κ × V), valV (dropK kvs k) j = if j = k then none else valV kvs j
  | [] => by
    rw [show dropK ([] : List (κ × V)) k = [] from rfl, valV_nil]
    split <;> rfl
  | p :: r => by
    have ih := valV_drop k j r
    by_cases e : p.1 = k
    · rw [dropK_pos e, ih]
      by_cases e2 : j = k
      · rw [if_pos e2, if_pos e2]
      · rw [if_neg e2, if_neg e2, valV_neg fun z => e2 (z.symm.trans e)]
    · rw [dropK_neg e]
      by_cases e3 : p.1 = j
      · rw [valV_pos e3, valV_pos e3, if_neg fun z => e (e3.trans z)]
      · rw [valV_neg e3, valV_neg e3, ih]
theorem putK_old {κ : Type} [DecidableEq κ] {kvs : List (κ × V)} {k : κ} {u : V} (v : V) (h : valV kvs k = some u) : (putK kvs k v).map (·.1) = kvs.map (·.1) := by
  unfold putK
  have q : (kvs.any fun kv => decide (kv.1 = k)) = true := by
    rw [valV_any, h]
    rfl
  rw [if_pos q, List.map_map]
  refine List.map_congr_left fun p _ => ?_
  show (if p.1 = k then (p.1, v) else p).1 = p.1
  split <;> rfl
/-! ### how a house lies in the heap -/
/-- a list of bytes, none of the cells S -/
def Dat (S : List Addr) (H : Hp) (p : Addr) (b : List Nat) : Prop := p ∉ S ∧ H p = some (.lst (vb b))
/-- all but S stands -/
def Keep (S : List Addr) (H H' : Hp) : Prop := ∀ b o, H b = some o → b ∉ S → H' b = some o
theorem Keep.refl {S : List Addr} {H : Hp} : Keep S H H := fun _ _ e _ => e
theorem Keep.trans {S : List Addr} {H H1 H2 : Hp} (a : Keep S H H1) (b : Keep S H1 H2) : Keep S H H2 := fun c o e n => b c o (a c o e n) n
theorem Keep.same {S : List Addr} {H H' : Hp} (s : Same H H') : Keep S H H' := fun b o e _ => s b o e
theorem Keep.upd {S : List Addr} {H : Hp} {x : Addr} {o : HO} (h : x ∈ S) : Keep S H (L2.upd H x o) := fun b u e n => by
  have hb : b ≠ x := fun z => n (by rw [z]; exact h)
  rw [upd_ne hb]
  exact e
theorem Keep.one {S : List Addr} {H H' : Hp} {x : Addr} (h : x ∈ S) (k : ∀ b o, H b = some o → b ≠ x → H' b = some o) : Keep S H H' := fun b o e n => k b o e fun z => n (z ▸ h)
theorem Dat.keepS {S : List Addr} {H H' : Hp} {p : Addr} {b : List Nat} (d : Dat S H p b) (k : Keep S H H') : Dat S H' p b := ⟨d.1, k _ _ d.2 d.1⟩
def Frs (S : List Addr) (H : Hp) : List Addr → List (List Nat) → Prop
  | [], [] => True
  | p :: r, f :: q => Dat S H p f ∧ Frs S H r q
  | _, _ => False
theorem Frs.keepS {S : List Addr} {H H' : Hp} (k : Keep S H H') : ∀ {ps : List Addr} {fs : List (List Nat)}, Frs S H ps fs → Frs S H' ps fs
  | [], [], _ => trivial
  | _ :: _, _ :: _, ⟨a, b⟩ => ⟨a.keepS k, Frs.keepS k b⟩
theorem Frs.app {S : List Addr} {H : Hp} : ∀ {ps qs : List Addr} {fs gs : List (List Nat)}, Frs S H ps fs → Frs S H qs gs → Frs S H (ps ++ qs) (fs ++ gs)
  | [], _, [], _, _, b => b
  | _ :: _, _, _ :: _, _, ⟨a, c⟩, b => ⟨a, Frs.app c b⟩
theorem Frs.len {S : List Addr} {H : Hp} : ∀ {ps : List Addr} {fs : List (List Nat)}, Frs S H ps fs → ps.length = fs.length
  | [], [], _ => rfl
  | _ :: _, _ :: _, ⟨_, b⟩ => congrArg (· + 1) (Frs.len b)
theorem Frs.more {S S' : List Addr} {H : Hp} : ∀ {ps : List Addr} {fs : List (List Nat)}, Frs S H ps fs → (∀ p ∈ ps, p ∉ S') → Frs S' H ps fs
  | [], [], _, _ => trivial
  | _ :: _, _ :: _, ⟨a, b⟩, h => ⟨⟨h _ (List.mem_cons_self ..), a.2⟩, Frs.more b fun p m => h p (List.mem_cons_of_mem _ m)⟩
theorem Frs.dp {S : List Addr} {K : PySem.W.Frag} {H : Hp} : ∀ {ps : List Addr} {fs : List (List Nat)}, Frs S H ps fs → DpAll K H (ps.map V.ref) (fs.map fun f => .list (pd f))
  | [], [], _ => .nil
  | _ :: _, _ :: _, ⟨a, b⟩ => .cons (dp_lst a.2) (Frs.dp b)
theorem frs_can : ∀ fs : List (List Nat), PyData.canLayAll0 (fs.map fun f => PyData.list (pd f)) = true ∧ PyData.depthAll (fs.map fun f => PyData.list (pd f)) ≤ 1
  | [] => by
    constructor
    · show PyData.canLayAll0 [] = true
      rw [PyData.canLayAll0]
    · show PyData.depthAll [] ≤ 1
      rw [PyData.depthAll]
      decide
  | f :: r => by
    obtain ⟨h1, h2⟩ := frs_can r
    constructor
    · show PyData.canLayAll0 (PyData.list (pd f) :: r.map fun f => PyData.list (pd f)) = true
      rw [PyData.canLayAll0, h1, PyData.canLay0, pd_can]
      rfl
    · show PyData.depthAll (PyData.list (pd f) :: r.map fun f => PyData.list (pd f)) ≤ 1
      rw [PyData.depthAll, PyData.depth, pd_depth]
      omega
theorem frs_shaped (fs : List (List Nat)) : SeqAt.shaped (.list (fs.map fun f => PyData.list (pd f))) = true := by
  unfold SeqAt.shaped
  obtain ⟨h1, h2⟩ := frs_can fs
  rw [Bool.and_eq_true]
  constructor
  · rw [PyData.canLay0]
    exact h1
  · rw [PyData.depth]
    exact decide_eq_true (by omega)
theorem frs_eqv_nil (fs : List (List Nat)) : PyData.eqv (.list (fs.map fun f => PyData.list (pd f))) (.list []) = decide (fs = []) := by
  rw [PyData.eqv]
  cases fs with
  | nil =>
    show PyData.eqvAll [] [] = _
    rw [PyData.eqvAll]
    rfl
  | cons f r =>
    show PyData.eqvAll (_ :: _) [] = _
    rw [PyData.eqvAll]
    simp
/-- what is held of a flow -/
def eF (p : Addr) (n : Int) : List (Str × V) := [("octets", .ref p), ("place", .int n)]
def eK : List Str := ["octets", "place"]
def HeldAt (CE : Addr) (S : List Addr) (H : Hp) (a : Addr) (x : Sj51.Held) : Prop := a ∉ S ∧ ∃ dx p, H a = some (.ins CE dx (eF p (x.next : Int))) ∧ Dat S H p x.bytes
theorem HeldAt.keepS {CE : Addr} {S : List Addr} {H H' : Hp} {a : Addr} {x : Sj51.Held} (d : HeldAt CE S H a x) (k : Keep S H H') : HeldAt CE S H' a x := by
  obtain ⟨n, dx, p, e, d⟩ := d
  exact ⟨n, dx, p, k _ _ e n, d.keepS k⟩
def kw (w : Nat) : Key := Sum.inl (w : Int)
structure FlowsAt (CE : Addr) (S : List Addr) (H : Hp) (kvs : List (Key × V)) (hd : List Sj51.Held) : Prop where
  nd : (kvs.map (·.1)).Nodup
  len : kvs.length = hd.length
  no : ∀ w, look hd w = none → valV kvs (kw w) = none
  yes : ∀ w x, look hd w = some x → ∃ a, valV kvs (kw w) = some (.ref a) ∧ HeldAt CE S H a x
theorem FlowsAt.keepS {CE : Addr} {S : List Addr} {H H' : Hp} {kvs : List (Key × V)} {hd : List Sj51.Held} (d : FlowsAt CE S H kvs hd) (k : Keep S H H') : FlowsAt CE S H' kvs hd :=
  ⟨d.nd, d.len, d.no, fun w x e => let ⟨a, h1, h2⟩ := d.yes w x e; ⟨a, h1, h2.keepS k⟩⟩
theorem FlowsAt.val {CE : Addr} {S : List Addr} {H : Hp} {kvs : List (Key × V)} {hd : List Sj51.Held} (d : FlowsAt CE S H kvs hd) (w : Nat) : (valV kvs (kw w)).isSome = (look hd w).isSome := by
  cases e : look hd w with
  | none =>
    rw [d.no w e]
    rfl
  | some x =>
    obtain ⟨a, h, _⟩ := d.yes w x e
    rw [h]
    rfl
theorem kw_inj {w w' : Nat} : kw w' = kw w ↔ w' = w := by
  constructor
  · intro e
    have := Sum.inl.inj e
    omega
  · intro e
    rw [e]
theorem FlowsAt.drop {CE : Addr} {S : List Addr} {H : Hp} {kvs : List (Key × V)} {hd : List Sj51.Held} (d : FlowsAt CE S H kvs hd) {w : Nat} {x : Sj51.Held} (nd : (hd.map (·.flow)).Nodup) (h : look hd w = some x) : FlowsAt CE S H (dropK kvs (kw w)) (without hd w) := by
  obtain ⟨a, hv, _⟩ := d.yes w x h
  refine ⟨nd_dropK d.nd, ?_, fun w' e => ?_, fun w' y e => ?_⟩
  · have h1 := dropK_len d.nd (valV_in hv)
    have h2 := without_len nd h
    have h3 := d.len
    omega
  · rw [look_without] at e
    rw [valV_drop]
    by_cases c : w' = w
    · rw [if_pos (kw_inj.mpr c)]
    · rw [if_neg c] at e
      rw [if_neg (fun z => c (kw_inj.mp z))]
      exact d.no w' e
  · rw [look_without] at e
    by_cases c : w' = w
    · rw [if_pos c] at e
      cases e
    · rw [if_neg c] at e
      obtain ⟨a', h1, h2⟩ := d.yes w' y e
      exact ⟨a', by rw [valV_drop, if_neg (fun z => c (kw_inj.mp z))]; exact h1, h2⟩
theorem FlowsAt.put {CE : Addr} {S : List Addr} {H : Hp} {kvs : List (Key × V)} {hd : List Sj51.Held} (d : FlowsAt CE S H kvs hd) {x : Sj51.Held} {a : Addr} (nd : (hd.map (·.flow)).Nodup) (hx : HeldAt CE S H a x) : FlowsAt CE S H (putK kvs (kw x.flow) (.ref a)) (without hd x.flow ++ [x]) := by
  have nl : ((putK kvs (kw x.flow) (V.ref a)).map (·.1)).Nodup ∧ (putK kvs (kw x.flow) (V.ref a)).length = (without hd x.flow).length + 1 := by
    cases e : look hd x.flow with
    | none =>
      have hv := d.no _ e
      refine ⟨nd_putK _ d.nd hv, ?_⟩
      rw [putK_new _ hv, without_none e, List.length_append, d.len]
      rfl
    | some y =>
      obtain ⟨a', hv, _⟩ := d.yes _ _ e
      have q := putK_old (V.ref a) hv
      refine ⟨by rw [q]; exact d.nd, ?_⟩
      have q2 := congrArg List.length q
      rw [List.length_map, List.length_map] at q2
      rw [q2, without_len nd e, d.len]
  refine ⟨nl.1, ?_, fun w' e => ?_, fun w' y e => ?_⟩
  · rw [nl.2, List.length_append]
    rfl
  · rw [look_snoc] at e
    by_cases c : w' = x.flow
    · rw [if_pos c] at e
      cases e
    · rw [if_neg c] at e
      rw [valV_put, if_neg (fun z => c (kw_inj.mp z))]
      exact d.no w' e
  · rw [look_snoc] at e
    by_cases c : w' = x.flow
    · rw [if_pos c] at e
      cases e
      exact ⟨a, by rw [valV_put, if_pos (kw_inj.mpr c)], hx⟩
    · rw [if_neg c] at e
      obtain ⟨a', h1, h2⟩ := d.yes w' y e
      exact ⟨a', by rw [valV_put, if_neg (fun z => c (kw_inj.mp z))]; exact h1, h2⟩
def hF (size hops : Nat) (rl fl : Addr) (wv : V) (c0 c1 c2 : Nat) : List (Str × V) :=
  [("size", .int (size : Int)), ("hops", .int (hops : Int)), ("ready", .ref rl), ("flows", .ref fl), ("whole", wv), ("faulty", .int (c0 : Int)), ("good", .int (c1 : Int)), ("bad", .int (c2 : Int))]
def hK : List Str := ["size", "hops", "ready", "flows", "whole", "faulty", "good", "bad"]
/-- what was whole last -/
def WholeAt (S : List Addr) (H : Hp) (v : V) : Option (List Nat) → Prop
  | none => v = .non
  | some b => ∃ p, v = .ref p ∧ Dat S H p b
theorem WholeAt.keepS {S : List Addr} {H H' : Hp} {v : V} (k : Keep S H H') : ∀ {l : Option (List Nat)}, WholeAt S H v l → WholeAt S H' v l
  | none, e => e
  | some _, ⟨p, e, d⟩ => ⟨p, e, d.keepS k⟩
/-! ### the cells of a house, and others (Z) that are none of its data -/
theorem Keep.more {a rl fl : Addr} {Z : List Addr} {H H' : Hp} (k : Keep [a, rl, fl] H H') : Keep (a :: rl :: fl :: Z) H H' := fun b o e n => k b o e fun m => n (by
  rcases List.mem_cons.mp m with z | m
  · rw [z]; simp
  rcases List.mem_cons.mp m with z | m
  · rw [z]; simp
  · rw [List.mem_singleton.mp m]; simp)
section
variable {CE a rl fl : Addr} {Z : List Addr} {H H' : Hp}
theorem Dat.keep {p : Addr} {b : List Nat} (d : Dat (a :: rl :: fl :: Z) H p b) (k : Keep [a, rl, fl] H H') : Dat (a :: rl :: fl :: Z) H' p b := d.keepS k.more
theorem Frs.keep {ps : List Addr} {fs : List (List Nat)} (d : Frs (a :: rl :: fl :: Z) H ps fs) (k : Keep [a, rl, fl] H H') : Frs (a :: rl :: fl :: Z) H' ps fs := d.keepS k.more
theorem HeldAt.keep {p : Addr} {x : Sj51.Held} (d : HeldAt CE (a :: rl :: fl :: Z) H p x) (k : Keep [a, rl, fl] H H') : HeldAt CE (a :: rl :: fl :: Z) H' p x := d.keepS k.more
theorem FlowsAt.keep {kvs : List (Key × V)} {hd : List Sj51.Held} (d : FlowsAt CE (a :: rl :: fl :: Z) H kvs hd) (k : Keep [a, rl, fl] H H') : FlowsAt CE (a :: rl :: fl :: Z) H' kvs hd := d.keepS k.more
theorem WholeAt.keep {v : V} {l : Option (List Nat)} (d : WholeAt (a :: rl :: fl :: Z) H v l) (k : Keep [a, rl, fl] H H') : WholeAt (a :: rl :: fl :: Z) H' v l := d.keepS k.more
end
/-- what is tracked stays so -/
theorem upd_there {H : Hp} {x z : Addr} {o : HO} (h : H z ≠ none) : upd H x o z ≠ none := by
  by_cases e : z = x
  · rw [e, upd_same]
    exact fun q => nomatch q
  · rw [upd_ne e]
    exact h
theorem Same.there {H H' : Hp} (s : Same H H') {z : Addr} (h : H z ≠ none) : H' z ≠ none := by
  cases e : H z with
  | none => exact absurd e h
  | some o =>
    rw [s z o e]
    exact fun q => nomatch q
/-- a house h at a; its ready list at rl, its dict at fl -/
structure HouseAt (CE CH : Addr) (Z : List Addr) (H : Hp) (a rl fl : Addr) (h : Sj51.House) : Prop where
  ins : ∃ dx wv c0 c1 c2, H a = some (.ins CH dx (hF h.size h.hops rl fl wv c0 c1 c2)) ∧ h.counts = [c0, c1, c2] ∧ WholeAt (a :: rl :: fl :: Z) H wv h.last
  ready : ∃ ps, H rl = some (.lst (ps.map V.ref)) ∧ Frs (a :: rl :: fl :: Z) H ps h.ready
  flows : ∃ kvs, H fl = some (.dK kvs) ∧ FlowsAt CE (a :: rl :: fl :: Z) H kvs h.held
  zs : ∀ z ∈ Z, H z ≠ none
theorem HouseAt.ne {CE CH : Addr} {Z : List Addr} {H : Hp} {a rl fl : Addr} {h : Sj51.House} (A : HouseAt CE CH Z H a rl fl h) : a ≠ rl ∧ a ≠ fl ∧ rl ≠ fl := by
  obtain ⟨_, _, _, _, _, e1, _⟩ := A.ins
  obtain ⟨_, e2, _⟩ := A.ready
  obtain ⟨_, e3, _⟩ := A.flows
  exact ⟨ne_of e1 e2 (by intro z; cases z), ne_of e1 e3 (by intro z; cases z), ne_of e2 e3 (by intro z; cases z)⟩
theorem HouseAt.there {CE CH : Addr} {Z : List Addr} {H : Hp} {a rl fl : Addr} {h : Sj51.House} (A : HouseAt CE CH Z H a rl fl h) : ∀ x ∈ [a, rl, fl], H x ≠ none := fun x m e => by
  obtain ⟨_, _, _, _, _, e1, _⟩ := A.ins
  obtain ⟨_, e2, _⟩ := A.ready
  obtain ⟨_, e3, _⟩ := A.flows
  rcases List.mem_cons.mp m with z | m
  · rw [z, e1] at e; cases e
  rcases List.mem_cons.mp m with z | m
  · rw [z, e2] at e; cases e
  · rw [List.mem_singleton.mp m, e3] at e; cases e
theorem HouseAt.new {CE CH : Addr} {Z : List Addr} {H : Hp} {a rl fl : Addr} {h : Sj51.House} (A : HouseAt CE CH Z H a rl fl h) {p : Addr} (hp : H p = none) : p ∉ [a, rl, fl] := fun m => A.there p m hp
theorem HouseAt.newZ {CE CH : Addr} {Z : List Addr} {H : Hp} {a rl fl : Addr} {h : Sj51.House} (A : HouseAt CE CH Z H a rl fl h) {p : Addr} (hp : H p = none) : p ∉ a :: rl :: fl :: Z := fun m => by
  rcases List.mem_cons.mp m with z | m
  · exact A.there p (by rw [z]; simp) hp
  rcases List.mem_cons.mp m with z | m
  · exact A.there p (by rw [z]; simp) hp
  rcases List.mem_cons.mp m with z | m
  · exact A.there p (by rw [z]; simp) hp
  · exact A.zs p m hp
theorem HouseAt.same {CE CH : Addr} {Z : List Addr} {H H' : Hp} {a rl fl : Addr} {h : Sj51.House} (A : HouseAt CE CH Z H a rl fl h) (s : Same H H') : HouseAt CE CH Z H' a rl fl h := by
  obtain ⟨dx, wv, c0, c1, c2, e1, ec, ew⟩ := A.ins
  obtain ⟨ps, e2, ef⟩ := A.ready
  obtain ⟨kvs, e3, ek⟩ := A.flows
  exact ⟨⟨dx, wv, c0, c1, c2, s _ _ e1, ec, ew.keep (Keep.same s)⟩, ⟨ps, s _ _ e2, ef.keep (Keep.same s)⟩, ⟨kvs, s _ _ e3, ek.keep (Keep.same s)⟩, fun z m => Same.there s (A.zs z m)⟩
/-! ### the promises -/
section
variable (CE CH : Addr)
def sp_Held_init : Sp := fun vs H Q _ => ∃ (p dx o : Addr) (n : Nat), vs = [.ref p, .ref o, .int (n : Int)] ∧ H p = some (.ins CE dx []) ∧ Q .non (upd H p (.ins CE dx (eF o (n : Int))))
def sp_House_init : Sp := fun vs H Q _ => ∃ (Z : List Addr) (p dx : Addr) (size hops : Nat), vs = [.ref p, .int (size : Int), .int (hops : Int)] ∧ H p = some (.ins CH dx []) ∧ (∀ z ∈ Z, H z ≠ none) ∧
  ∀ H' rl fl, HouseAt CE CH Z H' p rl fl ⟨size, hops, [], [], List.replicate 3 0, none⟩ → (∀ b o, H b = some o → b ≠ p → H' b = some o) → H rl = none → H fl = none → Q .non H'
def sp_add_frames : Sp := fun vs H Q _ => ∃ (Z : List Addr) (a rl fl q : Addr) (h : Sj51.House) (ps : List Addr) (fs : List (List Nat)), vs = [.ref a, .ref q] ∧ HouseAt CE CH Z H a rl fl h ∧ q ∉ [a, rl, fl] ∧ H q = some (.lst (ps.map V.ref)) ∧ Frs (a :: rl :: fl :: Z) H ps fs ∧ h.ready.length + fs.length ≤ 1000 ∧
  ∀ H', HouseAt CE CH Z H' a rl fl { h with ready := h.ready ++ fs } → Keep [a, rl, fl] H H' → Q .non H'
def sp_take_frame : Sp := fun vs H Q _ => ∃ (Z : List Addr) (a rl fl : Addr) (h : Sj51.House) (f : List Nat) (r : List (List Nat)), vs = [.ref a] ∧ HouseAt CE CH Z H a rl fl h ∧ h.ready = f :: r ∧
  ∀ H' p, HouseAt CE CH Z H' a rl fl { h with ready := r } → Dat (a :: rl :: fl :: Z) H' p f → Keep [a, rl, fl] H H' → Q (.ref p) H'
def sp_holds : Sp := fun vs H Q _ => ∃ (Z : List Addr) (a rl fl : Addr) (h : Sj51.House) (w : Nat), vs = [.ref a, .int (w : Int)] ∧ HouseAt CE CH Z H a rl fl h ∧ Q (.bl (look h.held w).isSome) H
def sp_held_of : Sp := fun vs H Q _ => ∃ (Z : List Addr) (a rl fl : Addr) (h : Sj51.House) (w : Nat) (x : Sj51.Held), vs = [.ref a, .int (w : Int)] ∧ HouseAt CE CH Z H a rl fl h ∧ look h.held w = some x ∧ ∀ p, HeldAt CE (a :: rl :: fl :: Z) H p x → Q (.ref p) H
def sp_let_go : Sp := fun vs H Q _ => ∃ (Z : List Addr) (a rl fl : Addr) (h : Sj51.House) (w : Nat), vs = [.ref a, .int (w : Int)] ∧ HouseAt CE CH Z H a rl fl h ∧ (h.held.map (·.flow)).Nodup ∧
  ∀ H', HouseAt CE CH Z H' a rl fl { h with held := without h.held w } → Keep [a, rl, fl] H H' → Q .non H'
def sp_hold : Sp := fun vs H Q _ => ∃ (Z : List Addr) (a rl fl p : Addr) (h : Sj51.House) (x : Sj51.Held), vs = [.ref a, .int (x.flow : Int), .ref p, .int (x.next : Int)] ∧ HouseAt CE CH Z H a rl fl h ∧ (h.held.map (·.flow)).Nodup ∧ h.held.length ≤ 1000 ∧ Dat (a :: rl :: fl :: Z) H p x.bytes ∧
  ∀ H', HouseAt CE CH Z H' a rl fl { h with held := without h.held x.flow ++ [x] } → Keep [a, rl, fl] H H' → Q .non H'
def sp_many_flows : Sp := fun vs H Q _ => ∃ (Z : List Addr) (a rl fl : Addr) (h : Sj51.House), vs = [.ref a] ∧ HouseAt CE CH Z H a rl fl h ∧ Q (.int (h.held.length : Int)) H
def sp_keep_whole : Sp := fun vs H Q _ => ∃ (Z : List Addr) (a rl fl p : Addr) (h : Sj51.House) (b : List Nat), vs = [.ref a, .ref p] ∧ HouseAt CE CH Z H a rl fl h ∧ Dat (a :: rl :: fl :: Z) H p b ∧
  ∀ H', HouseAt CE CH Z H' a rl fl { h with last := some b } → Keep [a, rl, fl] H H' → Q .non H'
def sp_count_faulty : Sp := fun vs H Q _ => ∃ (Z : List Addr) (a rl fl : Addr) (h : Sj51.House), vs = [.ref a] ∧ HouseAt CE CH Z H a rl fl h ∧
  ∀ H', HouseAt CE CH Z H' a rl fl { h with counts := Sj51.counted h.counts 0 } → Keep [a, rl, fl] H H' → Q .non H'
def sp_count_answer : Sp := fun vs H Q _ => ∃ (Z : List Addr) (a rl fl : Addr) (h : Sj51.House) (n : Nat), vs = [.ref a, .int (n : Int)] ∧ HouseAt CE CH Z H a rl fl h ∧
  ∀ H', HouseAt CE CH Z H' a rl fl { h with counts := Sj51.counted h.counts (if n < 3 then 1 else 2) } → Keep [a, rl, fl] H H' → Q .non H'
def sp_place_behind : Sp := fun vs H Q _ => ∃ p m : Nat, vs = [.int (p : Int), .int (m : Int)] ∧ Q (.int (((p + m) % 2 ^ 32 : Nat) : Int)) H
def sp_frames_of : Sp := fun vs H Q _ => ∃ (Z : List Addr) (a rl fl q : Addr) (h : Sj51.House) (w n : Nat) (l : List Nat), vs = [.ref a, .int (w : Int), .int (n : Int), .ref q] ∧ HouseAt CE CH Z H a rl fl h ∧ H q = some (.lst (vb l)) ∧ 1 ≤ l.length ∧ l.length ≤ 4096 ∧ Oct l ∧ 1 ≤ h.size ∧ h.size ≤ 1024 ∧ h.hops ≤ 255 ∧
  ∀ H' p ps, Same H H' → H p = none → H' p = some (.lst (ps.map V.ref)) → (∀ x ∈ ps, H x = none) → Frs [] H' ps (Sj51.cut h.size w n h.hops l) → Q (.ref p) H'
end
section
variable {P : Program} {w : World} {K : PySem.W.Frag} {mg : Str → Option Value} {base : Heap} {CE CH CC : Addr}
theorem k_Held_init (T : Txt K mg CE CH CC) : ICal P w K mg base 1 "Held" CE (sp_Held_init CE) := by
  refine T.i_Held_init.cal T.mgE sc_Held_init (fun vs H Q E h => ?_) (fun f cdv A outer s H vs Q E hr h => ?_)
  · obtain ⟨p, dx, o, n, rfl, _⟩ := h
    rfl
  · obtain ⟨p, dx, o, n, rfl, hp, k⟩ := h
    refine ⟨_, (pss_cons (ps_fld (pv 0) (pv 1) rfl)
      (pss_one (ps_fld (pv 0) (pv 2) rfl))), ?_⟩
    refine ⟨_, rfl, _, rfl, p, CE, dx, [], rfl, hp, T.clE, T.noE_octets, (by show 0 < 1000; decide), ?_⟩
    refine ⟨_, rfl, _, rfl, p, CE, dx, _, rfl, upd_same, T.clE, T.noE_place, (by show 1 < 1000; decide), ?_⟩
    show Q .non (upd (upd H p _) p (.ins CE dx (putF "place" (.int (n : Int)) [("octets", .ref o)])))
    rw [upd_upd, put_new (ks := ["octets"]) rfl (by decide +kernel)]
    exact k
theorem k_House_init (T : Txt K mg CE CH CC) : ICal P w K mg base 1 "House" CH (sp_House_init CE CH) := by
  refine T.i_House_init.cal T.mgH sc_House_init (fun vs H Q E h => ?_) (fun f cdv A outer s H vs Q E hr h => ?_)
  · obtain ⟨Z, p, dx, a, b, rfl, _⟩ := h
    rfl
  · obtain ⟨Z, p, dx, size, hops, rfl, hp, hz, k⟩ := h
    refine ⟨_, (pss_cons (ps_fld (pv 0) (pv 1) rfl)
      (pss_cons (ps_fld (pv 0) (pv 2) rfl)
      (pss_cons (ps_fld (pv 0) (pe_lst pa_nil) rfl)
      (pss_cons (ps_fld (pv 0) pe_dnewK rfl)
      (pss_cons (ps_fld (pv 0) pe_non rfl)
      (pss_cons (ps_fld (pv 0) pe_int rfl)
      (pss_cons (ps_fld (pv 0) pe_int rfl)
      (pss_one (ps_fld (pv 0) pe_int rfl))))))))), ?_⟩
    refine ⟨_, rfl, _, rfl, p, CH, dx, [], rfl, hp, T.clH, T.noH_size, (by show 0 < 1000; decide), ?_⟩
    refine ⟨_, rfl, _, rfl, p, CH, dx, _, rfl, upd_same, T.clH, T.noH_hops, (by show 1 < 1000; decide), ?_⟩
    rw [upd_upd]
    refine ⟨Nat.zero_le _, fun rl hrl => ?_⟩
    have nrp : p ≠ rl := ne_of_none upd_same hrl
    refine ⟨_, rfl, p, CH, dx, _, rfl, by rw [upd_ne nrp, upd_same], T.clH, T.noH_ready, (by show 2 < 1000; decide), fun fl hfl => ?_⟩
    have nfp : p ≠ fl := ne_of_none upd_same hfl
    have nfr : rl ≠ fl := ne_of_none (by rw [upd_ne (Ne.symm nrp), upd_same]) hfl
    refine ⟨_, rfl, p, CH, dx, _, rfl, by rw [upd_ne nfp, upd_same], T.clH, T.noH_flows, (by show 3 < 1000; decide), ?_⟩
    refine ⟨_, rfl, p, CH, dx, _, rfl, upd_same, T.clH, T.noH_whole, (by show 4 < 1000; decide), ?_⟩
    rw [upd_upd]
    refine ⟨_, rfl, p, CH, dx, _, rfl, upd_same, T.clH, T.noH_faulty, (by show 5 < 1000; decide), ?_⟩
    rw [upd_upd]
    refine ⟨_, rfl, p, CH, dx, _, rfl, upd_same, T.clH, T.noH_good, (by show 6 < 1000; decide), ?_⟩
    rw [upd_upd]
    refine ⟨_, rfl, p, CH, dx, _, rfl, upd_same, T.clH, T.noH_bad, (by show 7 < 1000; decide), ?_⟩
    rw [upd_upd]
    have ef : putF "bad" (.int 0) (putF "good" (.int 0) (putF "faulty" (.int 0) (putF "whole" .non (putF "flows" (.ref fl) (putF "ready" (.ref rl) (putF "hops" (.int (hops : Int)) (putF "size" (.int (size : Int)) []))))))) = hF size hops rl fl .non 0 0 0 := by
      rw [put_new (f := "size") (ks := []) rfl (by decide +kernel)]
      rw [put_new (f := "hops") (ks := ["size"]) rfl (by decide +kernel)]
      rw [put_new (f := "ready") (ks := ["size", "hops"]) rfl (by decide +kernel)]
      rw [put_new (f := "flows") (ks := ["size", "hops", "ready"]) rfl (by decide +kernel)]
      rw [put_new (f := "whole") (ks := ["size", "hops", "ready", "flows"]) rfl (by decide +kernel)]
      rw [put_new (f := "faulty") (ks := ["size", "hops", "ready", "flows", "whole"]) rfl (by decide +kernel)]
      rw [put_new (f := "good") (ks := ["size", "hops", "ready", "flows", "whole", "faulty"]) rfl (by decide +kernel)]
      rw [put_new (f := "bad") (ks := ["size", "hops", "ready", "flows", "whole", "faulty", "good"]) rfl (by decide +kernel)]
      rfl
    have hrl0 : H rl = none := by rw [upd_ne (Ne.symm nrp)] at hrl; exact hrl
    have hfl0 : H fl = none := by rw [upd_ne (Ne.symm nfp), upd_ne (Ne.symm nfr), upd_ne (Ne.symm nfp)] at hfl; exact hfl
    refine k _ rl fl ⟨⟨dx, .non, 0, 0, 0, ?_, rfl, rfl⟩, ⟨[], ?_, trivial⟩, ⟨[], ?_, ⟨List.nodup_nil, rfl, fun _ _ => rfl, fun _ _ e => (nomatch e)⟩⟩, fun z m => upd_there (upd_there (upd_there (upd_there (upd_there (hz z m)))))⟩ ?_ hrl0 hfl0
    · rw [upd_same]
      exact congrArg (fun z => some (HO.ins CH dx z)) ef
    · rw [upd_ne (Ne.symm nrp), upd_ne nfr, upd_ne (Ne.symm nrp), upd_same]
      rfl
    · rw [upd_ne (Ne.symm nfp), upd_same]
    · intro b o e hb
      have n1 : b ≠ fl := ne_of_none e hfl0
      have n2 : b ≠ rl := ne_of_none e hrl0
      rw [upd_ne hb, upd_ne n1, upd_ne hb, upd_ne n2, upd_ne hb]
      exact e
theorem m_add_frames (T : Txt K mg CE CH CC) : MCal P w K mg base 1 CH "add_frames" (sp_add_frames CE CH) := by
  refine T.m_add_frames.cal sc_add_frames (fun vs H Q E h => ?_) (fun f cdv A outer s H vs Q E hr h => ?_)
  · obtain ⟨Z, a, rl, fl, q, h, ps, fs, rfl, _⟩ := h
    rfl
  · obtain ⟨Z, a, rl, fl, q, h, ps, fs, rfl, A0, nq, hq, hf, hl, k⟩ := h
    obtain ⟨dx, wv, c0, c1, c2, e1, ec, ew⟩ := A0.ins
    obtain ⟨rs, e2, ef⟩ := A0.ready
    obtain ⟨kvs, e3, ek⟩ := A0.flows
    obtain ⟨n1, n2, n3⟩ := A0.ne
    refine ⟨_, (pss_one (ps_expr (pe_bm PySem.F.plainAttrs_list PySem.F.slot_list_extend PySem.F.type_list_extend mt_extend (pe_fld (pv 0) rfl) (pa_cons (pv 1) pa_nil)))), ?_⟩
    have hsz : (rs.map V.ref).length + (ps.map V.ref).length ≤ sizeLine := by
      rw [List.length_map, List.length_map, ef.len, hf.len]
      exact size_ok (by omega)
    refine ⟨_, rfl, a, CH, dx, _, _, rfl, e1, T.clH, T.noH_ready, lk_ix (ks := hK) (j := 2) rfl (by decide +kernel) rfl, .inl ⟨rfl, _, SqL.of e2⟩, _, rfl, rl, q, _, _, rfl, rfl, e2, hq, hsz, ?_⟩
    have kp : Keep [a, rl, fl] H (upd H rl (.lst (rs.map V.ref ++ ps.map V.ref))) := Keep.upd (by simp)
    refine k _ ⟨⟨dx, wv, c0, c1, c2, by rw [upd_ne n1]; exact e1, ec, ew.keep kp⟩, ⟨rs ++ ps, by rw [upd_same, List.map_append], (ef.keep kp).app (hf.keep kp)⟩, ⟨kvs, by rw [upd_ne (Ne.symm n3)]; exact e3, ek.keep kp⟩, fun z m => upd_there (A0.zs z m)⟩ kp
theorem m_take_frame (T : Txt K mg CE CH CC) : MCal P w K mg base 1 CH "take_frame" (sp_take_frame CE CH) := by
  refine T.m_take_frame.cal sc_take_frame (fun vs H Q E h => ?_) (fun f cdv A outer s H vs Q E hr h => ?_)
  · obtain ⟨Z, a, rl, fl, h, f, r, rfl, _⟩ := h
    rfl
  · obtain ⟨Z, a, rl, fl, h, f, r, rfl, A0, hfr, k⟩ := h
    obtain ⟨dx, wv, c0, c1, c2, e1, ec, ew⟩ := A0.ins
    obtain ⟨rs, e2, ef⟩ := A0.ready
    obtain ⟨kvs, e3, ek⟩ := A0.flows
    obtain ⟨n1, n2, n3⟩ := A0.ne
    rw [hfr] at ef
    match rs, e2, ef with
    | p :: rs, e2, ⟨ef1, ef2⟩ =>
    refine ⟨_, (pss_one (ps_ret (pe_bm PySem.F.plainAttrs_list PySem.F.slot_list_pop PySem.F.type_list_pop mt_popAt (pe_fld (pv 0) rfl) (pa_cons pe_int pa_nil)))), ?_⟩
    refine ⟨_, rfl, a, CH, dx, _, _, rfl, e1, T.clH, T.noH_ready, lk_ix (ks := hK) (j := 2) rfl (by decide +kernel) rfl, .inl ⟨rfl, _, SqL.of e2⟩, rl, _, 0, 0, .ref p, rfl, rfl, e2, by decide, by decide, ?_, rfl, ?_⟩
    · show seqIndex? 0 (rs.map V.ref).length.succ = some 0
      unfold seqIndex?
      simp
    have kp : Keep [a, rl, fl] H (upd H rl (.lst ((V.ref p :: rs.map V.ref).eraseIdx 0))) := Keep.upd (by simp)
    exact k _ p ⟨⟨dx, wv, c0, c1, c2, by rw [upd_ne n1]; exact e1, ec, ew.keep kp⟩, ⟨rs, by rw [upd_same]; rfl, ef2.keep kp⟩, ⟨kvs, by rw [upd_ne (Ne.symm n3)]; exact e3, ek.keep kp⟩, fun z m => upd_there (A0.zs z m)⟩ (ef1.keep kp) kp
theorem m_holds (T : Txt K mg CE CH CC) : MCal P w K mg base 1 CH "holds" (sp_holds CE CH) := by
  refine T.m_holds.cal sc_holds (fun vs H Q E h => ?_) (fun f cdv A outer s H vs Q E hr h => ?_)
  · obtain ⟨Z, a, rl, fl, h, w, rfl, _⟩ := h
    rfl
  · obtain ⟨Z, a, rl, fl, h, w, rfl, A0, k⟩ := h
    obtain ⟨dx, wv, c0, c1, c2, e1, ec, ew⟩ := A0.ins
    obtain ⟨kvs, e3, ek⟩ := A0.flows
    refine ⟨_, (pss_one (ps_ret (pe_cmp (pc_din (hu_of hr) (pv 1) (pe_fld (pv 0) rfl)) (by rfl)))), ?_⟩
    refine ⟨_, rfl, _, rfl, a, CH, dx, _, _, rfl, e1, T.clH, T.noH_flows, lk_ix (ks := hK) (j := 3) rfl (by decide +kernel) rfl, fl, _, rfl, DGet.k (k := kw w) e3, ?_⟩
    rw [ek.val w]
    exact k
theorem m_held_of (T : Txt K mg CE CH CC) : MCal P w K mg base 1 CH "held_of" (sp_held_of CE CH) := by
  refine T.m_held_of.cal sc_held_of (fun vs H Q E h => ?_) (fun f cdv A outer s H vs Q E hr h => ?_)
  · obtain ⟨Z, a, rl, fl, h, w, x, rfl, _⟩ := h
    rfl
  · obtain ⟨Z, a, rl, fl, h, w, x, rfl, A0, hx, k⟩ := h
    obtain ⟨dx, wv, c0, c1, c2, e1, ec, ew⟩ := A0.ins
    obtain ⟨kvs, e3, ek⟩ := A0.flows
    obtain ⟨p, hv, hp⟩ := ek.yes w x hx
    refine ⟨_, (pss_one (ps_ret (pe_dget (hu_of hr) (pe_fld (pv 0) rfl) (pv 1) (fun _ _ => rfl)))), ?_⟩
    refine ⟨_, rfl, a, CH, dx, _, _, rfl, e1, T.clH, T.noH_flows, lk_ix (ks := hK) (j := 3) rfl (by decide +kernel) rfl, _, rfl, fl, .ref p, rfl, ?_, k p hp⟩
    rw [← hv]
    exact DGet.k (k := kw w) e3
theorem m_let_go (T : Txt K mg CE CH CC) : MCal P w K mg base 1 CH "let_go" (sp_let_go CE CH) := by
  refine T.m_let_go.cal sc_let_go (fun vs H Q E h => ?_) (fun f cdv A outer s H vs Q E hr h => ?_)
  · obtain ⟨Z, a, rl, fl, h, w, rfl, _⟩ := h
    rfl
  · obtain ⟨Z, a, rl, fl, h, w, rfl, A0, nd, k⟩ := h
    obtain ⟨dx, wv, c0, c1, c2, e1, ec, ew⟩ := A0.ins
    obtain ⟨rs, e2, ef⟩ := A0.ready
    obtain ⟨kvs, e3, ek⟩ := A0.flows
    obtain ⟨n1, n2, n3⟩ := A0.ne
    refine ⟨_, (pss_one (ps_if (pt_cmp (pc_din (hu_of hr) (pv 1) (pe_fld (pv 0) rfl)) (by rfl)) (pss_one (ps_expr (pe_dpop1 (pe_fld (pv 0) rfl) (pv 1) ⟨rfl, rfl, rfl, rfl⟩))) pss_nil)), ?_⟩
    refine ⟨_, rfl, _, rfl, a, CH, dx, _, _, rfl, e1, T.clH, T.noH_flows, lk_ix (ks := hK) (j := 3) rfl (by decide +kernel) rfl, fl, _, rfl, DGet.k (k := kw w) e3, _, rfl, ?_⟩
    rw [ek.val w]
    cases hx : look h.held w with
    | none =>
      refine iteF ?_
      refine k H ?_ Keep.refl
      rw [without_none hx]
      exact A0
    | some x =>
      obtain ⟨p, hv, hp⟩ := ek.yes w x hx
      refine iteT ?_
      refine ⟨_, rfl, a, CH, dx, _, _, rfl, e1, T.clH, T.noH_flows, lk_ix (ks := hK) (j := 3) rfl (by decide +kernel) rfl, fl, rfl, .inl ⟨kvs, Rd.of e3⟩, _, rfl, kvs, kw w, .ref p, e3, rfl, hv, ?_⟩
      have kp : Keep [a, rl, fl] H (upd H fl (.dK (dropK kvs (kw w)))) := Keep.upd (by simp)
      exact k _ ⟨⟨dx, wv, c0, c1, c2, by rw [upd_ne n2]; exact e1, ec, ew.keep kp⟩, ⟨rs, by rw [upd_ne n3]; exact e2, ef.keep kp⟩, ⟨_, upd_same, (ek.drop nd hx).keep kp⟩, fun z m => upd_there (A0.zs z m)⟩ kp
theorem m_hold (T : Txt K mg CE CH CC) : MCal P w K mg base 3 CH "hold" (sp_hold CE CH) := by
  refine T.m_hold.cal sc_hold (fun vs H Q E h => ?_) (fun f cdv A outer s H vs Q E hr h => ?_)
  · obtain ⟨Z, a, rl, fl, p, h, x, rfl, _⟩ := h
    rfl
  · obtain ⟨Z, a, rl, fl, p, h, x, rfl, A0, nd, hl, dp, k⟩ := h
    refine ⟨_, (pss_one (ps_dput (hu_of hr) (pe_fld (pv 0) rfl) (pv 1) (pe_new (k_Held_init T) (hr.mono (by decide)) (pa_cons (pv 2) (pa_cons (pv 3) pa_nil))) rfl)), ?_⟩
    refine ⟨_, rfl, _, rfl, fun y dy ny ndy ne => ?_⟩
    refine ⟨y, dy, p, x.next, rfl, upd_same, rfl, ?_⟩
    rw [upd_upd]
    have s1 : Same H (upd (upd H dy (.own y)) y (.ins CE dy (eF p (x.next : Int)))) := fun b o e => by
      rw [upd_ne (ne_of_none e ny), upd_ne (ne_of_none e ndy)]
      exact e
    have A1 := A0.same s1
    have hy : HeldAt CE (a :: rl :: fl :: Z) (upd (upd H dy (.own y)) y (.ins CE dy (eF p (x.next : Int)))) y x := ⟨A0.newZ ny, dy, p, upd_same, dp.keep (Keep.same s1)⟩
    obtain ⟨dx, wv, c0, c1, c2, e1, ec, ew⟩ := A1.ins
    obtain ⟨rs, e2, ef⟩ := A1.ready
    obtain ⟨kvs, e3, ek⟩ := A1.flows
    obtain ⟨n1, n2, n3⟩ := A1.ne
    refine ⟨_, rfl, a, CH, dx, _, _, rfl, e1, T.clH, T.noH_flows, lk_ix (ks := hK) (j := 3) rfl (by decide +kernel) rfl, _, rfl, fl, _, rfl, DPut.k (k := kw x.flow) e3 (by rw [ek.len]; exact size_lt (by omega)), ?_⟩
    have kp : Keep [a, rl, fl] (upd (upd H dy (.own y)) y (.ins CE dy (eF p (x.next : Int)))) (upd (upd (upd H dy (.own y)) y (.ins CE dy (eF p (x.next : Int)))) fl (.dK (putK kvs (kw x.flow) (.ref y)))) := Keep.upd (by simp)
    exact k _ ⟨⟨dx, wv, c0, c1, c2, by rw [upd_ne n2]; exact e1, ec, ew.keep kp⟩, ⟨rs, by rw [upd_ne n3]; exact e2, ef.keep kp⟩, ⟨_, upd_same, (ek.put nd hy).keep kp⟩, fun z m => upd_there (A1.zs z m)⟩ ((Keep.same s1).trans kp)
theorem m_many_flows (T : Txt K mg CE CH CC) : MCal P w K mg base 1 CH "many_flows" (sp_many_flows CE CH) := by
  refine T.m_many_flows.cal sc_many_flows (fun vs H Q E h => ?_) (fun f cdv A outer s H vs Q E hr h => ?_)
  · obtain ⟨Z, a, rl, fl, h, rfl, _⟩ := h
    rfl
  · obtain ⟨Z, a, rl, fl, h, rfl, A0, k⟩ := h
    obtain ⟨dx, wv, c0, c1, c2, e1, ec, ew⟩ := A0.ins
    obtain ⟨kvs, e3, ek⟩ := A0.flows
    refine ⟨_, (pss_one (ps_ret (pe_callB call_lenD (by rfl) T.n_len PySem.boot_len (pa_cons (pe_fld (pv 0) rfl) pa_nil)))), ?_⟩
    refine ⟨_, rfl, a, CH, dx, _, _, rfl, e1, T.clH, T.noH_flows, lk_ix (ks := hK) (j := 3) rfl (by decide +kernel) rfl, fl, kvs, rfl, e3, ?_⟩
    rw [ek.len]
    exact k
theorem m_keep_whole (T : Txt K mg CE CH CC) : MCal P w K mg base 1 CH "keep_whole" (sp_keep_whole CE CH) := by
  refine T.m_keep_whole.cal sc_keep_whole (fun vs H Q E h => ?_) (fun f cdv A outer s H vs Q E hr h => ?_)
  · obtain ⟨Z, a, rl, fl, p, h, b, rfl, _⟩ := h
    rfl
  · obtain ⟨Z, a, rl, fl, p, h, b, rfl, A0, dp, k⟩ := h
    obtain ⟨dx, wv, c0, c1, c2, e1, ec, ew⟩ := A0.ins
    obtain ⟨rs, e2, ef⟩ := A0.ready
    obtain ⟨kvs, e3, ek⟩ := A0.flows
    obtain ⟨n1, n2, n3⟩ := A0.ne
    refine ⟨_, (pss_one (ps_fld (pv 0) (pv 1) rfl)), ?_⟩
    refine ⟨_, rfl, _, rfl, a, CH, dx, _, rfl, e1, T.clH, T.noH_whole, (by show 8 < 1000; decide), ?_⟩
    rw [put_ix (ks := hK) (j := 4) rfl (by decide +kernel)]
    have kp : Keep [a, rl, fl] H (upd H a (.ins CH dx ((hF h.size h.hops rl fl wv c0 c1 c2).set 4 ("whole", .ref p)))) := Keep.upd (by simp)
    exact k _ ⟨⟨dx, .ref p, c0, c1, c2, by rw [upd_same]; rfl, ec, ⟨p, rfl, dp.keep kp⟩⟩, ⟨rs, by rw [upd_ne (Ne.symm n1)]; exact e2, ef.keep kp⟩, ⟨kvs, by rw [upd_ne (Ne.symm n2)]; exact e3, ek.keep kp⟩, fun z m => upd_there (A0.zs z m)⟩ kp
theorem m_count_faulty (T : Txt K mg CE CH CC) : MCal P w K mg base 1 CH "count_faulty" (sp_count_faulty CE CH) := by
  refine T.m_count_faulty.cal sc_count_faulty (fun vs H Q E h => ?_) (fun f cdv A outer s H vs Q E hr h => ?_)
  · obtain ⟨Z, a, rl, fl, h, rfl, _⟩ := h
    rfl
  · obtain ⟨Z, a, rl, fl, h, rfl, A0, k⟩ := h
    obtain ⟨dx, wv, c0, c1, c2, e1, ec, ew⟩ := A0.ins
    obtain ⟨rs, e2, ef⟩ := A0.ready
    obtain ⟨kvs, e3, ek⟩ := A0.flows
    obtain ⟨n1, n2, n3⟩ := A0.ne
    refine ⟨_, (pss_one (ps_fld (pv 0) (pe_op op_mod (pe_op op_add (pe_fld (pv 0) rfl) pe_int) (pe_gi T.c_PLACES)) rfl)), ?_⟩
    refine ⟨_, rfl, a, CH, dx, _, _, rfl, e1, T.clH, T.noH_faulty, lk_ix (ks := hK) (j := 5) rfl (by decide +kernel) rfl, _, _, rfl, rfl, _, _, rfl, rfl, (by show (0 : Int) < 4294967296; decide), _, rfl, a, CH, dx, _, rfl, e1, T.clH, T.noH_faulty, (by show 8 < 1000; decide), ?_⟩
    rw [put_ix (ks := hK) (j := 5) rfl (by decide +kernel)]
    have kp : Keep [a, rl, fl] H (upd H a (.ins CH dx ((hF h.size h.hops rl fl wv c0 c1 c2).set 5 ("faulty", .int (((c0 : Int) + 1) % 4294967296))))) := Keep.upd (by simp)
    refine k _ ⟨⟨dx, wv, (c0 + 1) % 2 ^ 32, c1, c2, ?_, by rw [ec]; rfl, ew.keep kp⟩, ⟨rs, by rw [upd_ne (Ne.symm n1)]; exact e2, ef.keep kp⟩, ⟨kvs, by rw [upd_ne (Ne.symm n2)]; exact e3, ek.keep kp⟩, fun z m => upd_there (A0.zs z m)⟩ kp
    rw [upd_same]
    show some (HO.ins CH dx ((hF h.size h.hops rl fl wv c0 c1 c2).set 5 ("faulty", .int (((c0 : Int) + 1) % 4294967296)))) = _
    rw [show ((c0 : Int) + 1) % 4294967296 = (((c0 + 1) % 2 ^ 32 : Nat) : Int) by omega]
    rfl
theorem m_count_answer (T : Txt K mg CE CH CC) : MCal P w K mg base 1 CH "count_answer" (sp_count_answer CE CH) := by
  refine T.m_count_answer.cal sc_count_answer (fun vs H Q E h => ?_) (fun f cdv A outer s H vs Q E hr h => ?_)
  · obtain ⟨Z, a, rl, fl, h, n, rfl, _⟩ := h
    rfl
  · obtain ⟨Z, a, rl, fl, h, n, rfl, A0, k⟩ := h
    obtain ⟨dx, wv, c0, c1, c2, e1, ec, ew⟩ := A0.ins
    obtain ⟨rs, e2, ef⟩ := A0.ready
    obtain ⟨kvs, e3, ek⟩ := A0.flows
    obtain ⟨n1, n2, n3⟩ := A0.ne
    refine ⟨_, (pss_one (ps_if (pt_cmpR op_le (pv 1) pe_int (nomark _)) (pss_one (ps_fld (pv 0) (pe_op op_mod (pe_op op_add (pe_fld (pv 0) rfl) pe_int) (pe_gi T.c_PLACES)) rfl)) (pss_one (ps_fld (pv 0) (pe_op op_mod (pe_op op_add (pe_fld (pv 0) rfl) pe_int) (pe_gi T.c_PLACES)) rfl)))), ?_⟩
    refine ⟨_, rfl, _, _, rfl, rfl, _, rfl, ?_⟩
    by_cases c : n < 3
    · refine iteP (decide_eq_true (by omega)) ?_
      refine ⟨_, rfl, a, CH, dx, _, _, rfl, e1, T.clH, T.noH_good, lk_ix (ks := hK) (j := 6) rfl (by decide +kernel) rfl, _, _, rfl, rfl, _, _, rfl, rfl, (by show (0 : Int) < 4294967296; decide), _, rfl, a, CH, dx, _, rfl, e1, T.clH, T.noH_good, (by show 8 < 1000; decide), ?_⟩
      rw [put_ix (ks := hK) (j := 6) rfl (by decide +kernel)]
      have kp : Keep [a, rl, fl] H (upd H a (.ins CH dx ((hF h.size h.hops rl fl wv c0 c1 c2).set 6 ("good", .int (((c1 : Int) + 1) % 4294967296))))) := Keep.upd (by simp)
      refine k _ ⟨⟨dx, wv, c0, (c1 + 1) % 2 ^ 32, c2, ?_, by rw [ec, if_pos c]; rfl, ew.keep kp⟩, ⟨rs, by rw [upd_ne (Ne.symm n1)]; exact e2, ef.keep kp⟩, ⟨kvs, by rw [upd_ne (Ne.symm n2)]; exact e3, ek.keep kp⟩, fun z m => upd_there (A0.zs z m)⟩ kp
      rw [upd_same]
      show some (HO.ins CH dx ((hF h.size h.hops rl fl wv c0 c1 c2).set 6 ("good", .int (((c1 : Int) + 1) % 4294967296)))) = _
      rw [show ((c1 : Int) + 1) % 4294967296 = (((c1 + 1) % 2 ^ 32 : Nat) : Int) by omega]
      rfl
    · refine iteM (decide_eq_false (by omega)) ?_
      refine ⟨_, rfl, a, CH, dx, _, _, rfl, e1, T.clH, T.noH_bad, lk_ix (ks := hK) (j := 7) rfl (by decide +kernel) rfl, _, _, rfl, rfl, _, _, rfl, rfl, (by show (0 : Int) < 4294967296; decide), _, rfl, a, CH, dx, _, rfl, e1, T.clH, T.noH_bad, (by show 8 < 1000; decide), ?_⟩
      rw [put_ix (ks := hK) (j := 7) rfl (by decide +kernel)]
      have kp : Keep [a, rl, fl] H (upd H a (.ins CH dx ((hF h.size h.hops rl fl wv c0 c1 c2).set 7 ("bad", .int (((c2 : Int) + 1) % 4294967296))))) := Keep.upd (by simp)
      refine k _ ⟨⟨dx, wv, c0, c1, (c2 + 1) % 2 ^ 32, ?_, by rw [ec, if_neg c]; rfl, ew.keep kp⟩, ⟨rs, by rw [upd_ne (Ne.symm n1)]; exact e2, ef.keep kp⟩, ⟨kvs, by rw [upd_ne (Ne.symm n2)]; exact e3, ek.keep kp⟩, fun z m => upd_there (A0.zs z m)⟩ kp
      rw [upd_same]
      show some (HO.ins CH dx ((hF h.size h.hops rl fl wv c0 c1 c2).set 7 ("bad", .int (((c2 : Int) + 1) % 4294967296)))) = _
      rw [show ((c2 : Int) + 1) % 4294967296 = (((c2 + 1) % 2 ^ 32 : Nat) : Int) by omega]
      rfl
theorem c_place_behind (T : Txt K mg CE CH CC) : Cal P w K mg base 1 "place_behind" sp_place_behind := by
  refine T.d_place_behind.cal sc_place_behind (fun vs H Q E h => ?_) (fun f cdv A outer s H vs Q E hr h => ?_)
  · obtain ⟨p, m, rfl, _⟩ := h
    rfl
  · obtain ⟨p, m, rfl, k⟩ := h
    refine ⟨_, (pss_one (ps_ret (pe_op op_mod (pe_op op_add (pv 0) (pv 1)) (pe_gi T.c_PLACES)))), ?_⟩
    refine ⟨_, rfl, _, rfl, _, _, rfl, rfl, _, _, rfl, rfl, (by show (0 : Int) < 4294967296; decide), ?_⟩
    exact q_int k (show ((p : Int) + (m : Int)) % 4294967296 = (((p + m) % 2 ^ 32 : Nat) : Int) by omega)
theorem c_frames_of (T : Txt K mg CE CH CC) : Cal P w K mg base 6 "frames_of" (sp_frames_of CE CH) := by
  refine T.d_frames_of.cal sc_frames_of (fun vs H Q E h => ?_) (fun f cdv A outer s H vs Q E hr h => ?_)
  · obtain ⟨Z, a, rl, fl, q, h, w, n, l, rfl, _⟩ := h
    rfl
  · obtain ⟨Z, a, rl, fl, q, h, w, n, l, rfl, A0, hq, hl1, hl2, ho, hs1, hs2, hh, k⟩ := h
    rw [cut_eq (by omega) hl1] at k
    refine ⟨_, (pss_cons (ps_set (i := 4) sc_frames_of.nd rfl (Or.inl rfl) (pe_lst pa_nil))
      (pss_cons (ps_for PassesOwn.never rfl (pi_range3 rfl T.n_range (pa_cons pe_int (pa_cons (pe_callB call_len_seq (by rfl) T.n_len PySem.boot_len (pa_cons (pv 3) pa_nil)) (pa_cons (pe_fld (pv 0) rfl) pa_nil)))) (pg_name (i := 5) sc_frames_of.nd rfl (Or.inl rfl)) (pss_cons (ps_set (i := 6) sc_frames_of.nd rfl (Or.inl rfl) (pe_slice sl_list (pv 3) (po_some (pv 5)) (po_some (pe_op op_add (pv 5) (pe_fld (pv 0) rfl)))))
      (pss_cons (ps_set (i := 7) sc_frames_of.nd rfl (Or.inl rfl) (pe_cal (c_marks_of T) (hr.mono (by decide)) (pa_cons (pe_cmpR op_eq (pv 5) pe_int (nomark _)) (pa_cons (pe_cmpR op_ge (pe_op op_add (pv 5) (pe_fld (pv 0) rfl)) (pe_callB call_len_seq (by rfl) T.n_len PySem.boot_len (pa_cons (pv 3) pa_nil)) (nomark _)) pa_nil))))
      (pss_one (ps_expr (pe_bm PySem.F.plainAttrs_list PySem.F.slot_list_append PySem.F.type_list_append mt_append (pv 4) (pa_cons (pe_cal (c_frame_of T) (hr.mono (by decide)) (pa_cons (pv 1) (pa_cons (pe_cal (c_place_behind T) (hr.mono (by decide)) (pa_cons (pv 2) (pa_cons (pv 5) pa_nil))) (pa_cons (pv 7) (pa_cons (pe_fld (pv 0) rfl) (pa_cons (pv 6) pa_nil)))))) pa_nil)))))))
      (pss_one (ps_ret (pv 4))))), ?_⟩
    refine ⟨Nat.zero_le _, fun p hp => ?_⟩
    have s0 : Same H (upd H p (.lst [])) := Same.new hp
    obtain ⟨dx, wv, c0, c1, c2, e1, ec, ew⟩ := A0.ins
    have fsize : ∀ H', Same H H' → H' a = some (.ins CH dx (hF h.size h.hops rl fl wv c0 c1 c2)) := fun H' s => s _ _ e1
    have lsize : (hF h.size h.hops rl fl wv c0 c1 c2).lookup ("size" : Str) = some (.int (h.size : Int)) := lk_ix (ks := hK) (j := 0) rfl (by decide +kernel) rfl
    have lhops : (hF h.size h.hops rl fl wv c0 c1 c2).lookup ("hops" : Str) = some (.int (h.hops : Int)) := lk_ix (ks := hK) (j := 1) rfl (by decide +kernel) rfl
    have npl : parts h.size l.length ≤ 4096 := by
      have h1 := parts_lt (m := h.size) (n := l.length) (i := 4096) (by omega)
      have h2 : ¬ 4096 * h.size < l.length := by
        have : 4096 * 1 ≤ 4096 * h.size := Nat.mul_le_mul_left _ hs1
        omega
      have h3 : ¬ 4096 < parts h.size l.length := fun z => h2 (h1.mp z)
      omega
    refine ⟨_, rfl, q, _, rfl, .inl (SqL.of (s0 _ _ hq)), _, rfl, a, CH, dx, _, _, rfl, fsize _ s0, T.clH, T.noH_size, lsize, 0, _, _, parts h.size l.length, rfl, by rw [vb_len]; exact rg_up (by omega) (by omega) (by omega), ?_⟩
    refine for_rangeC (lo := 0) (c := (h.size : Int)) (n := parts h.size l.length) (fun i σ H' => ∃ (x5 x6 x7 : Option V) (ps : List Addr), σ = [some (.ref a), some (.int (w : Int)), some (.int (n : Int)), some (.ref q), some (.ref p), x5, x6, x7] ∧
      Same H H' ∧ H' p = some (.lst (ps.map V.ref)) ∧ (∀ x ∈ ps, H x = none) ∧ (∀ x ∈ ps, x ≠ p) ∧ Frs [] H' ps ((List.range i).map (cutAt h.size w n h.hops l))) ⟨none, none, none, [], rfl, s0, upd_same, fun _ m => (nomatch m), fun _ m => (nomatch m), trivial⟩ ?_ ?_
    · rintro i σ H' hi ⟨x5, x6, x7, ps, rfl, s1, hp1, hn, hnp, hF1⟩
      have him : i * h.size < l.length := (parts_lt (by omega)).mp hi
      have est : (0 + (i : Int) * (h.size : Int)) = ((i * h.size : Nat) : Int) := by
        rw [Int.zero_add]
        exact (Int.natCast_mul i h.size).symm
      -- the part of the message
      refine ⟨_, rfl, _, rfl, _, rfl, _, rfl, _, rfl, a, CH, dx, _, _, rfl, fsize _ s1, T.clH, T.noH_size, lsize, _, _, rfl, rfl, _, rfl, q, _, rfl, SqL.of (s1 _ _ hq), fun b hb => ?_⟩
      have eb : cutV (vb l) (some (0 + (i : Int) * (h.size : Int))) (some (0 + (i : Int) * (h.size : Int) + (h.size : Int))) = vb (part h.size l i) := by
        rw [est, show ((i * h.size : Nat) : Int) + (h.size : Int) = ((i * h.size + h.size : Nat) : Int) by omega, cut_mid, vb_drop, vb_take, show i * h.size + h.size - i * h.size = h.size by omega]
        rfl
      have s2 := Same.new (o := HO.lst (cutV (vb l) (some (0 + (i : Int) * (h.size : Int))) (some (0 + (i : Int) * (h.size : Int) + (h.size : Int))))) hb
      have s12 := s1.trans s2
      -- its marks
      refine ⟨_, rfl, rfl, _, rfl, _, rfl, a, CH, dx, _, _, rfl, fsize _ s12, T.clH, T.noH_size, lsize, _, _, rfl, rfl, _, rfl, q, _, rfl, .inl (SqL.of (s12 _ _ hq)), _, _, rfl, rfl, _, _, rfl, ?_⟩
      -- its frame, put behind the others
      refine ⟨_, rfl, .inl ⟨rfl, _, SqL.of (s2 _ _ hp1)⟩, _, rfl, _, rfl, _, rfl, n, i * h.size, ?_, ?_⟩
      · show [V.int (n : Int), V.int (0 + (i : Int) * (h.size : Int))] = _
        rw [est]
      refine ⟨_, rfl, _, rfl, a, CH, dx, _, _, rfl, fsize _ s12, T.clH, T.noH_hops, lhops, _, rfl, ⟨w, (n + h.size * i) % 2 ^ 32, (part h.size l i).length, (if i = 0 then 1 else 0) + (if i + 1 = parts h.size l.length then 2 else 0), h.hops⟩, b, part h.size l i, ?_, by rw [upd_same, eb], ?_, ?_, rfl, ?_, by show h.hops < 256; omega, ?_⟩
      · have d1 : decide (V.int (0 + (i : Int) * (h.size : Int)) = V.int 0) = decide (i = 0) := by
          refine decide_eq_decide.mpr ⟨fun z => ?_, fun z => ?_⟩
          · have z2 := V.int.inj z
            rw [est] at z2
            have z3 : i * h.size = 0 := by omega
            rcases Nat.mul_eq_zero.mp z3 with z4 | z4
            · exact z4
            · omega
          · rw [z]
            simp
        have d2 : decide ((((vb l).length : Nat) : Int) ≤ 0 + (i : Int) * (h.size : Int) + (h.size : Int)) = decide (i + 1 = parts h.size l.length) := by
          refine decide_eq_decide.mpr ?_
          rw [parts_last (by omega) him, est, vb_len]
          omega
        show [V.int (w : Int), V.int (((n + i * h.size) % 2 ^ 32 : Nat) : Int), V.int (((if decide (V.int (0 + (i : Int) * (h.size : Int)) = V.int 0) = true then 1 else 0) + (if decide ((((vb l).length : Nat) : Int) ≤ 0 + (i : Int) * (h.size : Int) + (h.size : Int)) = true then 2 else 0) : Nat) : Int), V.int (h.hops : Int), V.ref b] = _
        rw [d1, d2, Nat.mul_comm i h.size]
        simp only [decide_eq_true_eq]
      · unfold part
        rw [List.length_take]
        omega
      · exact (ho.drop _).take _
      · show (if i = 0 then 1 else 0) + (if i + 1 = parts h.size l.length then 2 else 0) < 256
        split <;> split <;> omega
      intro H3 r s3 nr er
      have s13 := s12.trans s3
      have hp3 := s3 _ _ (s2 _ _ hp1)
      have nrp : r ≠ p := fun z => by
        rw [z, s2 _ _ hp1] at nr
        cases nr
      have hr0 : H r = none := s12.free nr
      refine ⟨p, _, _, rfl, rfl, hp3, by rw [List.length_map, hF1.len, List.length_map, List.length_range]; exact size_lt (by omega), ?_⟩
      have s4 : Same H (upd H3 p (.lst (ps.map V.ref ++ [V.ref r]))) := fun c o e => by
        rw [upd_ne (ne_of_none e hp)]
        exact s13 c o e
      refine ⟨_, _, _, ps ++ [r], rfl, s4, ?_, ?_, ?_, ?_⟩
      · rw [upd_same, List.map_append]
        rfl
      · intro x m
        rcases List.mem_append.mp m with m | m
        · exact hn x m
        · rw [List.mem_singleton.mp m]
          exact hr0
      · intro x m
        rcases List.mem_append.mp m with m | m
        · exact hnp x m
        · rw [List.mem_singleton.mp m]
          exact nrp
      · rw [List.range_succ, List.map_append]
        have kp : Keep [p] H' (upd H3 p (.lst (ps.map V.ref ++ [V.ref r]))) := fun c o e nc => by
          rw [upd_ne (fun z => nc (by simp [z]))]
          exact s3 _ _ (s2 _ _ e)
        have f1 : Frs [p] H' ps ((List.range i).map (cutAt h.size w n h.hops l)) := hF1.more fun x m z => hnp x m (List.mem_singleton.mp z)
        refine ((f1.keepS kp).more (S' := []) fun _ _ z => (nomatch z)).app ⟨⟨fun z => (nomatch z), ?_⟩, trivial⟩
        rw [upd_ne nrp]
        exact er
    · rintro σ H' ⟨x5, x6, x7, ps, rfl, s1, hp1, hn, _, hF1⟩
      exact ⟨_, rfl, k H' p ps s1 hp hp1 hn hF1⟩
end
end FC

/-! Framecard: joining.py walked. -/
namespace FC
open PySem PySem.Spec PyProof.Rows L2
/-! ### what the joining leaves of the rest of a house -/
theorem join_rest (h : Sj51.House) (f : List Nat) : (h.join f).1.counts = h.counts := by
  unfold Sj51.House.join
  dsimp only
  split
  · split
    · rfl
    · split
      · rfl
      · split <;> rfl
  · split
    · rfl
    · split
      · split
        · rfl
        · split <;> rfl
      · rfl
/-- the house behind a joined frame, its counts as they were -/
def joinedH (h : Sj51.House) (f : List Nat) : Sj51.House := { (h.join f).1 with last := if (h.join f).2.1 = 2 then some (h.join f).2.2 else (h.join f).1.last }
/-- the house behind join, and what is answered -/
def jn (h : Sj51.House) (f : List Nat) : Sj51.House × Nat :=
  if Sj51.fault f ≠ 0 then ({ h with counts := Sj51.counted h.counts 0 }, 10 + Sj51.fault f)
  else ({ (h.join f).1 with counts := Sj51.counted h.counts (if (h.join f).2.1 < 3 then 1 else 2), last := if (h.join f).2.1 = 2 then some (h.join f).2.2 else (h.join f).1.last }, (h.join f).2.1)
theorem Dat.new {CE CH : Addr} {Z : List Addr} {H H' : Hp} {a rl fl p : Addr} {h : Sj51.House} {b : List Nat} (A : HouseAt CE CH Z H a rl fl h) (hp : H p = none) (e : H' p = some (.lst (vb b))) : Dat (a :: rl :: fl :: Z) H' p b := ⟨A.newZ hp, e⟩
theorem dec_nat (n m : Nat) : decide (V.int (n : Int) = V.int (m : Int)) = decide (n = m) := by
  refine decide_eq_decide.mpr ⟨fun z => ?_, fun z => ?_⟩
  · have := V.int.inj z
    omega
  · rw [z]
section
variable (CE CH : Addr)
def sp_ended : Sp := fun vs H Q _ => ∃ (Z : List Addr) (a rl fl p : Addr) (h : Sj51.House) (w : Nat) (b : List Nat), vs = [.ref a, .int (w : Int), .ref p] ∧ HouseAt CE CH Z H a rl fl h ∧ (h.held.map (·.flow)).Nodup ∧ Dat (a :: rl :: fl :: Z) H p b ∧
  ∀ H', HouseAt CE CH Z H' a rl fl { h with held := without h.held w, last := some b } → Keep [a, rl, fl] H H' → Q (.int 2) H'
def sp_begun : Sp := fun vs H Q _ => ∃ (Z : List Addr) (a rl fl q : Addr) (h : Sj51.House) (f : List Nat), vs = [.ref a, .int ((Sj51.headIn f).flow : Int), .ref q] ∧ HouseAt CE CH Z H a rl fl h ∧ Good h ∧ H q = some (.lst (vb f)) ∧ Sj51.fault f = 0 ∧ f.length ≤ 1040 ∧ (Sj51.headIn f).marks % 2 = 1 ∧
  ∀ H', HouseAt CE CH Z H' a rl fl (joinedH h f) → Keep [a, rl, fl] H H' → Q (.int ((h.join f).2.1 : Int)) H'
def sp_gone_on : Sp := fun vs H Q _ => ∃ (Z : List Addr) (a rl fl q : Addr) (h : Sj51.House) (f : List Nat), vs = [.ref a, .int ((Sj51.headIn f).flow : Int), .ref q] ∧ HouseAt CE CH Z H a rl fl h ∧ Good h ∧ H q = some (.lst (vb f)) ∧ Sj51.fault f = 0 ∧ f.length ≤ 1040 ∧ (Sj51.headIn f).marks % 2 ≠ 1 ∧
  ∀ H', HouseAt CE CH Z H' a rl fl (joinedH h f) → Keep [a, rl, fl] H H' → Q (.int ((h.join f).2.1 : Int)) H'
def sp_joined : Sp := fun vs H Q _ => ∃ (Z : List Addr) (a rl fl q : Addr) (h : Sj51.House) (f : List Nat), vs = [.ref a, .ref q] ∧ HouseAt CE CH Z H a rl fl h ∧ Good h ∧ H q = some (.lst (vb f)) ∧ Oct f ∧ f.length ≤ 1040 ∧
  ∀ H', HouseAt CE CH Z H' a rl fl (jn h f).1 → Keep [a, rl, fl] H H' → Q (.int ((jn h f).2 : Int)) H'
end
section
variable {P : Program} {w : World} {K : PySem.W.Frag} {mg : Str → Option Value} {base : Heap} {CE CH CC : Addr}
/-- a method's name is none of a house's attributes -/
theorem hF_no {size hops : Nat} {rl fl : Addr} {wv : V} {c0 c1 c2 : Nat} {m : Str} (h : hK.contains m = false) : (hF size hops rl fl wv c0 c1 c2).lookup m = none := lk_no (ks := hK) rfl h
theorem c_ended (T : Txt K mg CE CH CC) : Cal P w K mg base 2 "ended" (sp_ended CE CH) := by
  refine T.d_ended.cal sc_ended (fun vs H Q E h => ?_) (fun f cdv A outer s H vs Q E hr h => ?_)
  · obtain ⟨Z, a, rl, fl, p, h, w, b, rfl, _⟩ := h
    rfl
  · obtain ⟨Z, a, rl, fl, p, h, w, b, rfl, A0, nd, dp, k⟩ := h
    obtain ⟨dx, wv, c0, c1, c2, e1, _⟩ := A0.ins
    refine ⟨_, (pss_cons (ps_expr (pe_mcal (pv 0) T.clH (m_let_go T) (hr.mono (by decide)) (pa_cons (pv 1) pa_nil)))
      (pss_cons (ps_expr (pe_mcal (pv 0) T.clH (m_keep_whole T) (hr.mono (by decide)) (pa_cons (pv 2) pa_nil)))
      (pss_one (ps_ret (pe_gi T.c_WHOLE))))), ?_⟩
    refine ⟨_, rfl, a, dx, _, rfl, e1, hF_no (by decide +kernel), _, rfl, Z, a, rl, fl, h, w, rfl, A0, nd, fun H1 A1 k1 => ?_⟩
    obtain ⟨dx', wv', c0', c1', c2', e1', _⟩ := A1.ins
    refine ⟨_, rfl, a, dx', _, rfl, e1', hF_no (by decide +kernel), _, rfl, Z, a, rl, fl, p, _, b, rfl, A1, dp.keep k1, fun H2 A2 k2 => ?_⟩
    exact k H2 A2 (k1.trans k2)
/-- the test for no room, as one truth value -/
theorem t_room {Z : List Addr} {σ : L2.St} {H : Hp} {a rl fl : Addr} {h : Sj51.House} {w : Nat} {al : Bool} (h0 : σ[0]? = some (some (.ref a))) (h1 : σ[1]? = some (some (.int (w : Int)))) (h3 : σ[3]? = some (some (.bl al))) (A0 : HouseAt CE CH Z H a rl fl h) {Q : Bool → Hp → Prop}
    (q : Q (!(look h.held w).isSome && (decide (h.held.length = 8) && !al)) H) :
    tAnd (tNot (tB (tMet CH "holds" (sp_holds CE CH) (tVar 0) (tCons (tVar 1) tNil)))) (tAnd (tTest (tOp rEq (tMet CH "many_flows" (sp_many_flows CE CH) (tVar 0) tNil) (tC (.int 8)))) (tNot (tB (tVar 3)))) σ H Q := by
  obtain ⟨dx, wv, c0, c1, c2, e1, _⟩ := A0.ins
  refine ⟨_, h0, a, dx, _, rfl, e1, hF_no (by decide +kernel), _, h1, Z, a, rl, fl, h, w, rfl, A0, _, rfl, ?_⟩
  cases c : (look h.held w).isSome
  · rw [c] at q
    refine iteT ⟨_, h0, a, dx, _, rfl, e1, hF_no (by decide +kernel), Z, a, rl, fl, h, rfl, A0, rfl, _, rfl, ?_⟩
    have ed : decide (V.int (h.held.length : Int) = V.int 8) = decide (h.held.length = 8) := dec_nat _ 8
    rw [ed]
    cases c2 : decide (h.held.length = 8)
    · rw [c2] at q
      exact iteF q
    · rw [c2] at q
      exact iteT ⟨_, h3, _, rfl, q⟩
  · rw [c] at q
    exact iteF q
theorem c_begun (T : Txt K mg CE CH CC) : Cal P w K mg base 4 "begun" (sp_begun CE CH) := by
  refine T.d_begun.cal sc_begun (fun vs H Q E h => ?_) (fun f cdv A outer s H vs Q E hr h => ?_)
  · obtain ⟨Z, a, rl, fl, q, h, f, rfl, _⟩ := h
    rfl
  · obtain ⟨Z, a, rl, fl, q, h, f, rfl, A0, g, hq, hf, hfl, hm, k⟩ := h
    obtain ⟨dx, wv, c0, c1, c2, e1, _⟩ := A0.ins
    obtain ⟨h16, hlen, hm3⟩ := fault_zero hf
    have hbl : (Sj51.bodyIn f).length ≤ 4096 := by
      rw [bodyIn_len]
      omega
    have em : decide (V.int ((Sj51.headIn f).marks : Int) = V.int 3) = decide ((Sj51.headIn f).marks = 3) := dec_nat _ 3
    refine ⟨_, (pss_cons (ps_set (i := 3) sc_begun.nd rfl (Or.inl rfl) (pe_cmpR op_eq (pe_cal (c_marks_in T) (hr.mono (by decide)) (pa_cons (pv 2) pa_nil)) (pe_gi T.c_ALONE) (nomark _)))
      (pss_cons (ps_if (PW.pt (pw_and (pt_not (pt_val (pe_mcal (pv 0) T.clH (m_holds T) (hr.mono (by decide)) (pa_cons (pv 1) pa_nil)))) (pw_and (pt_cmpR op_eq (pe_mcal0 (pv 0) T.clH (m_many_flows T) (hr.mono (by decide))) (pe_gi T.c_MOST_FLOWS) (nomark _)) (pw_and1 (pt_not (pt_val (pv 3))))))) (pss_one (ps_ret (pe_gi T.c_NO_ROOM))) pss_nil)
      (pss_cons (ps_set (i := 4) sc_begun.nd rfl (Or.inl rfl) (pe_cal (c_body_in T) (hr.mono (by decide)) (pa_cons (pv 2) pa_nil)))
      (pss_cons (ps_if (pt_val (pv 3)) (pss_one (ps_ret (pe_cal (c_ended T) (hr.mono (by decide)) (pa_cons (pv 0) (pa_cons (pv 1) (pa_cons (pv 4) pa_nil)))))) pss_nil)
      (pss_cons (ps_expr (pe_mcal (pv 0) T.clH (m_hold T) (hr.mono (by decide)) (pa_cons (pv 1) (pa_cons (pv 4) (pa_cons (pe_cal (c_place_behind T) (hr.mono (by decide)) (pa_cons (pe_cal (c_place_in T) (hr.mono (by decide)) (pa_cons (pv 2) pa_nil)) (pa_cons (pe_callB call_len_seq (by rfl) T.n_len PySem.boot_len (pa_cons (pv 4) pa_nil)) pa_nil))) pa_nil)))))
      (pss_one (ps_ret (pe_gi T.c_BEGAN)))))))), ?_⟩
    refine ⟨_, rfl, q, f, rfl, hq, h16, rfl, ?_⟩
    rw [em]
    refine t_room rfl rfl rfl A0 ?_
    have hm' : (Sj51.headIn f).marks = 1 ∨ (Sj51.headIn f).marks = 3 := by omega
    rcases hm' with hm' | hm'
    · rw [hm', show decide ((1 : Nat) = 3) = false from rfl]
      cases hc : ((look h.held (Sj51.headIn f).flow).isNone && decide (Sj51.FLOWS ≤ h.held.length))
      · refine iteM ?_ ?_
        · cases e : look h.held (Sj51.headIn f).flow with
          | some z => rfl
          | none =>
            rw [e] at hc
            have h8 := of_decide_eq_false (show decide (Sj51.FLOWS ≤ h.held.length) = false from hc)
            unfold Sj51.FLOWS at h8
            show (decide (h.held.length = 8) && true) = false
            rw [decide_eq_false (by omega)]
            rfl
        refine ⟨_, rfl, q, f, rfl, hq, h16, fun H1 p s1 np ep => ?_⟩
        refine ⟨_, rfl, _, rfl, iteF ?_⟩
        have A1 := A0.same s1
        have d1 : Dat (a :: rl :: fl :: Z) H1 p (Sj51.bodyIn f) := Dat.new A0 np ep
        refine ⟨_, rfl, a, dx, _, rfl, s1 _ _ e1, hF_no (by decide +kernel), _, rfl, _, rfl, _, rfl, q, f, rfl, s1 _ _ hq, fun H2 s2 => ?_⟩
        refine ⟨_, rfl, p, _, rfl, .inl (SqL.of (s2 _ _ ep)), (Sj51.headIn f).at_, (Sj51.bodyIn f).length, by rw [vb_len], ?_⟩
        have A2 := A1.same s2
        refine ⟨Z, a, rl, fl, p, h, ⟨(Sj51.headIn f).flow, ((Sj51.headIn f).at_ + (Sj51.bodyIn f).length) % 2 ^ 32, Sj51.bodyIn f⟩, rfl, A2, g.nd, (by have := g.few; omega), d1.keep (Keep.same s2), fun H3 A3 k3 => ?_⟩
        have ej := join_begin (h := h) (f := f) hm' hbl hc
        unfold joinedH at k
        rw [ej] at k
        exact k H3 A3 ((Keep.same (s1.trans s2)).trans k3)
      · refine iteP ?_ ?_
        · rw [Bool.and_eq_true] at hc
          cases e : look h.held (Sj51.headIn f).flow with
          | some z =>
            rw [e] at hc
            exact absurd hc.1 (by simp)
          | none =>
            have h8 := of_decide_eq_true hc.2
            unfold Sj51.FLOWS at h8
            have := g.few
            show (decide (h.held.length = 8) && true) = true
            rw [decide_eq_true (by omega)]
            rfl
        have ej := join_full (h := h) (f := f) hm' hc
        unfold joinedH at k
        rw [ej] at k
        exact k H A0 Keep.refl
    · rw [hm', show decide ((3 : Nat) = 3) = true from rfl]
      refine iteM ?_ ?_
      · rw [Bool.not_true, Bool.and_false, Bool.and_false]
      refine ⟨_, rfl, q, f, rfl, hq, h16, fun H1 p s1 np ep => ?_⟩
      refine ⟨_, rfl, _, rfl, iteT ?_⟩
      have A1 := A0.same s1
      refine ⟨_, rfl, _, rfl, _, rfl, Z, a, rl, fl, p, h, (Sj51.headIn f).flow, Sj51.bodyIn f, rfl, A1, g.nd, Dat.new A0 np ep, fun H2 A2 k2 => ?_⟩
      have ej := join_alone (h := h) (f := f) hm' hbl
      unfold joinedH at k
      rw [ej] at k
      exact k H2 A2 ((Keep.same s1).trans k2)
theorem c_gone_on (T : Txt K mg CE CH CC) : Cal P w K mg base 4 "gone_on" (sp_gone_on CE CH) := by
  refine T.d_gone_on.cal sc_gone_on (fun vs H Q E h => ?_) (fun f cdv A outer s H vs Q E hr h => ?_)
  · obtain ⟨Z, a, rl, fl, q, h, f, rfl, _⟩ := h
    rfl
  · obtain ⟨Z, a, rl, fl, q, h, f, rfl, A0, g, hq, hf, hfl, hm, k⟩ := h
    obtain ⟨dx, wv, c0, c1, c2, e1, _⟩ := A0.ins
    obtain ⟨h16, hlen, hm3⟩ := fault_zero hf
    refine ⟨_, (pss_cons (ps_if (pt_not (pt_val (pe_mcal (pv 0) T.clH (m_holds T) (hr.mono (by decide)) (pa_cons (pv 1) pa_nil)))) (pss_one (ps_ret (pe_gi T.c_NOTHING_HELD))) pss_nil)
      (pss_cons (ps_set (i := 3) sc_gone_on.nd rfl (Or.inl rfl) (pe_mcal (pv 0) T.clH (m_held_of T) (hr.mono (by decide)) (pa_cons (pv 1) pa_nil)))
      (pss_cons (ps_if (pt_cmpR op_ne (pe_fld (pv 3) rfl) (pe_cal (c_place_in T) (hr.mono (by decide)) (pa_cons (pv 2) pa_nil)) (nomark _)) (pss_cons (ps_expr (pe_mcal (pv 0) T.clH (m_let_go T) (hr.mono (by decide)) (pa_cons (pv 1) pa_nil)))
      (pss_one (ps_ret (pe_gi T.c_ELSEWHERE)))) pss_nil)
      (pss_cons (ps_set (i := 4) sc_gone_on.nd rfl (Or.inl rfl) (pe_cal (c_body_in T) (hr.mono (by decide)) (pa_cons (pv 2) pa_nil)))
      (pss_cons (ps_set (i := 5) sc_gone_on.nd rfl (Or.inl rfl) (pe_op op_cat (pe_fld (pv 3) rfl) (pv 4)))
      (pss_cons (ps_if (pt_cmpR op_gt (pe_callB call_len_seq (by rfl) T.n_len PySem.boot_len (pa_cons (pv 5) pa_nil)) (pe_gi T.c_MOST_LONG) (nomark _)) (pss_cons (ps_expr (pe_mcal (pv 0) T.clH (m_let_go T) (hr.mono (by decide)) (pa_cons (pv 1) pa_nil)))
      (pss_one (ps_ret (pe_gi T.c_TOO_LONG)))) pss_nil)
      (pss_cons (ps_if (pt_cmpR op_eq (pe_cal (c_marks_in T) (hr.mono (by decide)) (pa_cons (pv 2) pa_nil)) (pe_gi T.c_ENDS) (nomark _)) (pss_one (ps_ret (pe_cal (c_ended T) (hr.mono (by decide)) (pa_cons (pv 0) (pa_cons (pv 1) (pa_cons (pv 5) pa_nil)))))) pss_nil)
      (pss_cons (ps_expr (pe_mcal (pv 0) T.clH (m_hold T) (hr.mono (by decide)) (pa_cons (pv 1) (pa_cons (pv 5) (pa_cons (pe_cal (c_place_behind T) (hr.mono (by decide)) (pa_cons (pe_fld (pv 3) rfl) (pa_cons (pe_callB call_len_seq (by rfl) T.n_len PySem.boot_len (pa_cons (pv 4) pa_nil)) pa_nil))) pa_nil)))))
      (pss_one (ps_ret (pe_gi T.c_GOES_ON))))))))))), ?_⟩
    refine ⟨_, rfl, a, dx, _, rfl, e1, hF_no (by decide +kernel), _, rfl, Z, a, rl, fl, h, (Sj51.headIn f).flow, rfl, A0, _, rfl, ?_⟩
    cases hx : look h.held (Sj51.headIn f).flow with
    | none =>
      refine iteT ?_
      have ej := join_none (h := h) (f := f) hm hx
      unfold joinedH at k
      rw [ej] at k
      exact k H A0 Keep.refl
    | some x =>
      refine iteF ?_
      refine ⟨_, rfl, a, dx, _, rfl, e1, hF_no (by decide +kernel), _, rfl, Z, a, rl, fl, h, (Sj51.headIn f).flow, x, rfl, A0, hx, fun e he => ?_⟩
      obtain ⟨ne, de, po, ee, dpo⟩ := he
      have lp : (eF po (x.next : Int)).lookup ("place" : Str) = some (.int (x.next : Int)) := lk_ix (ks := eK) (j := 1) rfl (by decide +kernel) rfl
      have lo : (eF po (x.next : Int)).lookup ("octets" : Str) = some (.ref po) := lk_ix (ks := eK) (j := 0) rfl (by decide +kernel) rfl
      refine ⟨_, rfl, e, CE, de, _, _, rfl, ee, T.clE, T.noE_place, lp, _, rfl, q, f, rfl, hq, fun H1 s1 => ?_⟩
      have A1 := A0.same s1
      refine ⟨rfl, _, rfl, ?_⟩
      have en : decide (V.int (x.next : Int) = V.int ((Sj51.headIn f).at_ : Int)) = decide (x.next = (Sj51.headIn f).at_) := dec_nat _ _
      rw [en]
      by_cases hn : x.next = (Sj51.headIn f).at_
      · rw [decide_eq_true hn]
        refine iteF ?_
        refine ⟨_, rfl, q, f, rfl, s1 _ _ hq, h16, fun H2 p s2 np ep => ?_⟩
        have s12 := s1.trans s2
        have A2 := A0.same s12
        have hbl : (Sj51.bodyIn f).length ≤ 1024 := by
          rw [bodyIn_len]
          omega
        have hxl := g.bytes x (look_some hx).1
        refine ⟨_, rfl, e, CE, de, _, _, rfl, s12 _ _ ee, T.clE, T.noE_octets, lo, _, rfl, po, p, _, _, rfl, rfl, s12 _ _ dpo.2, ep, by rw [vb_len, vb_len]; exact size_ok (by omega), fun r nr => ?_⟩
        have s3 := Same.new (o := HO.lst (vb x.bytes ++ vb (Sj51.bodyIn f))) nr
        have s13 := s12.trans s3
        have A3 := A0.same s13
        have er : upd H2 r (.lst (vb x.bytes ++ vb (Sj51.bodyIn f))) r = some (.lst (vb (x.bytes ++ Sj51.bodyIn f))) := by rw [upd_same, vb_app]
        have dr : Dat (a :: rl :: fl :: Z) (upd H2 r (.lst (vb x.bytes ++ vb (Sj51.bodyIn f)))) r (x.bytes ++ Sj51.bodyIn f) := ⟨A2.newZ nr, er⟩
        refine ⟨_, rfl, r, _, rfl, .inl (SqL.of er), _, _, rfl, rfl, _, rfl, ?_⟩
        by_cases hlong : 4096 < (x.bytes ++ Sj51.bodyIn f).length
        · refine iteP (decide_eq_true (by rw [vb_len]; omega)) ?_
          obtain ⟨dx', wv', c0', c1', c2', e1', _⟩ := A3.ins
          refine ⟨_, rfl, a, dx', _, rfl, e1', hF_no (by decide +kernel), _, rfl, Z, a, rl, fl, h, (Sj51.headIn f).flow, rfl, A3, g.nd, fun H4 A4 k4 => ?_⟩
          have ej := join_long (h := h) (f := f) hm hx hn hlong
          unfold joinedH at k
          rw [ej] at k
          exact k H4 A4 ((Keep.same s13).trans k4)
        · refine iteM (decide_eq_false (by rw [vb_len]; omega)) ?_
          refine ⟨_, rfl, q, f, rfl, s13 _ _ hq, h16, rfl, _, rfl, ?_⟩
          have em : decide (V.int ((Sj51.headIn f).marks : Int) = V.int 2) = decide ((Sj51.headIn f).marks = 2) := dec_nat _ 2
          rw [em]
          have hm' : (Sj51.headIn f).marks = 0 ∨ (Sj51.headIn f).marks = 2 := by omega
          rcases hm' with hm' | hm'
          · rw [hm', show decide ((0 : Nat) = 2) = false from rfl]
            refine iteF ?_
            obtain ⟨dx', wv', c0', c1', c2', e1', _⟩ := A3.ins
            refine ⟨_, rfl, a, dx', _, rfl, e1', hF_no (by decide +kernel), _, rfl, _, rfl, _, rfl, e, CE, de, _, _, rfl, s13 _ _ ee, T.clE, T.noE_place, lp, _, rfl, p, _, rfl, .inl (SqL.of (s3 _ _ ep)), x.next, (Sj51.bodyIn f).length, by rw [vb_len], ?_⟩
            refine ⟨Z, a, rl, fl, r, h, ⟨(Sj51.headIn f).flow, (x.next + (Sj51.bodyIn f).length) % 2 ^ 32, x.bytes ++ Sj51.bodyIn f⟩, rfl, A3, g.nd, (by have := g.few; omega), dr, fun H4 A4 k4 => ?_⟩
            have ej := join_on (h := h) (f := f) hm' hx hn hlong
            unfold joinedH at k
            rw [ej, ← hn] at k
            exact k H4 A4 ((Keep.same s13).trans k4)
          · rw [hm', show decide ((2 : Nat) = 2) = true from rfl]
            refine iteT ?_
            refine ⟨_, rfl, _, rfl, _, rfl, Z, a, rl, fl, r, h, (Sj51.headIn f).flow, x.bytes ++ Sj51.bodyIn f, rfl, A3, g.nd, dr, fun H4 A4 k4 => ?_⟩
            have ej := join_end (h := h) (f := f) hm' hx hn hlong
            unfold joinedH at k
            rw [ej] at k
            exact k H4 A4 ((Keep.same s13).trans k4)
      · rw [decide_eq_false hn]
        refine iteT ?_
        obtain ⟨dx', wv', c0', c1', c2', e1', _⟩ := A1.ins
        refine ⟨_, rfl, a, dx', _, rfl, e1', hF_no (by decide +kernel), _, rfl, Z, a, rl, fl, h, (Sj51.headIn f).flow, rfl, A1, g.nd, fun H4 A4 k4 => ?_⟩
        have ej := join_else (h := h) (f := f) hm hx hn
        unfold joinedH at k
        rw [ej] at k
        exact k H4 A4 ((Keep.same s1).trans k4)
theorem c_joined (T : Txt K mg CE CH CC) : Cal P w K mg base 7 "joined" (sp_joined CE CH) := by
  refine T.d_joined.cal sc_joined (fun vs H Q E h => ?_) (fun f cdv A outer s H vs Q E hr h => ?_)
  · obtain ⟨Z, a, rl, fl, q, h, f, rfl, _⟩ := h
    rfl
  · obtain ⟨Z, a, rl, fl, q, h, f, rfl, A0, g, hq, ho, hfl, k⟩ := h
    refine ⟨_, (pss_cons (ps_set (i := 2) sc_joined.nd rfl (Or.inl rfl) (pe_cal (c_fault_of T) (hr.mono (by decide)) (pa_cons (pv 1) pa_nil)))
      (pss_cons (ps_if (pt_cmpR op_ne (pv 2) pe_int (nomark _)) (pss_cons (ps_expr (pe_mcal0 (pv 0) T.clH (m_count_faulty T) (hr.mono (by decide))))
      (pss_one (ps_ret (pe_op op_add (pe_gi T.c_FAULTY_joining) (pv 2))))) pss_nil)
      (pss_cons (ps_set (i := 3) sc_joined.nd rfl (Or.inl rfl) (pe_cal (c_flow_in T) (hr.mono (by decide)) (pa_cons (pv 1) pa_nil)))
      (pss_cons (ps_if (pt_cmpR op_in_seq (pe_cal (c_marks_in T) (hr.mono (by decide)) (pa_cons (pv 1) pa_nil)) (pe_tup (pa_cons (pe_gi T.c_BEGINS) (pa_cons (pe_gi T.c_ALONE) pa_nil))) (by rfl)) (pss_one (ps_set (i := 4) sc_joined.nd rfl (Or.inl rfl) (pe_cal (c_begun T) (hr.mono (by decide)) (pa_cons (pv 0) (pa_cons (pv 3) (pa_cons (pv 1) pa_nil)))))) (pss_one (ps_set (i := 4) sc_joined.nd rfl (Or.inl rfl) (pe_cal (c_gone_on T) (hr.mono (by decide)) (pa_cons (pv 0) (pa_cons (pv 3) (pa_cons (pv 1) pa_nil)))))))
      (pss_cons (ps_expr (pe_mcal (pv 0) T.clH (m_count_answer T) (hr.mono (by decide)) (pa_cons (pv 4) pa_nil)))
      (pss_one (ps_ret (pv 4)))))))), ?_⟩
    refine ⟨_, rfl, q, f, rfl, hq, by omega, ho, fun H1 s1 => ?_⟩
    have A1 := A0.same s1
    obtain ⟨dx, wv, c0, c1, c2, e1, _⟩ := A1.ins
    refine ⟨_, rfl, rfl, _, rfl, ?_⟩
    have ez : decide (V.int (Sj51.fault f : Int) = V.int 0) = decide (Sj51.fault f = 0) := dec_nat _ 0
    rw [ez]
    by_cases hf : Sj51.fault f = 0
    · rw [decide_eq_true hf]
      refine iteF ?_
      obtain ⟨h16, hlen, hm3⟩ := fault_zero hf
      refine ⟨_, rfl, q, f, rfl, s1 _ _ hq, fun H2 s2 => ?_⟩
      have s12 := s1.trans s2
      have A2 := A0.same s12
      refine ⟨_, rfl, q, f, rfl, s12 _ _ hq, h16, (by show 2 ≤ sizeLine; decide), fun t nt => ?_⟩
      have s3 := Same.new (o := HO.tup [V.int 1, V.int 3]) nt
      have s13 := s12.trans s3
      have A3 := A0.same s13
      have ej : jn h f = ({ (h.join f).1 with counts := Sj51.counted h.counts (if (h.join f).2.1 < 3 then 1 else 2), last := if (h.join f).2.1 = 2 then some (h.join f).2.2 else (h.join f).1.last }, (h.join f).2.1) := by
        unfold jn
        rw [if_neg (fun z => z hf)]
      rw [ej] at k
      have fin : ∀ H4, HouseAt CE CH Z H4 a rl fl (joinedH h f) → Keep [a, rl, fl] H H4 →
          ∀ H5, HouseAt CE CH Z H5 a rl fl { joinedH h f with counts := Sj51.counted (joinedH h f).counts (if (h.join f).2.1 < 3 then 1 else 2) } → Keep [a, rl, fl] H4 H5 → Q (.int ((h.join f).2.1 : Int)) H5 := fun H4 A4 k4 H5 A5 k5 => by
        refine k H5 ?_ (k4.trans k5)
        have ec : (joinedH h f).counts = h.counts := join_rest h f
        rw [ec] at A5
        exact A5
      refine ⟨t, _, rfl, .inr (SqT.of upd_same), rfl, rfl, _, rfl, ?_⟩
      by_cases hm : (Sj51.headIn f).marks % 2 = 1
      · refine iteP ?_ ?_
        · have : (Sj51.headIn f).marks = 1 ∨ (Sj51.headIn f).marks = 3 := by omega
          rcases this with z | z <;> (rw [z]; decide)
        refine ⟨_, rfl, _, rfl, _, rfl, Z, a, rl, fl, q, h, f, rfl, A3, g, s13 _ _ hq, hf, hfl, hm, fun H4 A4 k4 => ?_⟩
        obtain ⟨dx', wv', c0', c1', c2', e1', _⟩ := A4.ins
        refine ⟨_, rfl, a, dx', _, rfl, e1', hF_no (by decide +kernel), _, rfl, Z, a, rl, fl, _, (h.join f).2.1, rfl, A4, fun H5 A5 k5 => ?_⟩
        exact ⟨_, rfl, fin H4 A4 ((Keep.same s13).trans k4) H5 A5 k5⟩
      · refine iteM ?_ ?_
        · have : (Sj51.headIn f).marks = 0 ∨ (Sj51.headIn f).marks = 2 := by omega
          rcases this with z | z <;> (rw [z]; decide)
        refine ⟨_, rfl, _, rfl, _, rfl, Z, a, rl, fl, q, h, f, rfl, A3, g, s13 _ _ hq, hf, hfl, hm, fun H4 A4 k4 => ?_⟩
        obtain ⟨dx', wv', c0', c1', c2', e1', _⟩ := A4.ins
        refine ⟨_, rfl, a, dx', _, rfl, e1', hF_no (by decide +kernel), _, rfl, Z, a, rl, fl, _, (h.join f).2.1, rfl, A4, fun H5 A5 k5 => ?_⟩
        exact ⟨_, rfl, fin H4 A4 ((Keep.same s13).trans k4) H5 A5 k5⟩
    · rw [decide_eq_false hf]
      refine iteT ?_
      refine ⟨_, rfl, a, dx, _, rfl, e1, hF_no (by decide +kernel), Z, a, rl, fl, h, rfl, A1, fun H2 A2 k2 => ?_⟩
      refine ⟨_, rfl, _, _, rfl, rfl, ?_⟩
      have ej : jn h f = ({ h with counts := Sj51.counted h.counts 0 }, 10 + Sj51.fault f) := by
        unfold jn
        rw [if_pos hf]
      rw [ej] at k
      exact q_int (k H2 A2 ((Keep.same s1).trans k2)) (show (10 : Int) + (Sj51.fault f : Int) = ((10 + Sj51.fault f : Nat) : Int) by omega)
end
end FC

/-! Framecard: asks.py walked. -/
namespace FC
open PySem PySem.Spec PyProof.Rows L2
/-- a new list of whole numbers is handed back, all else stands -/
def GivesV (H : Hp) (Q : VK) (l : List Int) : Prop := ∀ H' r, Same H H' → H r = none → H' r = some (.lst (vi l)) → Q (.ref r) H'
def said (a : Sj51.Ans) : List Int := a.v :: a.l
theorem HouseAt.back {CE CH : Addr} {Z : List Addr} {H H' : Hp} {a rl fl r : Addr} {h : Sj51.House} (A : HouseAt CE CH Z H' a rl fl h) (k : Keep [a, rl, fl] H H') (n : H' r = none) : H r = none := by
  cases e : H r with
  | none => rfl
  | some o =>
    by_cases m : r ∈ [a, rl, fl]
    · exact absurd n (A.there r m)
    · rw [k r o e m] at n
      cases n
def sp_is_between : Sp := fun vs H Q _ => ∃ z a b : Int, vs = [.int z, .int a, .int b] ∧ Q (.bl (Sj51.isIn a b z)) H
def sp_bare (p : Int) : Sp := fun vs H Q _ => ∃ (q : Addr) (ns : List Int) (c : Sj51.Call) (s : Sj51.Ans), vs = [.ref q] ∧ H q = some (.lst (vi ns)) ∧ Asked p ns c ∧ Sj51.free c = some s ∧ GivesV H Q (said s)
def sp_may_open : Sp := fun vs H Q _ => ∃ (q : Addr) (m t : Int), vs = [.ref q] ∧ H q = some (.lst (vi [m, t])) ∧ Q (.bl (Sj51.isIn 16 1024 m && Sj51.isIn 0 255 t)) H
def sp_house_of (CE CH : Addr) : Sp := fun vs H Q _ => ∃ (Z : List Addr) (q : Addr) (m t : Int), vs = [.ref q] ∧ H q = some (.lst (vi [m, t])) ∧ 0 ≤ m ∧ 0 ≤ t ∧ (∀ z ∈ Z, H z ≠ none) ∧
  ∀ H' a rl fl, HouseAt CE CH Z H' a rl fl ⟨m.toNat, t.toNat, [], [], List.replicate 3 0, none⟩ → Same H H' → H a = none → H rl = none → H fl = none → Q (.ref a) H'
def sp_housed (CE CH : Addr) (p : Int) : Sp := fun vs H Q _ => ∃ (Z : List Addr) (a rl fl q : Addr) (h : Sj51.House) (ns : List Int) (c : Sj51.Call), vs = [.ref a, .ref q] ∧ HouseAt CE CH Z H a rl fl h ∧ Good h ∧ H q = some (.lst (vi ns)) ∧ Asked p ns c ∧
  ∀ H' r, HouseAt CE CH Z H' a rl fl (Sj51.on h c).1 → Keep [a, rl, fl] H H' → H r = none → H' r = some (.lst (vi (said (Sj51.on h c).2))) → Q (.ref r) H'
/-- the bytes behind n -/
theorem cut_bytes {n : Int} {r : List Int} {lo most : Int} (t : Tl n r lo most) : cutV (vi (n :: r)) (some 1) none = vb (Sj51.nats r) := by
  have := cut_tail (vi (n :: r)) 1
  rw [vi_drop] at this
  rw [vb_vi, t.nats.2]
  exact this
theorem asked2 {ns : List Int} {c : Sj51.Call} (h : Asked 2 ns c) : ∃ n r, ns = n :: r ∧ c = .sum n r ∧ Tl n r 0 4096 := by
  cases h
  exact ⟨_, _, rfl, rfl, by assumption⟩
theorem asked3 {ns : List Int} {c : Sj51.Call} (h : Asked 3 ns c) : ∃ n r, ns = n :: r ∧ c = .crc n r ∧ Tl n r 0 4096 := by
  cases h
  exact ⟨_, _, rfl, rfl, by assumption⟩
theorem asked4 {ns : List Int} {c : Sj51.Call} (h : Asked 4 ns c) : ∃ fw pl n r, ns = fw :: pl :: n :: r ∧ c = .cut fw pl n r ∧ 0 ≤ pl ∧ pl < 4294967296 ∧ Tl n r 1 4096 := by
  cases h
  exact ⟨_, _, _, _, rfl, rfl, by assumption, by assumption, by assumption⟩
theorem asked6 {ns : List Int} {c : Sj51.Call} (h : Asked 6 ns c) : ∃ n r, ns = n :: r ∧ c = .check n r ∧ Tl n r 0 1040 := by
  cases h
  exact ⟨_, _, rfl, rfl, by assumption⟩
theorem asked7 {ns : List Int} {c : Sj51.Call} (h : Asked 7 ns c) : ∃ n r, ns = n :: r ∧ c = .pass n r ∧ Tl n r 0 1040 := by
  cases h
  exact ⟨_, _, rfl, rfl, by assumption⟩
theorem asked8 {ns : List Int} {c : Sj51.Call} (h : Asked 8 ns c) : ∃ n r, ns = n :: r ∧ c = .join n r ∧ Tl n r 0 1040 := by
  cases h
  exact ⟨_, _, rfl, rfl, by assumption⟩
theorem asked9 {ns : List Int} {c : Sj51.Call} (h : Asked 9 ns c) : ∃ fw, ns = [fw] ∧ c = .held fw := by
  cases h
  exact ⟨_, rfl, rfl⟩
theorem asked10 {ns : List Int} {c : Sj51.Call} (h : Asked 10 ns c) : ∃ fw, ns = [fw] ∧ c = .drop fw := by
  cases h
  exact ⟨_, rfl, rfl⟩
section
variable {P : Program} {w : World} {K : PySem.W.Frag} {mg : Str → Option Value} {base : Heap} {CE CH CC : Addr}
theorem c_is_between (T : Txt K mg CE CH CC) : Cal P w K mg base 1 "is_between" sp_is_between := by
  refine T.d_is_between.cal sc_is_between (fun vs H Q E h => ?_) (fun f cdv A outer s H vs Q E hr h => ?_)
  · obtain ⟨z, a, b, rfl, _⟩ := h
    rfl
  · obtain ⟨z, a, b, rfl, k⟩ := h
    refine ⟨_, (pss_one (ps_ret (pe_chain op_le op_le (pv 1) (pv 0) (pv 2)))), ?_⟩
    refine ⟨_, rfl, _, rfl, _, _, rfl, rfl, _, rfl, ?_⟩
    unfold Sj51.isIn at k
    cases c : decide (a ≤ z)
    · rw [c] at k
      exact iteF k
    · rw [c] at k
      exact iteT ⟨_, rfl, _, _, rfl, rfl, k⟩
theorem c_sum_said (T : Txt K mg CE CH CC) : Cal P w K mg base 8 "sum_said" (sp_bare 2) := by
  refine T.d_sum_said.cal sc_sum_said (fun vs H Q E h => ?_) (fun f cdv A outer s H vs Q E hr h => ?_)
  · obtain ⟨q, ns, c, s, rfl, _⟩ := h
    rfl
  · obtain ⟨q, ns, c, s, rfl, hq, ha, hs, k⟩ := h
    obtain ⟨n, r, rfl, rfl, t⟩ := asked2 ha
    have hs' : (if !Sj51.isIn 0 4096 n then Sj51.just (-2) else Sj51.just (Sj51.nat (Sj51.sum (Sj51.nats (r.take n.toNat))))) = s := Option.some.inj hs
    refine ⟨_, (pss_cons (ps_if (pt_not (pt_val (pe_cal (c_is_between T) (hr.mono (by decide)) (pa_cons (pe_ix ix_list (pv 0) pe_int (fun _ _ => rfl)) (pa_cons pe_int (pa_cons (pe_gi T.c_MOST_BYTES) pa_nil)))))) (pss_one (ps_ret (pe_lst (pa_cons (pe_gi T.c_NOT_AS_TOLD) pa_nil)))) pss_nil)
      (pss_one (ps_ret (pe_lst (pa_cons (pe_cal (c_sum_by_ones T) (hr.mono (by decide)) (pa_cons (pe_slice sl_list (pv 0) (po_some pe_int) po_none) pa_nil)) pa_nil))))), ?_⟩
    refine ⟨_, rfl, q, _, _, _, rfl, rfl, SqL.of hq, at_of (j := 0) rfl rfl, n, 0, 4096, rfl, _, rfl, ?_⟩
    cases hn : Sj51.isIn 0 4096 n
    · rw [hn] at hs'
      subst hs'
      exact iteT ⟨(by show 1 ≤ sizeLine; decide), fun r hr => k _ r (Same.new hr) hr upd_same⟩
    · rw [hn, (t.all hn).2] at hs'
      subst hs'
      have hn' := isIn_true.mp hn
      refine iteF ⟨_, rfl, _, rfl, q, _, rfl, SqL.of hq, fun p np => ?_⟩
      have s1 := Same.new (o := HO.lst (cutV (vi (n :: r)) (some 1) none)) np
      refine ⟨p, Sj51.nats r, rfl, by rw [upd_same, cut_bytes t], t.nats.1, by rw [nats_len, (t.all hn).1]; omega, (by show 1 ≤ sizeLine; decide), fun x nx => ?_⟩
      exact k _ x (s1.trans (Same.new nx)) (s1.free nx) upd_same
theorem c_crc_said (T : Txt K mg CE CH CC) : Cal P w K mg base 8 "crc_said" (sp_bare 3) := by
  refine T.d_crc_said.cal sc_crc_said (fun vs H Q E h => ?_) (fun f cdv A outer s H vs Q E hr h => ?_)
  · obtain ⟨q, ns, c, s, rfl, _⟩ := h
    rfl
  · obtain ⟨q, ns, c, s, rfl, hq, ha, hs, k⟩ := h
    obtain ⟨n, r, rfl, rfl, t⟩ := asked3 ha
    have hs' : (if !Sj51.isIn 0 4096 n then Sj51.just (-2) else ⟨0, [Sj51.nat (Sj51.crc (Sj51.nats (r.take n.toNat)))]⟩) = s := Option.some.inj hs
    refine ⟨_, (pss_cons (ps_if (pt_not (pt_val (pe_cal (c_is_between T) (hr.mono (by decide)) (pa_cons (pe_ix ix_list (pv 0) pe_int (fun _ _ => rfl)) (pa_cons pe_int (pa_cons (pe_gi T.c_MOST_BYTES) pa_nil)))))) (pss_one (ps_ret (pe_lst (pa_cons (pe_gi T.c_NOT_AS_TOLD) pa_nil)))) pss_nil)
      (pss_one (ps_ret (pe_lst (pa_cons pe_int (pa_cons (pe_cal (c_rest_of T) (hr.mono (by decide)) (pa_cons (pe_slice sl_list (pv 0) (po_some pe_int) po_none) pa_nil)) pa_nil)))))), ?_⟩
    refine ⟨_, rfl, q, _, _, _, rfl, rfl, SqL.of hq, at_of (j := 0) rfl rfl, n, 0, 4096, rfl, _, rfl, ?_⟩
    cases hn : Sj51.isIn 0 4096 n
    · rw [hn] at hs'
      subst hs'
      exact iteT ⟨(by show 1 ≤ sizeLine; decide), fun r hr => k _ r (Same.new hr) hr upd_same⟩
    · rw [hn, (t.all hn).2] at hs'
      subst hs'
      refine iteF ⟨_, rfl, _, rfl, q, _, rfl, SqL.of hq, fun p np => ?_⟩
      have s1 := Same.new (o := HO.lst (cutV (vi (n :: r)) (some 1) none)) np
      refine ⟨p, Sj51.nats r, rfl, by rw [upd_same, cut_bytes t], (by show 2 ≤ sizeLine; decide), fun x nx => ?_⟩
      exact k _ x (s1.trans (Same.new nx)) (s1.free nx) upd_same
theorem c_check_said (T : Txt K mg CE CH CC) : Cal P w K mg base 8 "check_said" (sp_bare 6) := by
  refine T.d_check_said.cal sc_check_said (fun vs H Q E h => ?_) (fun f cdv A outer s H vs Q E hr h => ?_)
  · obtain ⟨q, ns, c, s, rfl, _⟩ := h
    rfl
  · obtain ⟨q, ns, c, s, rfl, hq, ha, hs, k⟩ := h
    obtain ⟨n, r, rfl, rfl, t⟩ := asked6 ha
    have hs' : (if !Sj51.isIn 0 1040 n then Sj51.just (-2) else if Sj51.fault (Sj51.nats (r.take n.toNat)) = 1 then Sj51.just 1 else ⟨Sj51.nat (Sj51.fault (Sj51.nats (r.take n.toNat))), Sj51.told (Sj51.headIn (Sj51.nats (r.take n.toNat)))⟩) = s := Option.some.inj hs
    refine ⟨_, (pss_cons (ps_if (pt_not (pt_val (pe_cal (c_is_between T) (hr.mono (by decide)) (pa_cons (pe_ix ix_list (pv 0) pe_int (fun _ _ => rfl)) (pa_cons pe_int (pa_cons (pe_gi T.c_MOST_FRAME) pa_nil)))))) (pss_one (ps_ret (pe_lst (pa_cons (pe_gi T.c_NOT_AS_TOLD) pa_nil)))) pss_nil)
      (pss_cons (ps_set (i := 1) sc_check_said.nd rfl (Or.inl rfl) (pe_slice sl_list (pv 0) (po_some pe_int) po_none))
      (pss_cons (ps_set (i := 2) sc_check_said.nd rfl (Or.inl rfl) (pe_cal (c_fault_of T) (hr.mono (by decide)) (pa_cons (pv 1) pa_nil)))
      (pss_cons (ps_if (pt_cmpR op_eq (pv 2) pe_int (nomark _)) (pss_one (ps_ret (pe_lst (pa_cons (pv 2) pa_nil)))) pss_nil)
      (pss_one (ps_ret (pe_lst (pa_cons (pv 2) (pa_cons (pe_cal (c_flow_in T) (hr.mono (by decide)) (pa_cons (pv 1) pa_nil)) (pa_cons (pe_cal (c_place_in T) (hr.mono (by decide)) (pa_cons (pv 1) pa_nil)) (pa_cons (pe_cal (c_long_in T) (hr.mono (by decide)) (pa_cons (pv 1) pa_nil)) (pa_cons (pe_cal (c_marks_in T) (hr.mono (by decide)) (pa_cons (pv 1) pa_nil)) (pa_cons (pe_cal (c_hops_in T) (hr.mono (by decide)) (pa_cons (pv 1) pa_nil)) pa_nil))))))))))))), ?_⟩
    refine ⟨_, rfl, q, _, _, _, rfl, rfl, SqL.of hq, at_of (j := 0) rfl rfl, n, 0, 1040, rfl, _, rfl, ?_⟩
    cases hn : Sj51.isIn 0 1040 n
    · rw [hn] at hs'
      subst hs'
      exact iteT ⟨(by show 1 ≤ sizeLine; decide), fun r hr => k _ r (Same.new hr) hr upd_same⟩
    · rw [hn, (t.all hn).2] at hs'
      have hn' := isIn_true.mp hn
      refine iteF ⟨_, rfl, _, rfl, q, _, rfl, SqL.of hq, fun p np => ?_⟩
      have s1 := Same.new (o := HO.lst (cutV (vi (n :: r)) (some 1) none)) np
      have hp : upd H p (.lst (cutV (vi (n :: r)) (some 1) none)) p = some (.lst (vb (Sj51.nats r))) := by rw [upd_same, cut_bytes t]
      refine ⟨_, rfl, p, Sj51.nats r, rfl, hp, by rw [nats_len, (t.all hn).1]; omega, t.nats.1, fun H2 s2 => ?_⟩
      have s12 := s1.trans s2
      have ez : decide (V.int (Sj51.fault (Sj51.nats r) : Int) = V.int 1) = decide (Sj51.fault (Sj51.nats r) = 1) := dec_nat _ 1
      refine ⟨_, rfl, rfl, _, rfl, ?_⟩
      rw [ez]
      by_cases hf : Sj51.fault (Sj51.nats r) = 1
      · rw [decide_eq_true hf]
        have hs'' : Sj51.just 1 = s := by
          rw [← hs']
          show _ = (if Sj51.fault (Sj51.nats r) = 1 then _ else _)
          rw [if_pos hf]
        subst hs''
        refine iteT ⟨_, rfl, (by show 1 ≤ sizeLine; decide), fun x nx => ?_⟩
        refine k _ x (s12.trans (Same.new nx)) (s12.free nx) ?_
        rw [upd_same, hf]
        rfl
      · rw [decide_eq_false hf]
        have hs'' : (⟨Sj51.nat (Sj51.fault (Sj51.nats r)), Sj51.told (Sj51.headIn (Sj51.nats r))⟩ : Sj51.Ans) = s := by
          rw [← hs']
          show _ = (if Sj51.fault (Sj51.nats r) = 1 then _ else _)
          rw [if_neg hf]
        subst hs''
        have h16 := fault_ne_one hf
        have hp2 := s2 _ _ hp
        refine iteF ⟨_, rfl, _, rfl, p, _, rfl, hp2, fun H3 s3 => ⟨_, rfl, p, _, rfl, s3 _ _ hp2, fun H4 s4 => ⟨_, rfl, p, _, rfl, s4 _ _ (s3 _ _ hp2), fun H5 s5 => ?_⟩⟩⟩
        have s35 := s3.trans (s4.trans s5)
        have hp5 := s35 _ _ hp2
        refine ⟨_, rfl, p, _, rfl, hp5, h16, _, rfl, p, _, rfl, hp5, h16, (by show 6 ≤ sizeLine; decide), fun x nx => ?_⟩
        have s15 := s12.trans s35
        exact k _ x (s15.trans (Same.new nx)) (s15.free nx) upd_same
theorem c_pass_said (T : Txt K mg CE CH CC) : Cal P w K mg base 8 "pass_said" (sp_bare 7) := by
  refine T.d_pass_said.cal sc_pass_said (fun vs H Q E h => ?_) (fun f cdv A outer s H vs Q E hr h => ?_)
  · obtain ⟨q, ns, c, s, rfl, _⟩ := h
    rfl
  · obtain ⟨q, ns, c, s, rfl, hq, ha, hs, k⟩ := h
    obtain ⟨n, r, rfl, rfl, t⟩ := asked7 ha
    have hs' : (if !Sj51.isIn 0 1040 n then Sj51.just (-2) else if Sj51.fault (Sj51.nats (r.take n.toNat)) ≠ 0 then Sj51.just (-10 - Sj51.nat (Sj51.fault (Sj51.nats (r.take n.toNat)))) else if (Sj51.headIn (Sj51.nats (r.take n.toNat))).hops = 0 then Sj51.just (-6) else ⟨Sj51.nat (Sj51.passed (Sj51.nats (r.take n.toNat))).length, Sj51.ints (Sj51.passed (Sj51.nats (r.take n.toNat)))⟩) = s := Option.some.inj hs
    refine ⟨_, (pss_cons (ps_if (pt_not (pt_val (pe_cal (c_is_between T) (hr.mono (by decide)) (pa_cons (pe_ix ix_list (pv 0) pe_int (fun _ _ => rfl)) (pa_cons pe_int (pa_cons (pe_gi T.c_MOST_FRAME) pa_nil)))))) (pss_one (ps_ret (pe_lst (pa_cons (pe_gi T.c_NOT_AS_TOLD) pa_nil)))) pss_nil)
      (pss_cons (ps_set (i := 1) sc_pass_said.nd rfl (Or.inl rfl) (pe_slice sl_list (pv 0) (po_some pe_int) po_none))
      (pss_cons (ps_set (i := 2) sc_pass_said.nd rfl (Or.inl rfl) (pe_cal (c_fault_of T) (hr.mono (by decide)) (pa_cons (pv 1) pa_nil)))
      (pss_cons (ps_if (pt_cmpR op_ne (pv 2) pe_int (nomark _)) (pss_one (ps_ret (pe_lst (pa_cons (pe_op op_sub (pe_gi T.c_FAULTY_asks) (pv 2)) pa_nil)))) pss_nil)
      (pss_cons (ps_if (pt_cmpR op_eq (pe_cal (c_hops_in T) (hr.mono (by decide)) (pa_cons (pv 1) pa_nil)) pe_int (nomark _)) (pss_one (ps_ret (pe_lst (pa_cons (pe_gi T.c_NONE_THERE) pa_nil)))) pss_nil)
      (pss_one (ps_ret (pe_op op_cat (pe_lst (pa_cons (pe_callB call_len_seq (by rfl) T.n_len PySem.boot_len (pa_cons (pv 1) pa_nil)) pa_nil)) (pe_cal (c_passed_on T) (hr.mono (by decide)) (pa_cons (pv 1) pa_nil)))))))))), ?_⟩
    refine ⟨_, rfl, q, _, _, _, rfl, rfl, SqL.of hq, at_of (j := 0) rfl rfl, n, 0, 1040, rfl, _, rfl, ?_⟩
    cases hn : Sj51.isIn 0 1040 n
    · rw [hn] at hs'
      subst hs'
      exact iteT ⟨(by show 1 ≤ sizeLine; decide), fun r hr => k _ r (Same.new hr) hr upd_same⟩
    · rw [hn, (t.all hn).2] at hs'
      have hn' := isIn_true.mp hn
      have hl : (Sj51.nats r).length ≤ 1040 := by
        rw [nats_len, (t.all hn).1]
        omega
      refine iteF ⟨_, rfl, _, rfl, q, _, rfl, SqL.of hq, fun p np => ?_⟩
      have s1 := Same.new (o := HO.lst (cutV (vi (n :: r)) (some 1) none)) np
      have hp : upd H p (.lst (cutV (vi (n :: r)) (some 1) none)) p = some (.lst (vb (Sj51.nats r))) := by rw [upd_same, cut_bytes t]
      refine ⟨_, rfl, p, Sj51.nats r, rfl, hp, by omega, t.nats.1, fun H2 s2 => ?_⟩
      have s12 := s1.trans s2
      have hp2 := s2 _ _ hp
      have ez : decide (V.int (Sj51.fault (Sj51.nats r) : Int) = V.int 0) = decide (Sj51.fault (Sj51.nats r) = 0) := dec_nat _ 0
      refine ⟨_, rfl, rfl, _, rfl, ?_⟩
      rw [ez]
      by_cases hf : Sj51.fault (Sj51.nats r) = 0
      · rw [decide_eq_true hf]
        obtain ⟨h16, _, _⟩ := fault_zero hf
        refine iteF ⟨_, rfl, p, _, rfl, hp2, h16, rfl, _, rfl, ?_⟩
        have eh : decide (V.int ((Sj51.headIn (Sj51.nats r)).hops : Int) = V.int 0) = decide ((Sj51.headIn (Sj51.nats r)).hops = 0) := dec_nat _ 0
        rw [eh]
        by_cases hh : (Sj51.headIn (Sj51.nats r)).hops = 0
        · rw [decide_eq_true hh]
          have hs'' : Sj51.just (-6) = s := by
            rw [← hs']
            show _ = (if Sj51.fault (Sj51.nats r) ≠ 0 then _ else if (Sj51.headIn (Sj51.nats r)).hops = 0 then _ else _)
            rw [if_neg (fun z => z hf), if_pos hh]
          subst hs''
          exact iteT ⟨(by show 1 ≤ sizeLine; decide), fun x nx => k _ x (s12.trans (Same.new nx)) (s12.free nx) upd_same⟩
        · rw [decide_eq_false hh]
          have hs'' : (⟨Sj51.nat (Sj51.passed (Sj51.nats r)).length, Sj51.ints (Sj51.passed (Sj51.nats r))⟩ : Sj51.Ans) = s := by
            rw [← hs']
            show _ = (if Sj51.fault (Sj51.nats r) ≠ 0 then _ else if (Sj51.headIn (Sj51.nats r)).hops = 0 then _ else _)
            rw [if_neg (fun z => z hf), if_neg hh]
          subst hs''
          refine iteF ⟨_, rfl, p, _, rfl, .inl (SqL.of hp2), (by show 1 ≤ sizeLine; decide), fun x nx => ?_⟩
          have s3 := Same.new (o := HO.lst [V.int ((vb (Sj51.nats r)).length : Int)]) nx
          refine ⟨_, rfl, p, _, rfl, s3 _ _ hp2, h16, by omega, t.nats.1, hh, fun H4 y s4 ny ey => ?_⟩
          have s24 := s3.trans s4
          refine ⟨x, y, _, _, rfl, rfl, s4 _ _ upd_same, ey, by rw [vb_len (Sj51.passed (Sj51.nats r)), passed_len h16]; exact size_ok (by show 1 + _ ≤ _; omega), fun z nz => ?_⟩
          have s14 := s12.trans s24
          refine k _ z (s14.trans (Same.new nz)) (s14.free nz) ?_
          rw [upd_same, vb_len, vb_vi]
          unfold said
          rw [passed_len h16]
          rfl
      · rw [decide_eq_false hf]
        have hs'' : Sj51.just (-10 - Sj51.nat (Sj51.fault (Sj51.nats r))) = s := by
          rw [← hs']
          show _ = (if Sj51.fault (Sj51.nats r) ≠ 0 then _ else _)
          rw [if_pos hf]
        subst hs''
        exact iteT ⟨_, rfl, _, _, rfl, rfl, (by show 1 ≤ sizeLine; decide), fun x nx => k _ x (s12.trans (Same.new nx)) (s12.free nx) upd_same⟩
theorem c_may_open (T : Txt K mg CE CH CC) : Cal P w K mg base 2 "may_open" sp_may_open := by
  refine T.d_may_open.cal sc_may_open (fun vs H Q E h => ?_) (fun f cdv A outer s H vs Q E hr h => ?_)
  · obtain ⟨q, m, t, rfl, _⟩ := h
    rfl
  · obtain ⟨q, m, t, rfl, hq, k⟩ := h
    refine ⟨_, (pss_one (ps_ret (pe_and (pe_cal (c_is_between T) (hr.mono (by decide)) (pa_cons (pe_ix ix_list (pv 0) pe_int (fun _ _ => rfl)) (pa_cons (pe_gi T.c_LEAST_SIZE) (pa_cons (pe_gi T.c_MOST_SIZE) pa_nil)))) (pe_one (pe_cal (c_is_between T) (hr.mono (by decide)) (pa_cons (pe_ix ix_list (pv 0) pe_int (fun _ _ => rfl)) (pa_cons pe_int (pa_cons (pe_gi T.c_MOST_HOPS) pa_nil)))))))), ?_⟩
    refine ⟨_, rfl, q, _, _, _, rfl, rfl, SqL.of hq, at_of (j := 0) rfl rfl, m, 16, 1024, rfl, _, rfl, ?_⟩
    cases c : Sj51.isIn 16 1024 m
    · rw [c] at k
      exact iteF k
    · rw [c] at k
      exact iteT ⟨_, rfl, q, _, _, _, rfl, rfl, SqL.of hq, at_of (j := 1) rfl rfl, t, 0, 255, rfl, k⟩
theorem c_house_of (T : Txt K mg CE CH CC) : Cal P w K mg base 3 "house_of" (sp_house_of CE CH) := by
  refine T.d_house_of.cal sc_house_of (fun vs H Q E h => ?_) (fun f cdv A outer s H vs Q E hr h => ?_)
  · obtain ⟨Z, q, m, t, rfl, _⟩ := h
    rfl
  · obtain ⟨Z, q, m, t, rfl, hq, hm, ht, hz, k⟩ := h
    refine ⟨_, (pss_one (ps_ret (pe_new (k_House_init T) (hr.mono (by decide)) (pa_cons (pe_ix ix_list (pv 0) pe_int (fun _ _ => rfl)) (pa_cons (pe_ix ix_list (pv 0) pe_int (fun _ _ => rfl)) pa_nil))))), ?_⟩
    refine ⟨_, rfl, q, _, _, _, rfl, rfl, SqL.of hq, at_of (j := 0) rfl rfl, _, rfl, q, _, _, _, rfl, rfl, SqL.of hq, at_of (j := 1) rfl rfl, fun x dx nx nd ne => ?_⟩
    refine ⟨Z, x, dx, m.toNat, t.toNat, ?_, upd_same, fun z m => upd_there (upd_there (hz z m)), fun H' rl fl A1 k1 nr nf => ⟨rfl, ?_⟩⟩
    · show [V.ref x, V.int m, V.int t] = _
      rw [Int.toNat_of_nonneg hm, Int.toNat_of_nonneg ht]
    · have s1 : Same H H' := Same.made nx nd k1
      have free2 : ∀ y, upd (upd H dx (.own x)) x (.ins CH dx []) y = none → H y = none := fun y z => by
        have s2 : Same H (upd (upd H dx (.own x)) x (.ins CH dx [])) := fun b o e => by
          rw [upd_ne (ne_of_none e nx), upd_ne (ne_of_none e nd)]
          exact e
        exact s2.free z
      exact k H' x rl fl A1 s1 nx (free2 rl nr) (free2 fl nf)
theorem c_cut_said (T : Txt K mg CE CH CC) : Cal P w K mg base 8 "cut_said" (sp_housed CE CH 4) := by
  refine T.d_cut_said.cal sc_cut_said (fun vs H Q E h => ?_) (fun f cdv A outer s H vs Q E hr h => ?_)
  · obtain ⟨Z, a, rl, fl, q, h, ns, c, rfl, _⟩ := h
    rfl
  · obtain ⟨Z, a, rl, fl, q, h, ns, c, rfl, A0, g, hq, ha, k⟩ := h
    obtain ⟨fw, pl, n, r, rfl, rfl, h0, h1, t⟩ := asked4 ha
    rw [on_cut] at k
    refine ⟨_, (pss_cons (ps_par3 (i := 2) (j := 3) (l := 4) rfl sc_cut_said.nd rfl rfl rfl (by decide) (by decide) (by decide) rfl rfl rfl (pa_cons (pe_ix ix_list (pv 1) pe_int (fun _ _ => rfl)) (pa_cons (pe_ix ix_list (pv 1) pe_int (fun _ _ => rfl)) (pa_cons (pe_ix ix_list (pv 1) pe_int (fun _ _ => rfl)) pa_nil))) (by rfl))
      (pss_cons (ps_if (PW.pt (pw_or (pt_not (pt_val (pe_cal (c_is_between T) (hr.mono (by decide)) (pa_cons (pv 2) (pa_cons pe_int (pa_cons (pe_gi T.c_MOST_FLOW) pa_nil)))))) (pw_or1 (pt_not (pt_val (pe_cal (c_is_between T) (hr.mono (by decide)) (pa_cons (pv 4) (pa_cons pe_int (pa_cons (pe_gi T.c_MOST_BYTES) pa_nil))))))))) (pss_one (ps_ret (pe_lst (pa_cons (pe_gi T.c_NOT_AS_TOLD) pa_nil)))) pss_nil)
      (pss_cons (ps_set (i := 5) sc_cut_said.nd rfl (Or.inl rfl) (pe_cal (c_frames_of T) (hr.mono (by decide)) (pa_cons (pv 0) (pa_cons (pv 2) (pa_cons (pv 3) (pa_cons (pe_slice sl_list (pv 1) (po_some pe_int) po_none) pa_nil))))))
      (pss_cons (ps_if (pt_cmpR op_gt (pe_op op_add (pe_callB call_len_seq (by rfl) T.n_len PySem.boot_len (pa_cons (pe_fld (pv 0) rfl) pa_nil)) (pe_callB call_len_seq (by rfl) T.n_len PySem.boot_len (pa_cons (pv 5) pa_nil))) (pe_gi T.c_MOST_READY) (nomark _)) (pss_one (ps_ret (pe_lst (pa_cons (pe_gi T.c_TOO_MANY) pa_nil)))) pss_nil)
      (pss_cons (ps_expr (pe_mcal (pv 0) T.clH (m_add_frames T) (hr.mono (by decide)) (pa_cons (pv 5) pa_nil)))
      (pss_one (ps_ret (pe_lst (pa_cons (pe_callB call_len_seq (by rfl) T.n_len PySem.boot_len (pa_cons (pv 5) pa_nil)) pa_nil))))))))), ?_⟩
    refine ⟨_, rfl, q, _, _, _, rfl, rfl, SqL.of hq, at_of (j := 0) rfl rfl, _, rfl, q, _, _, _, rfl, rfl, SqL.of hq, at_of (j := 1) rfl rfl, _, rfl, q, _, _, _, rfl, rfl, SqL.of hq, at_of (j := 2) rfl rfl, _, _, _, rfl, ?_⟩
    have hpl : Sj51.isIn 0 (2 ^ 32 - 1) pl = true := isIn_true.mpr ⟨h0, by omega⟩
    rw [hpl, Bool.not_true, Bool.or_false] at k
    refine ⟨_, rfl, fw, 0, 65535, rfl, _, rfl, ?_⟩
    cases hw : Sj51.isIn 0 65535 fw
    · rw [hw] at k
      exact iteT (iteT ⟨(by show 1 ≤ sizeLine; decide), fun x nx => k _ x (A0.same (Same.new nx)) (Keep.same (Same.new nx)) nx upd_same⟩)
    · rw [hw] at k
      refine iteF ⟨_, rfl, n, 1, 4096, rfl, _, rfl, ?_⟩
      cases hn : Sj51.isIn 1 4096 n
      · rw [hn] at k
        exact iteT ⟨(by show 1 ≤ sizeLine; decide), fun x nx => k _ x (A0.same (Same.new nx)) (Keep.same (Same.new nx)) nx upd_same⟩
      · rw [hn, (t.all hn).2] at k
        have hn' := isIn_true.mp hn
        have hw' := isIn_true.mp hw
        have hl : (Sj51.nats r).length = n.toNat := by rw [nats_len, (t.all hn).1]
        refine iteF ⟨_, rfl, _, rfl, _, rfl, _, rfl, _, rfl, q, _, rfl, SqL.of hq, fun p np => ?_⟩
        have s1 := Same.new (o := HO.lst (cutV (vi (fw :: pl :: n :: r)) (some 3) none)) np
        have e3 : cutV (vi (fw :: pl :: n :: r)) (some 3) none = vb (Sj51.nats r) := by
          have := cut_tail (vi (fw :: pl :: n :: r)) 3
          rw [vi_drop] at this
          rw [vb_vi, t.nats.2]
          exact this
        have A1 := A0.same s1
        refine ⟨Z, a, rl, fl, p, h, fw.toNat, pl.toNat, Sj51.nats r, ?_, A1, by rw [upd_same, e3], by omega, by omega, t.nats.1, by have := g.size1; omega, g.size2, g.hops, fun H2 x ps s2 nx ex nps hF2 => ?_⟩
        · show [V.ref a, V.int fw, V.int pl, V.ref p] = _
          rw [Int.toNat_of_nonneg hw'.1, Int.toNat_of_nonneg h0]
        have s12 := s1.trans s2
        have A2 := A0.same s12
        obtain ⟨dx, wv, c0, c1, c2, e1, _⟩ := A2.ins
        obtain ⟨rs, e2, ef⟩ := A2.ready
        have lr : (hF h.size h.hops rl fl wv c0 c1 c2).lookup ("ready" : Str) = some (.ref rl) := lk_ix (ks := hK) (j := 2) rfl (by decide +kernel) rfl
        have hF3 : Frs (a :: rl :: fl :: Z) H2 ps (Sj51.cut h.size fw.toNat pl.toNat h.hops (Sj51.nats r)) := hF2.more fun y m => A0.newZ (s1.free (nps y m))
        have ls : (((rs.map V.ref).length : Nat) : Int) + (((ps.map V.ref).length : Nat) : Int) = ((h.ready.length + (Sj51.cut h.size fw.toNat pl.toNat h.hops (Sj51.nats r)).length : Nat) : Int) := by
          rw [List.length_map, List.length_map, ef.len, hF2.len]
          omega
        refine ⟨_, rfl, a, CH, dx, _, _, rfl, e1, T.clH, T.noH_ready, lr, rl, _, rfl, .inl (SqL.of e2), _, rfl, x, _, rfl, .inl (SqL.of ex), _, _, rfl, rfl, _, _, rfl, rfl, _, rfl, ?_⟩
        have kw' : ¬ (!true || !true) = true := by decide
        rw [if_neg kw'] at k
        have hz : (Sj51.cut h.size fw.toNat pl.toNat h.hops (Sj51.nats r)).length ≤ 4096 := by
          have hs := g.size1
          rw [cut_len (by omega) (by omega)]
          have h1 := parts_lt (m := h.size) (n := (Sj51.nats r).length) (i := 4096) (by omega)
          have h2 : ¬ 4096 * h.size < (Sj51.nats r).length := by
            have : 4096 * 1 ≤ 4096 * h.size := Nat.mul_le_mul_left _ (by omega)
            omega
          have h3 : ¬ 4096 < parts h.size (Sj51.nats r).length := fun z => h2 (h1.mp z)
          omega
        by_cases c : Sj51.READY < h.ready.length + (Sj51.cut h.size fw.toNat pl.toNat h.hops (Sj51.nats r)).length
        · rw [if_pos c] at k
          unfold Sj51.READY at c
          refine iteP (decide_eq_true (by rw [ls]; omega)) ?_
          exact ⟨(by show 1 ≤ sizeLine; decide), fun y ny => k _ y (A2.same (Same.new ny)) (Keep.same (s12.trans (Same.new ny))) (s12.free ny) upd_same⟩
        · rw [if_neg c] at k
          unfold Sj51.READY at c
          refine iteM (decide_eq_false (by rw [ls]; omega)) ?_
          refine ⟨_, rfl, a, dx, _, rfl, e1, hF_no (by decide +kernel), _, rfl, Z, a, rl, fl, x, h, ps, _, rfl, A2, A0.new (s1.free nx), ex, hF3, by omega, fun H3 A3 k3 => ?_⟩
          have ex3 := k3 _ _ ex (A0.new (s1.free nx))
          refine ⟨_, rfl, x, _, rfl, .inl (SqL.of ex3), (by show 1 ≤ sizeLine; decide), fun y ny => ?_⟩
          refine k _ y (A3.same (Same.new ny)) ((Keep.same s12).trans (k3.trans (Keep.same (Same.new ny)))) (A3.back ((Keep.same s12).trans k3) ny) ?_
          rw [upd_same, List.length_map, hF2.len]
          rfl
theorem c_next_said (T : Txt K mg CE CH CC) : Cal P w K mg base 8 "next_said" (sp_housed CE CH 5) := by
  refine T.d_next_said.cal sc_next_said (fun vs H Q E h => ?_) (fun f cdv A outer s H vs Q E hr h => ?_)
  · obtain ⟨Z, a, rl, fl, q, h, ns, c, rfl, _⟩ := h
    rfl
  · obtain ⟨Z, a, rl, fl, q, h, ns, c, rfl, A0, g, hq, ha, k⟩ := h
    cases ha
    obtain ⟨dx, wv, c0, c1, c2, e1, _⟩ := A0.ins
    obtain ⟨rs, e2, ef⟩ := A0.ready
    have lr : (hF h.size h.hops rl fl wv c0 c1 c2).lookup ("ready" : Str) = some (.ref rl) := lk_ix (ks := hK) (j := 2) rfl (by decide +kernel) rfl
    refine ⟨_, (pss_cons (ps_if (pt_cmpR (op_eqD hr.units) (pe_fld (pv 0) rfl) (pe_lst pa_nil) (nomark _)) (pss_one (ps_ret (pe_lst (pa_cons (pe_gi T.c_NONE_THERE) pa_nil)))) pss_nil)
      (pss_cons (ps_set (i := 2) sc_next_said.nd rfl (Or.inl rfl) (pe_mcal0 (pv 0) T.clH (m_take_frame T) (hr.mono (by decide))))
      (pss_one (ps_ret (pe_op op_cat (pe_lst (pa_cons (pe_callB call_len_seq (by rfl) T.n_len PySem.boot_len (pa_cons (pv 2) pa_nil)) pa_nil)) (pv 2)))))), ?_⟩
    refine ⟨_, rfl, a, CH, dx, _, _, rfl, e1, T.clH, T.noH_ready, lr, Nat.zero_le _, fun e ne => ?_⟩
    have s1 := Same.new (o := HO.lst []) ne
    refine ⟨.list (h.ready.map fun f => .list (pd f)), .list [], .lst (SqL.of (s1 _ _ e2)) ((ef.keep (Keep.same s1)).dp), .lst (SqL.of upd_same) .nil, frs_shaped _, frs_shaped [], _, rfl, ?_⟩
    rw [frs_eqv_nil]
    have A1 := A0.same s1
    cases hrd : h.ready with
    | nil =>
      rw [on_next_nil hrd] at k
      exact iteT ⟨(by show 1 ≤ sizeLine; decide), fun x nx => k _ x (A1.same (Same.new nx)) (Keep.same (s1.trans (Same.new nx))) (s1.free nx) upd_same⟩
    | cons f r =>
      rw [on_next_cons hrd] at k
      rw [show decide (f :: r = []) = false from decide_eq_false (by simp)]
      have hfl := g.frames f (by rw [hrd]; exact List.mem_cons_self ..)
      refine iteF ⟨_, rfl, a, dx, _, rfl, s1 _ _ e1, hF_no (by decide +kernel), Z, a, rl, fl, h, f, r, rfl, A1, hrd, fun H2 p A2 dp k2 => ?_⟩
      refine ⟨_, rfl, p, _, rfl, .inl (SqL.of dp.2), (by show 1 ≤ sizeLine; decide), fun x nx => ?_⟩
      have s3 := Same.new (o := HO.lst [V.int ((vb f).length : Int)]) nx
      refine ⟨_, rfl, x, p, _, _, rfl, rfl, upd_same, s3 _ _ dp.2, by rw [vb_len]; exact size_ok (by show 1 + _ ≤ _; omega), fun y ny => ?_⟩
      have k12 : Keep [a, rl, fl] H H2 := (Keep.same s1).trans k2
      refine k _ y (A2.same (s3.trans (Same.new ny))) (k12.trans (Keep.same (s3.trans (Same.new ny)))) (A2.back k12 (s3.free ny)) ?_
      rw [upd_same, vb_len, vb_vi]
      rfl
theorem c_join_said (T : Txt K mg CE CH CC) : Cal P w K mg base 8 "join_said" (sp_housed CE CH 8) := by
  refine T.d_join_said.cal sc_join_said (fun vs H Q E h => ?_) (fun f cdv A outer s H vs Q E hr h => ?_)
  · obtain ⟨Z, a, rl, fl, q, h, ns, c, rfl, _⟩ := h
    rfl
  · obtain ⟨Z, a, rl, fl, q, h, ns, c, rfl, A0, g, hq, ha, k⟩ := h
    obtain ⟨n, r, rfl, rfl, t⟩ := asked8 ha
    rw [on_join] at k
    refine ⟨_, (pss_cons (ps_if (pt_not (pt_val (pe_cal (c_is_between T) (hr.mono (by decide)) (pa_cons (pe_ix ix_list (pv 1) pe_int (fun _ _ => rfl)) (pa_cons pe_int (pa_cons (pe_gi T.c_MOST_FRAME) pa_nil)))))) (pss_one (ps_ret (pe_lst (pa_cons (pe_gi T.c_NOT_AS_TOLD) pa_nil)))) pss_nil)
      (pss_one (ps_ret (pe_lst (pa_cons (pe_cal (c_joined T) (hr.mono (by decide)) (pa_cons (pv 0) (pa_cons (pe_slice sl_list (pv 1) (po_some pe_int) po_none) pa_nil))) pa_nil))))), ?_⟩
    refine ⟨_, rfl, q, _, _, _, rfl, rfl, SqL.of hq, at_of (j := 0) rfl rfl, n, 0, 1040, rfl, _, rfl, ?_⟩
    cases hn : Sj51.isIn 0 1040 n
    · rw [hn] at k
      exact iteT ⟨(by show 1 ≤ sizeLine; decide), fun x nx => k _ x (A0.same (Same.new nx)) (Keep.same (Same.new nx)) nx upd_same⟩
    · rw [hn, (t.all hn).2, if_neg (by decide)] at k
      have hn' := isIn_true.mp hn
      refine iteF ⟨_, rfl, _, rfl, _, rfl, q, _, rfl, SqL.of hq, fun p np => ?_⟩
      have s1 := Same.new (o := HO.lst (cutV (vi (n :: r)) (some 1) none)) np
      refine ⟨Z, a, rl, fl, p, h, Sj51.nats r, rfl, A0.same s1, g, by rw [upd_same, cut_bytes t], t.nats.1, by rw [nats_len, (t.all hn).1]; omega, fun H2 A2 k2 => ?_⟩
      have k12 : Keep [a, rl, fl] H H2 := (Keep.same s1).trans k2
      refine ⟨(by show 1 ≤ sizeLine; decide), fun x nx => ?_⟩
      have e0 : ∀ (X Y : Sj51.House × Sj51.Ans), (if Sj51.fault (Sj51.nats r) ≠ 0 then X else Y) = if Sj51.fault (Sj51.nats r) ≠ 0 then X else Y := fun _ _ => rfl
      by_cases hf : Sj51.fault (Sj51.nats r) = 0
      · rw [if_neg (fun z => z hf)] at k
        have ej : jn h (Sj51.nats r) = ({ (h.join (Sj51.nats r)).1 with counts := Sj51.counted h.counts (if (h.join (Sj51.nats r)).2.1 < 3 then 1 else 2), last := if (h.join (Sj51.nats r)).2.1 = 2 then some (h.join (Sj51.nats r)).2.2 else (h.join (Sj51.nats r)).1.last }, (h.join (Sj51.nats r)).2.1) := by
          unfold jn
          rw [if_neg (fun z => z hf)]
        rw [ej] at A2
        refine k _ x (A2.same (Same.new nx)) (k12.trans (Keep.same (Same.new nx))) (A2.back k12 nx) ?_
        rw [upd_same, ej]
        rfl
      · rw [if_pos hf] at k
        have ej : jn h (Sj51.nats r) = ({ h with counts := Sj51.counted h.counts 0 }, 10 + Sj51.fault (Sj51.nats r)) := by
          unfold jn
          rw [if_pos hf]
        rw [ej] at A2
        refine k _ x (A2.same (Same.new nx)) (k12.trans (Keep.same (Same.new nx))) (A2.back k12 nx) ?_
        rw [upd_same, ej]
        show some (HO.lst [V.int ((10 + Sj51.fault (Sj51.nats r) : Nat) : Int)]) = some (HO.lst [V.int (10 + (Sj51.fault (Sj51.nats r) : Int))])
        rw [show ((10 + Sj51.fault (Sj51.nats r) : Nat) : Int) = 10 + (Sj51.fault (Sj51.nats r) : Int) by omega]
theorem c_held_said (T : Txt K mg CE CH CC) : Cal P w K mg base 8 "held_said" (sp_housed CE CH 9) := by
  refine T.d_held_said.cal sc_held_said (fun vs H Q E h => ?_) (fun f cdv A outer s H vs Q E hr h => ?_)
  · obtain ⟨Z, a, rl, fl, q, h, ns, c, rfl, _⟩ := h
    rfl
  · obtain ⟨Z, a, rl, fl, q, h, ns, c, rfl, A0, g, hq, ha, k⟩ := h
    obtain ⟨fw, rfl, rfl⟩ := asked9 ha
    rw [on_held] at k
    obtain ⟨dx, wv, c0, c1, c2, e1, _⟩ := A0.ins
    refine ⟨_, (pss_cons (ps_set (i := 2) sc_held_said.nd rfl (Or.inl rfl) (pe_ix ix_list (pv 1) pe_int (fun _ _ => rfl)))
      (pss_cons (ps_if (pt_not (pt_val (pe_cal (c_is_between T) (hr.mono (by decide)) (pa_cons (pv 2) (pa_cons pe_int (pa_cons (pe_gi T.c_MOST_FLOW) pa_nil)))))) (pss_one (ps_ret (pe_lst (pa_cons (pe_gi T.c_NOT_AS_TOLD) pa_nil)))) pss_nil)
      (pss_cons (ps_if (pt_not (pt_val (pe_mcal (pv 0) T.clH (m_holds T) (hr.mono (by decide)) (pa_cons (pv 2) pa_nil)))) (pss_one (ps_ret (pe_lst (pa_cons (pe_gi T.c_NONE_THERE) pa_nil)))) pss_nil)
      (pss_cons (ps_set (i := 3) sc_held_said.nd rfl (Or.inl rfl) (pe_mcal (pv 0) T.clH (m_held_of T) (hr.mono (by decide)) (pa_cons (pv 2) pa_nil)))
      (pss_one (ps_ret (pe_op op_cat (pe_lst (pa_cons (pe_callB call_len_seq (by rfl) T.n_len PySem.boot_len (pa_cons (pe_fld (pv 3) rfl) pa_nil)) (pa_cons (pe_fld (pv 3) rfl) pa_nil))) (pe_fld (pv 3) rfl)))))))), ?_⟩
    refine ⟨_, rfl, q, _, _, _, rfl, rfl, SqL.of hq, at_of (j := 0) rfl rfl, ?_⟩
    refine ⟨_, rfl, fw, 0, 65535, rfl, _, rfl, ?_⟩
    cases hw : Sj51.isIn 0 65535 fw
    · rw [hw] at k
      exact iteT ⟨(by show 1 ≤ sizeLine; decide), fun x nx => k _ x (A0.same (Same.new nx)) (Keep.same (Same.new nx)) nx upd_same⟩
    · rw [hw, if_neg (by decide)] at k
      have hw' := isIn_true.mp hw
      have ew : V.int fw = V.int (fw.toNat : Int) := by rw [Int.toNat_of_nonneg hw'.1]
      refine iteF ⟨_, rfl, a, dx, _, rfl, e1, hF_no (by decide +kernel), _, rfl, Z, a, rl, fl, h, fw.toNat, by rw [ew], A0, _, rfl, ?_⟩
      cases hx : look h.held fw.toNat with
      | none =>
        rw [hx] at k
        exact iteT ⟨(by show 1 ≤ sizeLine; decide), fun x nx => k _ x (A0.same (Same.new nx)) (Keep.same (Same.new nx)) nx upd_same⟩
      | some x =>
        rw [hx] at k
        refine iteF ⟨_, rfl, a, dx, _, rfl, e1, hF_no (by decide +kernel), _, rfl, Z, a, rl, fl, h, fw.toNat, x, by rw [ew], A0, hx, fun e he => ?_⟩
        obtain ⟨ne, de, po, ee, dpo⟩ := he
        have lp : (eF po (x.next : Int)).lookup ("place" : Str) = some (.int (x.next : Int)) := lk_ix (ks := eK) (j := 1) rfl (by decide +kernel) rfl
        have lo : (eF po (x.next : Int)).lookup ("octets" : Str) = some (.ref po) := lk_ix (ks := eK) (j := 0) rfl (by decide +kernel) rfl
        refine ⟨_, rfl, e, CE, de, _, _, rfl, ee, T.clE, T.noE_octets, lo, po, _, rfl, .inl (SqL.of dpo.2), _, rfl, e, CE, de, _, _, rfl, ee, T.clE, T.noE_place, lp, (by show 2 ≤ sizeLine; decide), fun y ny => ?_⟩
        have s1 := Same.new (o := HO.lst [V.int ((vb x.bytes).length : Int), V.int (x.next : Int)]) ny
        have hxl := g.bytes x (look_some hx).1
        refine ⟨_, rfl, e, CE, de, _, _, rfl, s1 _ _ ee, T.clE, T.noE_octets, lo, y, po, _, _, rfl, rfl, upd_same, s1 _ _ dpo.2, by rw [vb_len]; exact size_ok (by show 2 + _ ≤ _; omega), fun z nz => ?_⟩
        have s2 := s1.trans (Same.new (o := HO.lst ([V.int ((vb x.bytes).length : Int), V.int (x.next : Int)] ++ vb x.bytes)) nz)
        refine k _ z (A0.same s2) (Keep.same s2) (s1.free nz) ?_
        rw [upd_same, vb_len, vb_vi]
        rfl
theorem c_drop_said (T : Txt K mg CE CH CC) : Cal P w K mg base 8 "drop_said" (sp_housed CE CH 10) := by
  refine T.d_drop_said.cal sc_drop_said (fun vs H Q E h => ?_) (fun f cdv A outer s H vs Q E hr h => ?_)
  · obtain ⟨Z, a, rl, fl, q, h, ns, c, rfl, _⟩ := h
    rfl
  · obtain ⟨Z, a, rl, fl, q, h, ns, c, rfl, A0, g, hq, ha, k⟩ := h
    obtain ⟨fw, rfl, rfl⟩ := asked10 ha
    rw [on_drop] at k
    obtain ⟨dx, wv, c0, c1, c2, e1, _⟩ := A0.ins
    refine ⟨_, (pss_cons (ps_set (i := 2) sc_drop_said.nd rfl (Or.inl rfl) (pe_ix ix_list (pv 1) pe_int (fun _ _ => rfl)))
      (pss_cons (ps_if (pt_not (pt_val (pe_cal (c_is_between T) (hr.mono (by decide)) (pa_cons (pv 2) (pa_cons pe_int (pa_cons (pe_gi T.c_MOST_FLOW) pa_nil)))))) (pss_one (ps_ret (pe_lst (pa_cons (pe_gi T.c_NOT_AS_TOLD) pa_nil)))) pss_nil)
      (pss_cons (ps_if (pt_not (pt_val (pe_mcal (pv 0) T.clH (m_holds T) (hr.mono (by decide)) (pa_cons (pv 2) pa_nil)))) (pss_one (ps_ret (pe_lst (pa_cons (pe_gi T.c_NONE_THERE) pa_nil)))) pss_nil)
      (pss_cons (ps_expr (pe_mcal (pv 0) T.clH (m_let_go T) (hr.mono (by decide)) (pa_cons (pv 2) pa_nil)))
      (pss_one (ps_ret (pe_lst (pa_cons (pe_mcal0 (pv 0) T.clH (m_many_flows T) (hr.mono (by decide))) pa_nil)))))))), ?_⟩
    refine ⟨_, rfl, q, _, _, _, rfl, rfl, SqL.of hq, at_of (j := 0) rfl rfl, ?_⟩
    refine ⟨_, rfl, fw, 0, 65535, rfl, _, rfl, ?_⟩
    cases hw : Sj51.isIn 0 65535 fw
    · rw [hw] at k
      exact iteT ⟨(by show 1 ≤ sizeLine; decide), fun x nx => k _ x (A0.same (Same.new nx)) (Keep.same (Same.new nx)) nx upd_same⟩
    · rw [hw, if_neg (by decide), any_look] at k
      have hw' := isIn_true.mp hw
      have ew : V.int fw = V.int (fw.toNat : Int) := by rw [Int.toNat_of_nonneg hw'.1]
      refine iteF ⟨_, rfl, a, dx, _, rfl, e1, hF_no (by decide +kernel), _, rfl, Z, a, rl, fl, h, fw.toNat, by rw [ew], A0, _, rfl, ?_⟩
      cases hx : look h.held fw.toNat with
      | none =>
        rw [hx, if_pos (show (none : Option Sj51.Held).isSome = false from rfl)] at k
        exact iteT ⟨(by show 1 ≤ sizeLine; decide), fun x nx => k _ x (A0.same (Same.new nx)) (Keep.same (Same.new nx)) nx upd_same⟩
      | some x =>
        rw [hx, if_neg (show ¬ (some x).isSome = false by simp)] at k
        refine iteF ⟨_, rfl, a, dx, _, rfl, e1, hF_no (by decide +kernel), _, rfl, Z, a, rl, fl, h, fw.toNat, by rw [ew], A0, g.nd, fun H2 A2 k2 => ?_⟩
        obtain ⟨dx', wv', c0', c1', c2', e1', _⟩ := A2.ins
        refine ⟨_, rfl, a, dx', _, rfl, e1', hF_no (by decide +kernel), Z, a, rl, fl, _, rfl, A2, (by show 1 ≤ sizeLine; decide), fun z nz => ?_⟩
        refine k _ z (A2.same (Same.new nz)) (k2.trans (Keep.same (Same.new nz))) (A2.back k2 nz) ?_
        have hl := without_len g.nd hx
        rw [upd_same]
        show some (HO.lst [V.int ((without h.held fw.toNat).length : Int)]) = some (HO.lst [V.int ((h.held.length : Int) - 1)])
        rw [show ((h.held.length : Int) - 1) = ((without h.held fw.toNat).length : Int) by omega]
theorem c_counts_said (T : Txt K mg CE CH CC) : Cal P w K mg base 8 "counts_said" (sp_housed CE CH 11) := by
  refine T.d_counts_said.cal sc_counts_said (fun vs H Q E h => ?_) (fun f cdv A outer s H vs Q E hr h => ?_)
  · obtain ⟨Z, a, rl, fl, q, h, ns, c, rfl, _⟩ := h
    rfl
  · obtain ⟨Z, a, rl, fl, q, h, ns, c, rfl, A0, g, hq, ha, k⟩ := h
    cases ha
    rw [on_counts] at k
    obtain ⟨dx, wv, c0, c1, c2, e1, ec, _⟩ := A0.ins
    obtain ⟨rs, e2, ef⟩ := A0.ready
    refine ⟨_, (pss_one (ps_ret (pe_lst (pa_cons pe_int (pa_cons (pe_fld (pv 0) rfl) (pa_cons (pe_fld (pv 0) rfl) (pa_cons (pe_fld (pv 0) rfl) (pa_cons (pe_mcal0 (pv 0) T.clH (m_many_flows T) (hr.mono (by decide))) (pa_cons (pe_callB call_len_seq (by rfl) T.n_len PySem.boot_len (pa_cons (pe_fld (pv 0) rfl) pa_nil)) pa_nil))))))))), ?_⟩
    refine ⟨_, rfl, a, CH, dx, _, _, rfl, e1, T.clH, T.noH_faulty, lk_ix (ks := hK) (j := 5) rfl (by decide +kernel) rfl, _, rfl, a, CH, dx, _, _, rfl, e1, T.clH, T.noH_good, lk_ix (ks := hK) (j := 6) rfl (by decide +kernel) rfl, _, rfl, a, CH, dx, _, _, rfl, e1, T.clH, T.noH_bad, lk_ix (ks := hK) (j := 7) rfl (by decide +kernel) rfl, ?_⟩
    refine ⟨_, rfl, a, dx, _, rfl, e1, hF_no (by decide +kernel), Z, a, rl, fl, h, rfl, A0, _, rfl, a, CH, dx, _, _, rfl, e1, T.clH, T.noH_ready, lk_ix (ks := hK) (j := 2) rfl (by decide +kernel) rfl, rl, _, rfl, .inl (SqL.of e2), (by show 6 ≤ sizeLine; decide), fun z nz => ?_⟩
    refine k _ z (A0.same (Same.new nz)) (Keep.same (Same.new nz)) nz ?_
    rw [upd_same, List.length_map, ef.len, ec]
    rfl
theorem c_message_said (T : Txt K mg CE CH CC) : Cal P w K mg base 8 "message_said" (sp_housed CE CH 12) := by
  refine T.d_message_said.cal sc_message_said (fun vs H Q E h => ?_) (fun f cdv A outer s H vs Q E hr h => ?_)
  · obtain ⟨Z, a, rl, fl, q, h, ns, c, rfl, _⟩ := h
    rfl
  · obtain ⟨Z, a, rl, fl, q, h, ns, c, rfl, A0, g, hq, ha, k⟩ := h
    cases ha
    rw [on_message] at k
    obtain ⟨dx, wv, c0, c1, c2, e1, ec, ew⟩ := A0.ins
    have lw : (hF h.size h.hops rl fl wv c0 c1 c2).lookup ("whole" : Str) = some wv := lk_ix (ks := hK) (j := 4) rfl (by decide +kernel) rfl
    refine ⟨_, (pss_cons (ps_if (pt_cmp (pc_isN (pe_fld (pv 0) rfl))) (pss_one (ps_ret (pe_lst (pa_cons (pe_gi T.c_NONE_THERE) pa_nil)))) pss_nil)
      (pss_one (ps_ret (pe_op op_cat (pe_lst (pa_cons (pe_callB call_len_seq (by rfl) T.n_len PySem.boot_len (pa_cons (pe_fld (pv 0) rfl) pa_nil)) pa_nil)) (pe_fld (pv 0) rfl))))), ?_⟩
    refine ⟨_, rfl, a, CH, dx, _, _, rfl, e1, T.clH, T.noH_whole, lw, _, rfl, ?_⟩
    cases hl : h.last with
    | none =>
      rw [hl] at k ew
      have ew' : wv = .non := ew
      subst ew'
      exact iteT ⟨(by show 1 ≤ sizeLine; decide), fun x nx => k _ x (A0.same (Same.new nx)) (Keep.same (Same.new nx)) nx upd_same⟩
    | some b =>
      rw [hl] at k ew
      obtain ⟨p, ep, dp⟩ := ew
      subst ep
      have hbl := g.last b hl
      refine iteF ⟨_, rfl, a, CH, dx, _, _, rfl, e1, T.clH, T.noH_whole, lw, p, _, rfl, .inl (SqL.of dp.2), (by show 1 ≤ sizeLine; decide), fun y ny => ?_⟩
      have s1 := Same.new (o := HO.lst [V.int ((vb b).length : Int)]) ny
      refine ⟨_, rfl, a, CH, dx, _, _, rfl, s1 _ _ e1, T.clH, T.noH_whole, lw, y, p, _, _, rfl, rfl, upd_same, s1 _ _ dp.2, by rw [vb_len]; exact size_ok (by show 1 + _ ≤ _; omega), fun z nz => ?_⟩
      have s2 := s1.trans (Same.new (o := HO.lst ([V.int ((vb b).length : Int)] ++ vb b)) nz)
      refine k _ z (A0.same s2) (Keep.same s2) (s1.free nz) ?_
      rw [upd_same, vb_len, vb_vi]
      rfl
end
end FC

/-! Framecard: frames.py walked. -/
namespace FC
open PySem PySem.Spec PyProof.Rows L2
/-! ### a call of a local name that holds a def: whichever keeps a promise -/
def tCallH (P : Program) (w : World) (K : PySem.W.Frag) (mg : Str → Option Value) (base : Heap) (k i : Nat) (t : TA) : TE := fun σ H Q => ∃ f sp, σ[i]? = some (some (.ref f)) ∧ L2.Held P w K mg base k f sp ∧ t σ H fun vs H1 => sp vs H1 Q (fun _ _ _ => False)
section
variable {X : Cx} {k i : Nat} {x : Str} {p pos : Pos} {e : Expr} {es : List Expr} {t : TA}
theorem pe_gr {d : Addr} (h : X.mg x = some (.ref d)) (hg : Gl X x := by rfl) (hd : (x == ("__debug__" : Str)) = false := by decide) : PE X (.Name x p) (tC (.ref d)) := pe_glob hg h rfl hd
theorem pe_callH (hr : Room k X.A) (hN : X.N[i]? = some x) (hv : Vis X.env.scope x) (ha : PA X (e :: es) t)
    (hdb : (x == ("__debug__" : Str)) = false := by decide) (hcd : (x == ("__classdict__" : Str)) = false := by decide)
    (he : starEach (e :: es) X.env = (false, eval e X.env) :: starEach es X.env := by rfl) (hpl : (backTo pos (starEach es X.env)).any (·.1) = false := by rfl) : PE X (.Call (.Name x p) (e :: es) [] pos) (tCallH X.prog X.w X.K X.mg X.base k i t) := by
  refine ⟨fun pins s σ H Q I h => ?_⟩
  obtain ⟨f, sp, hs, hS, ht⟩ := h
  obtain ⟨fd, ps, F, hk, hb⟩ := hS.ex
  refine (pe_callL (i := i) (f := f) (sp := sp) (dvs := []) (E := fun _ _ _ => False) F hr hN hv hk hb .nil (fun _ _ _ _ _ _ _ z => z.elim) ha hdb hcd he hpl).run pins s σ H Q I ⟨hs, ?_⟩
  show t σ H (fun vs H1 => sp (vs ++ []) H1 Q (fun _ _ _ => False))
  simp only [List.append_nil]
  exact ht
end
theorem Cal.held {P : Program} {w : World} {K : PySem.W.Frag} {mg : Str → Option Value} {base : Heap} {k : Nat} {x : Str} {sp : Sp} {f : Addr} (c : Cal P w K mg base k x sp) (m : mg x = some (.ref f)) : L2.Held P w K mg base k f sp := by
  obtain ⟨f', fd, ps, F, hm, hk, hb⟩ := c.ex
  rw [m] at hm
  cases hm
  exact ⟨fd, ps, F, hk, hb⟩
/-! ### how a card lies in the heap -/
def cF (v : V) : List (Str × V) := [("house", v)]
def cK : List Str := ["house"]
/-- a card at c, with a house or none; S: its own cells; Z: cells that are none of its data -/
def CardAt (CE CH CC : Addr) (Z : List Addr) (H : Hp) (c : Addr) (S : List Addr) : Sj51.State → Prop
  | none => (∀ z ∈ Z, H z ≠ none) ∧ (∃ dx, H c = some (.ins CC dx (cF .non))) ∧ S = [c]
  | some h => ∃ dx a rl fl, H c = some (.ins CC dx (cF (.ref a))) ∧ HouseAt CE CH Z H a rl fl h ∧ S = [c, a, rl, fl]
theorem card_ne {CE CH CC : Addr} {Z : List Addr} {H : Hp} {c dx a rl fl : Addr} {v : V} {h : Sj51.House} (e : H c = some (.ins CC dx (cF v))) (A : HouseAt CE CH Z H a rl fl h) : c ∉ [a, rl, fl] := fun m => by
  obtain ⟨_, _, _, _, _, e1, _⟩ := A.ins
  obtain ⟨_, e2, _⟩ := A.ready
  obtain ⟨_, e3, _⟩ := A.flows
  rcases List.mem_cons.mp m with z | m
  · rw [z, e1] at e
    have e' := HO.ins.inj (Option.some.inj e)
    have := congrArg List.length e'.2.2
    cases this
  rcases List.mem_cons.mp m with z | m
  · rw [z, e2] at e; cases e
  · rw [List.mem_singleton.mp m, e3] at e; cases e
section
variable {CE CH CC : Addr} {Z : List Addr} {H H' : Hp} {c : Addr} {S : List Addr} {st : Sj51.State}
theorem CardAt.there (A : CardAt CE CH CC Z H c S st) : ∀ x ∈ S, H x ≠ none := by
  cases st with
  | none =>
    obtain ⟨_, ⟨dx, e⟩, rfl⟩ := A
    intro x m
    rw [List.mem_singleton.mp m, e]
    exact fun q => nomatch q
  | some h =>
    obtain ⟨dx, a, rl, fl, e, A, rfl⟩ := A
    intro x m
    rcases List.mem_cons.mp m with z | m
    · rw [z, e]
      exact fun q => nomatch q
    · exact A.there x m
theorem CardAt.ins (A : CardAt CE CH CC Z H c S st) : ∃ dx v, H c = some (.ins CC dx (cF v)) := by
  cases st with
  | none =>
    obtain ⟨_, ⟨dx, e⟩, rfl⟩ := A
    exact ⟨dx, _, e⟩
  | some h =>
    obtain ⟨dx, a, rl, fl, e, A, rfl⟩ := A
    exact ⟨dx, _, e⟩
theorem CardAt.cS (A : CardAt CE CH CC Z H c S st) : c ∈ S := by
  cases st with
  | none =>
    obtain ⟨_, _, rfl⟩ := A
    simp
  | some h =>
    obtain ⟨dx, a, rl, fl, e, A, rfl⟩ := A
    simp
theorem CardAt.zs (A : CardAt CE CH CC Z H c S st) : ∀ z ∈ Z, H z ≠ none := by
  cases st with
  | none => exact A.1
  | some h =>
    obtain ⟨dx, a, rl, fl, e, A, rfl⟩ := A
    exact A.zs
theorem CardAt.same (A : CardAt CE CH CC Z H c S st) (s : Same H H') : CardAt CE CH CC Z H' c S st := by
  cases st with
  | none =>
    obtain ⟨z, ⟨dx, e⟩, rfl⟩ := A
    exact ⟨fun x m => Same.there s (z x m), ⟨dx, s _ _ e⟩, rfl⟩
  | some h =>
    obtain ⟨dx, a, rl, fl, e, A, rfl⟩ := A
    exact ⟨dx, a, rl, fl, s _ _ e, A.same s, rfl⟩
theorem CardAt.new (A : CardAt CE CH CC Z H c S st) {p : Addr} (hp : H p = none) : p ∉ S := fun m => A.there p m hp
/-- a foreign cell is changed -/
theorem CardAt.foreign (A : CardAt CE CH CC Z H c S st) {x : Addr} {o : HO} (hz : x ∈ Z) (hn : x ∉ S) : CardAt CE CH CC Z (upd H x o) c S st := by
  cases st with
  | none =>
    obtain ⟨z, ⟨dx, e⟩, rfl⟩ := A
    exact ⟨fun y m => upd_there (z y m), ⟨dx, by rw [upd_ne (fun q => hn (by rw [q]; simp))]; exact e⟩, rfl⟩
  | some h =>
    obtain ⟨dx, a, rl, fl, e, A, rfl⟩ := A
    obtain ⟨dh, wv, c0, c1, c2, e1, ec, ew⟩ := A.ins
    obtain ⟨ps, e2, ef⟩ := A.ready
    obtain ⟨kvs, e3, ek⟩ := A.flows
    have k : Keep (a :: rl :: fl :: Z) H (upd H x o) := Keep.upd (by simp [hz])
    have n1 : c ≠ x := fun q => hn (by rw [← q]; simp)
    have n2 : a ≠ x := fun q => hn (by rw [← q]; simp)
    have n3 : rl ≠ x := fun q => hn (by rw [← q]; simp)
    have n4 : fl ≠ x := fun q => hn (by rw [← q]; simp)
    exact ⟨dx, a, rl, fl, by rw [upd_ne n1]; exact e, ⟨⟨dh, wv, c0, c1, c2, by rw [upd_ne n2]; exact e1, ec, ew.keepS k⟩, ⟨ps, by rw [upd_ne n3]; exact e2, ef.keepS k⟩, ⟨kvs, by rw [upd_ne n4]; exact e3, ek.keepS k⟩, fun y m => upd_there (A.zs y m)⟩, rfl⟩
end
/-! ### the promises -/
section
variable (CE CH CC : Addr)
/-- what is wanted behind a call on a card -/
def Told (H : Hp) (Q : VK) (Z : List Addr) (c : Addr) (S : List Addr) (st : Sj51.State) (q : Sj51.Call) : Prop :=
  ∀ H' S' r, CardAt CE CH CC Z H' c S' (Sj51.step st q).1 → Keep S H H' → (∀ x ∈ S', x ∈ S ∨ H x = none) → H r = none → r ∉ S' → H' r = some (.lst (vi (said (Sj51.step st q).2))) → Q (.ref r) H'
def sp_Card_init : Sp := fun vs H Q _ => ∃ (p dx : Addr), vs = [.ref p] ∧ H p = some (.ins CC dx []) ∧ Q .non (upd H p (.ins CC dx (cF .non)))
def sp_opened : Sp := fun vs H Q _ => ∃ (Z : List Addr) (c q : Addr) (S : List Addr) (st : Sj51.State) (m t : Int), vs = [.ref c, .ref q] ∧ CardAt CE CH CC Z H c S st ∧ H q = some (.lst (vi [m, t])) ∧ Told CE CH CC H Q Z c S st (.open_ m t)
def sp_told : Sp := fun vs H Q _ => ∃ (Z : List Addr) (c q : Addr) (S : List Addr) (st : Sj51.State) (p : Int) (ns : List Int) (cl : Sj51.Call), vs = [.ref c, .int p, .ref q] ∧ CardAt CE CH CC Z H c S st ∧ GoodS st ∧ H q = some (.lst (vi ns)) ∧ Asked p ns cl ∧ Told CE CH CC H Q Z c S st cl
end
/-- the calls as tuples: each a number and a list -/
def Tups (A : Addr → Prop) (H : Hp) : List Addr → List (Int × List Int) → Prop
  | [], [] => True
  | t :: r, c :: q => (A t ∧ ∃ x, A x ∧ H t = some (.tup [.int c.1, .ref x]) ∧ H x = some (.lst (vi c.2))) ∧ Tups A H r q
  | _, _ => False
theorem Tups.keep {A B : Addr → Prop} {H H' : Hp} (k : ∀ b o, A b → H b = some o → H' b = some o ∧ B b) : ∀ {ts : List Addr} {cs : List (Int × List Int)}, Tups A H ts cs → Tups B H' ts cs
  | [], [], _ => trivial
  | _ :: _, _ :: _, ⟨⟨a, x, b, e1, e2⟩, r⟩ => ⟨⟨(k _ _ a e1).2, x, (k _ _ b e2).2, (k _ _ a e1).1, (k _ _ b e2).1⟩, Tups.keep k r⟩
theorem Tups.app {A : Addr → Prop} {H : Hp} : ∀ {ts us : List Addr} {cs ds : List (Int × List Int)}, Tups A H ts cs → Tups A H us ds → Tups A H (ts ++ us) (cs ++ ds)
  | [], _, [], _, _, b => b
  | _ :: _, _, _ :: _, _, ⟨a, c⟩, b => ⟨a, Tups.app c b⟩
theorem Tups.len {A : Addr → Prop} {H : Hp} : ∀ {ts : List Addr} {cs : List (Int × List Int)}, Tups A H ts cs → ts.length = cs.length
  | [], [], _ => rfl
  | _ :: _, _ :: _, ⟨_, b⟩ => congrArg (· + 1) (Tups.len b)
theorem Tups.at {A : Addr → Prop} {H : Hp} : ∀ {ts : List Addr} {cs : List (Int × List Int)} {i : Nat} {t : Addr}, Tups A H ts cs → ts[i]? = some t → ∃ c, cs[i]? = some c ∧ A t ∧ ∃ x, A x ∧ H t = some (.tup [.int c.1, .ref x]) ∧ H x = some (.lst (vi c.2))
  | [], [], i, t, _, h => by simp at h
  | t :: _, c :: _, 0, u, ⟨a, _⟩, h => by
    have e : t = u := Option.some.inj h
    subst e
    exact ⟨c, rfl, a⟩
  | _ :: _, _ :: _, i + 1, t, ⟨_, b⟩, h => Tups.at (i := i) b h
def sp_calls_in (K : PySem.W.Frag) : Sp := fun vs H Q _ => ∃ (a : Addr) (cs : List (Int × List Int)), vs = [.ref a] ∧ SqL K H a (vi (flat cs)) ∧ (flat cs).length ≤ 30000 ∧
  ∀ H' L ts, Same H H' → H L = none → H' L = some (.lst (ts.map V.ref)) → Tups (fun y => H y = none) H' ts cs → Q (.ref L) H'
def sp_answers (K : PySem.W.Frag) : Sp := fun vs H Q _ => ∃ (a : Addr) (ns : List Int), vs = [.ref a] ∧ SqL K H a (ns.map V.int) ∧ ns.length ≤ 30000 ∧ PySj51.answers_asked ns = true ∧
  ∀ (H' : Hp) (p : Addr), H' p = some (.lst ((PySj51.answers ns).map V.int)) → Q (.ref p) H'
section
variable {P : Program} {w : World} {K : PySem.W.Frag} {mg : Str → Option Value} {base : Heap} {CE CH CC : Addr}
theorem k_Card_init (T : Txt K mg CE CH CC) : ICal P w K mg base 1 "Card" CC (sp_Card_init CC) := by
  refine T.i_Card_init.cal T.mgC sc_Card_init (fun vs H Q E h => ?_) (fun f cdv A outer s H vs Q E hr h => ?_)
  · obtain ⟨p, dx, rfl, _⟩ := h
    rfl
  · obtain ⟨p, dx, rfl, hp, k⟩ := h
    refine ⟨_, (pss_one (ps_fld (pv 0) pe_non rfl)), ?_⟩
    exact ⟨_, rfl, p, CC, dx, [], rfl, hp, T.clC, T.noC_house, (by show 0 < 1000; decide), k⟩
theorem m_opened (T : Txt K mg CE CH CC) : MCal P w K mg base 4 CC "opened" (sp_opened CE CH CC) := by
  refine T.m_opened.cal sc_opened (fun vs H Q E h => ?_) (fun f cdv A outer s H vs Q E hr h => ?_)
  · obtain ⟨Z, c, q, S, st, m, t, rfl, _⟩ := h
    rfl
  · obtain ⟨Z, c, q, S, st, m, t, rfl, A0, hq, k⟩ := h
    unfold Told at k
    rw [step_open] at k
    refine ⟨_, (pss_cons (ps_if (pt_not (pt_val (pe_cal (c_may_open T) (hr.mono (by decide)) (pa_cons (pv 1) pa_nil)))) (pss_one (ps_ret (pe_lst (pa_cons (pe_gi T.c_NOT_AS_TOLD) pa_nil)))) pss_nil)
      (pss_cons (ps_fld (pv 0) (pe_cal (c_house_of T) (hr.mono (by decide)) (pa_cons (pv 1) pa_nil)) rfl)
      (pss_one (ps_ret (pe_lst (pa_cons pe_int pa_nil)))))), ?_⟩
    refine ⟨_, rfl, q, m, t, rfl, hq, _, rfl, ?_⟩
    rw [show (!Sj51.isIn 16 1024 m || !Sj51.isIn 0 255 t) = !(Sj51.isIn 16 1024 m && Sj51.isIn 0 255 t) by cases Sj51.isIn 16 1024 m <;> cases Sj51.isIn 0 255 t <;> rfl] at k
    cases hc : (Sj51.isIn 16 1024 m && Sj51.isIn 0 255 t)
    · rw [hc] at k
      refine iteT ⟨(by show 1 ≤ sizeLine; decide), fun x nx => ?_⟩
      exact k _ S x (A0.same (Same.new nx)) (Keep.same (Same.new nx)) (fun y m => .inl m) nx (A0.new nx) upd_same
    · rw [hc, if_neg (by decide)] at k
      rw [Bool.and_eq_true] at hc
      have h1 := isIn_true.mp hc.1
      have h2 := isIn_true.mp hc.2
      obtain ⟨dx, v, ec⟩ := A0.ins
      refine iteF ⟨_, rfl, Z, q, m, t, rfl, hq, by omega, by omega, A0.zs, fun H1 a rl fl A1 s1 na nr nf => ?_⟩
      refine ⟨_, rfl, c, CC, dx, _, rfl, s1 _ _ ec, T.clC, T.noC_house, (by show 1 < 1000; decide), ?_⟩
      rw [put_ix (ks := cK) (j := 0) rfl (by decide +kernel)]
      refine ⟨(by show 1 ≤ sizeLine; decide), fun x nx => ?_⟩
      obtain ⟨dh, wv, c0, c1, c2, e1, ecn, ew⟩ := A1.ins
      obtain ⟨ps, e2, ef⟩ := A1.ready
      obtain ⟨kvs, e3, ek⟩ := A1.flows
      have n1 : a ≠ c := Ne.symm (ne_of_none ec na)
      have n2 : rl ≠ c := Ne.symm (ne_of_none ec nr)
      have n3 : fl ≠ c := Ne.symm (ne_of_none ec nf)
      have A2 : CardAt CE CH CC Z (upd H1 c (.ins CC dx ((cF v).set 0 ("house", .ref a)))) c [c, a, rl, fl] (some ⟨m.toNat, t.toNat, [], [], List.replicate 3 0, none⟩) := by
        refine ⟨dx, a, rl, fl, upd_same, ⟨⟨dh, wv, c0, c1, c2, by rw [upd_ne n1]; exact e1, ecn, ew⟩, ⟨ps, by rw [upd_ne n2]; exact e2, ?_⟩, ⟨kvs, by rw [upd_ne n3]; exact e3, ek.nd, ek.len, ek.no, fun _ _ e => (nomatch e)⟩, fun z m => upd_there (A1.zs z m)⟩, rfl⟩
        cases ps with
        | nil => trivial
        | cons y r => exact ef.elim
      have kc : Keep S H1 (upd H1 c (.ins CC dx ((cF v).set 0 ("house", .ref a)))) := Keep.upd A0.cS
      have nx0 : H x = none := by
        cases e : H x with
        | none => rfl
        | some o =>
          by_cases hx : x = c
          · rw [hx, upd_same] at nx
            cases nx
          · rw [upd_ne hx, s1 _ _ e] at nx
            cases nx
      refine k _ [c, a, rl, fl] x (A2.same (Same.new nx)) ((Keep.same s1).trans (kc.trans (Keep.same (Same.new nx)))) (fun y m => ?_) nx0 (A2.new nx) upd_same
      rcases List.mem_cons.mp m with z | m
      · rw [z]
        exact .inl A0.cS
      rcases List.mem_cons.mp m with z | m
      · rw [z]
        exact .inr na
      rcases List.mem_cons.mp m with z | m
      · rw [z]
        exact .inr nr
      · rw [List.mem_singleton.mp m]
        exact .inr nf
/-- which deed a call's number finds -/
theorem deed_of (T : Txt K mg CE CH CC) {f2 f3 f6 f7 f4 f5 f8 f9 f10 f11 f12 : Addr} (g2 : mg "sum_said" = some (.ref f2)) (g3 : mg "crc_said" = some (.ref f3)) (g6 : mg "check_said" = some (.ref f6)) (g7 : mg "pass_said" = some (.ref f7))
    (g4 : mg "cut_said" = some (.ref f4)) (g5 : mg "next_said" = some (.ref f5)) (g8 : mg "join_said" = some (.ref f8)) (g9 : mg "held_said" = some (.ref f9)) (g10 : mg "drop_said" = some (.ref f10)) (g11 : mg "counts_said" = some (.ref f11)) (g12 : mg "message_said" = some (.ref f12))
    {p : Int} {ns : List Int} {cl : Sj51.Call} (a : Asked p ns cl) :
    (p = 1 ∧ ∃ m t, ns = [m, t] ∧ cl = .open_ m t) ∨
    (p ≠ 1 ∧ ∃ (f : Addr) (s : Sj51.Ans), ([(2, f2), (3, f3), (6, f6), (7, f7)] : List (Int × Addr)).lookup p = some f ∧ L2.Held P w K mg base 8 f (sp_bare p) ∧ Sj51.free cl = some s) ∨
    (p ≠ 1 ∧ ([(2, f2), (3, f3), (6, f6), (7, f7)] : List (Int × Addr)).lookup p = none ∧ needs cl = true ∧ ∃ f : Addr, ([(4, f4), (5, f5), (8, f8), (9, f9), (10, f10), (11, f11), (12, f12)] : List (Int × Addr)).lookup p = some f ∧ L2.Held P w K mg base 8 f (sp_housed CE CH p)) := by
  cases a with
  | open_ m t => exact .inl ⟨rfl, m, t, rfl, rfl⟩
  | sum n r h => exact .inr (.inl ⟨by decide, f2, _, rfl, (c_sum_said T).held g2, rfl⟩)
  | crc n r h => exact .inr (.inl ⟨by decide, f3, _, rfl, (c_crc_said T).held g3, rfl⟩)
  | check n r h => exact .inr (.inl ⟨by decide, f6, _, rfl, (c_check_said T).held g6, rfl⟩)
  | pass n r h => exact .inr (.inl ⟨by decide, f7, _, rfl, (c_pass_said T).held g7, rfl⟩)
  | cut fw pl n r h0 h1 h => exact .inr (.inr ⟨by decide, rfl, rfl, f4, rfl, (c_cut_said T).held g4⟩)
  | next => exact .inr (.inr ⟨by decide, rfl, rfl, f5, rfl, (c_next_said T).held g5⟩)
  | join n r h => exact .inr (.inr ⟨by decide, rfl, rfl, f8, rfl, (c_join_said T).held g8⟩)
  | held fw => exact .inr (.inr ⟨by decide, rfl, rfl, f9, rfl, (c_held_said T).held g9⟩)
  | drop fw => exact .inr (.inr ⟨by decide, rfl, rfl, f10, rfl, (c_drop_said T).held g10⟩)
  | counts => exact .inr (.inr ⟨by decide, rfl, rfl, f11, rfl, (c_counts_said T).held g11⟩)
  | message => exact .inr (.inr ⟨by decide, rfl, rfl, f12, rfl, (c_message_said T).held g12⟩)
theorem m_told (T : Txt K mg CE CH CC) : MCal P w K mg base 9 CC "told" (sp_told CE CH CC) := by
  obtain ⟨dB, f2, f3, f6, f7, tb_BARE, g2, g3, g6, g7⟩ := T.t_BARE
  obtain ⟨dH, f4, f5, f8, f9, f10, f11, f12, tb_HOUSED, g4, g5, g8, g9, g10, g11, g12⟩ := T.t_HOUSED
  refine T.m_told.cal sc_told (fun vs H Q E h => ?_) (fun f cdv A outer s H vs Q E hr h => ?_)
  · obtain ⟨Z, c, q, S, st, p, ns, cl, rfl, _⟩ := h
    rfl
  · obtain ⟨Z, c, q, S, st, p, ns, cl, rfl, A0, g, hq, ha, k⟩ := h
    refine ⟨_, (pss_cons (ps_if (pt_cmpR op_eq (pv 1) (pe_gi T.c_OPEN) (nomark _)) (pss_one (ps_ret (pe_mcal (pv 0) T.clC (m_opened T) (hr.mono (by decide)) (pa_cons (pv 2) pa_nil)))) pss_nil)
      (pss_cons (ps_if (pt_cmp (pc_kin tb_BARE (pv 1) (pe_gr tb_BARE.mg)) (by rfl)) (pss_cons (ps_set (i := 3) sc_told.nd rfl (Or.inl rfl) (pe_kget tb_BARE (pe_gr tb_BARE.mg) (pv 1) (fun _ _ => rfl)))
      (pss_one (ps_ret (pe_callH (k := 8) (i := 3) (hr.mono (by decide)) rfl (Or.inl rfl) (pa_cons (pv 2) pa_nil))))) pss_nil)
      (pss_cons (ps_if (pt_cmp (pc_isN (pe_fld (pv 0) rfl))) (pss_one (ps_ret (pe_lst (pa_cons (pe_gi T.c_NO_HOUSE) pa_nil)))) pss_nil)
      (pss_cons (ps_set (i := 4) sc_told.nd rfl (Or.inl rfl) (pe_kget tb_HOUSED (pe_gr tb_HOUSED.mg) (pv 1) (fun _ _ => rfl)))
      (pss_one (ps_ret (pe_callH (k := 8) (i := 4) (hr.mono (by decide)) rfl (Or.inl rfl) (pa_cons (pe_fld (pv 0) rfl) (pa_cons (pv 2) pa_nil))))))))), ?_⟩
    refine ⟨_, rfl, rfl, _, rfl, ?_⟩
    rcases deed_of (P := P) (w := w) (base := base) T g2 g3 g6 g7 g4 g5 g8 g9 g10 g11 g12 ha with ⟨rfl, m, t, rfl, rfl⟩ | ⟨np, fb, a, hl, hd, hf⟩ | ⟨np, hl, hn, fh, hl2, hd⟩
    · obtain ⟨dx, v, ec⟩ := A0.ins
      refine iteP (decide_eq_true rfl) ?_
      exact ⟨_, rfl, c, dx, _, rfl, ec, lk_no (ks := cK) rfl (by decide +kernel), _, rfl, Z, c, q, S, st, m, t, rfl, A0, hq, k⟩
    · refine iteM (decide_eq_false fun z => np (V.int.inj z)) ?_
      refine ⟨_, rfl, p, rfl, rfl, _, rfl, ?_⟩
      rw [hl]
      refine iteT ⟨_, rfl, p, fb, rfl, rfl, hl, ?_⟩
      refine ⟨fb, _, rfl, hd, _, rfl, q, ns, cl, a, rfl, hq, ha, hf, fun H' r s1 nr er => ?_⟩
      unfold Told at k
      rw [step_free hf] at k
      exact k H' S r (A0.same s1) (Keep.same s1) (fun y m => .inl m) nr (A0.new nr) er
    · refine iteM (decide_eq_false fun z => np (V.int.inj z)) ?_
      refine ⟨_, rfl, p, rfl, rfl, _, rfl, ?_⟩
      rw [hl]
      refine iteF ?_
      cases st with
      | none =>
        obtain ⟨hz, ⟨dx, ec⟩, eS⟩ := id A0
        unfold Told at k
        rw [step_none hn] at k
        refine ⟨_, rfl, c, CC, dx, _, _, rfl, ec, T.clC, T.noC_house, lk_ix (ks := cK) (j := 0) rfl (by decide +kernel) rfl, _, rfl, ?_⟩
        refine iteP (decide_eq_true rfl) ⟨(by show 1 ≤ sizeLine; decide), fun x nx => ?_⟩
        exact k _ S x (A0.same (Same.new nx)) (Keep.same (Same.new nx)) (fun y m => .inl m) nx (A0.new nx) upd_same
      | some h =>
        obtain ⟨dx, a, rl, fl, ec, A1, eS⟩ := id A0
        unfold Told at k
        rw [step_some hn] at k
        have lh : (cF (V.ref a)).lookup ("house" : Str) = some (.ref a) := lk_ix (ks := cK) (j := 0) rfl (by decide +kernel) rfl
        refine ⟨_, rfl, c, CC, dx, _, _, rfl, ec, T.clC, T.noC_house, lh, _, rfl, ?_⟩
        refine iteM (decide_eq_false fun z => (nomatch z)) ?_
        refine ⟨_, rfl, p, fh, rfl, rfl, hl2, ?_⟩
        refine ⟨fh, _, rfl, hd, _, rfl, c, CC, dx, _, _, rfl, ec, T.clC, T.noC_house, lh, _, rfl, Z, a, rl, fl, q, h, ns, cl, rfl, A1, g, hq, ha, fun H' r A2 k2 nr er => ?_⟩
        have ec2 := k2 _ _ ec (card_ne ec A1)
        have A3 : CardAt CE CH CC Z H' c [c, a, rl, fl] (some (Sj51.on h cl).1) := ⟨dx, a, rl, fl, ec2, A2, rfl⟩
        subst eS
        refine k H' [c, a, rl, fl] r A3 (fun b o e n => k2 b o e fun m => n (List.mem_cons_of_mem _ m)) (fun y m => .inl m) nr (A0.new nr) er
theorem vi_app (a b : List Int) : vi (a ++ b) = vi a ++ vi b := List.map_append
theorem c_calls_in (T : Txt K mg CE CH CC) : Cal P w K mg base 1 "calls_in" (sp_calls_in K) := by
  refine T.d_calls_in.cal sc_calls_in (fun vs H Q E h => ?_) (fun f cdv A outer s H vs Q E hr h => ?_)
  · obtain ⟨a, cs, rfl, _⟩ := h
    rfl
  · obtain ⟨a, cs, rfl, ha, hl, k⟩ := h
    refine ⟨_, (pss_cons (ps_set (i := 1) sc_calls_in.nd rfl (Or.inl rfl) (pe_lst pa_nil))
      (pss_cons (ps_set (i := 2) sc_calls_in.nd rfl (Or.inl rfl) pe_int)
      (pss_cons (ps_while PassesOwn.never (pt_cmpR op_lt (pv 2) (pe_callB call_len_seq (by rfl) T.n_len PySem.boot_len (pa_cons (pv 0) pa_nil)) (nomark _)) (pss_cons (ps_set (i := 3) sc_calls_in.nd rfl (Or.inl rfl) (pe_op op_add (pv 2) pe_int))
      (pss_cons (ps_set (i := 4) sc_calls_in.nd rfl (Or.inl rfl) (pe_op op_add (pv 3) (pe_ix ix_list (pv 0) (pe_op op_add (pv 2) pe_int) (fun _ _ => rfl))))
      (pss_cons (ps_expr (pe_bm PySem.F.plainAttrs_list PySem.F.slot_list_append PySem.F.type_list_append mt_append (pv 1) (pa_cons (pe_tup (pa_cons (pe_ix ix_list (pv 0) (pv 2) (fun _ _ => rfl)) (pa_cons (pe_slice sl_list (pv 0) (po_some (pv 3)) (po_some (pv 4))) pa_nil))) pa_nil)))
      (pss_one (ps_set (i := 2) sc_calls_in.nd rfl (Or.inl rfl) (pe_op op_add (pv 4) pe_int)))))))
      (pss_one (ps_ret (pv 1)))))), ?_⟩
    refine ⟨Nat.zero_le _, fun L nL => ?_⟩
    refine while_by (fun σ H' => ∃ (x3 x4 : Option V) (done rest : List (Int × List Int)) (ts : List Addr), σ = [some (.ref a), some (.ref L), some (.int ((flat done).length : Int)), x3, x4] ∧ cs = done ++ rest ∧ Same H H' ∧
        H' L = some (.lst (ts.map V.ref)) ∧ Tups (fun y => H y = none ∧ y ≠ L) H' ts done)
      (fun σ _ => match σ with | [_, _, some (.int m), _, _] => 30000 - m.toNat | _ => 0) ?_ ?_ ?_
    · exact ⟨none, none, [], cs, [], rfl, rfl, Same.new nL, upd_same, trivial⟩
    · rintro σ H' ⟨x3, x4, done, rest, ts, rfl, ecs, s1, hL, hT⟩
      refine ⟨_, rfl, _, rfl, a, _, rfl, .inl (s1.seq ha), _, _, rfl, rfl, _, rfl, ?_⟩
      have efl : flat cs = flat done ++ flat rest := by rw [ecs, flat_app]
      have elen : (vi (flat cs)).length = (flat done).length + (flat rest).length := by rw [vi_len, efl, List.length_append]
      cases rest with
      | nil =>
        refine iteM (decide_eq_false ?_) ?_
        · rw [elen]
          show ¬ ((flat done).length : Int) < (((flat done).length + 0 : Nat) : Int)
          omega
        rw [List.append_nil] at ecs
        subst ecs
        exact ⟨_, rfl, k H' L ts s1 nL hL (hT.keep fun b o h1 h2 => ⟨h2, h1.1⟩)⟩
      | cons c r =>
        have hfl := flat_len_cons c r
        have get0 : (vi (flat cs))[(flat done).length]? = some (.int c.1) := by
          unfold vi
          rw [List.getElem?_map, efl, List.getElem?_append_right (Nat.le_refl _), Nat.sub_self]
          rfl
        have get1 : (vi (flat cs))[(flat done).length + 1]? = some (.int (c.2.length : Int)) := by
          unfold vi
          rw [List.getElem?_map, efl, List.getElem?_append_right (by omega), show (flat done).length + 1 - (flat done).length = 1 by omega]
          rfl
        have cut2 : cutV (vi (flat cs)) (some (((flat done).length : Int) + 2)) (some (((flat done).length : Int) + 2 + (c.2.length : Int))) = vi c.2 := by
          rw [show ((flat done).length : Int) + 2 + (c.2.length : Int) = (((flat done).length + 2 + c.2.length : Nat) : Int) by omega, show ((flat done).length : Int) + 2 = (((flat done).length + 2 : Nat) : Int) by omega, cut_mid, vi_drop, vi_take, efl, List.drop_append, List.drop_eq_nil_of_le (show (flat done).length ≤ (flat done).length + 2 by omega), List.nil_append]
          rw [show (flat done).length + 2 - (flat done).length = 2 by omega, show (flat done).length + 2 + c.2.length - ((flat done).length + 2) = c.2.length by omega]
          show vi ((c.2 ++ 0 :: flat r).take c.2.length) = vi c.2
          rw [List.take_left]
        refine iteP (decide_eq_true ?_) ?_
        · rw [elen]
          omega
        refine ⟨_, rfl, _, _, rfl, rfl, ?_⟩
        refine ⟨_, rfl, _, rfl, _, rfl, _, _, rfl, rfl, a, _, _, _, rfl, rfl, s1.seq ha, at_of (j := (flat done).length + 1) (by omega) get1, _, _, rfl, rfl, ?_⟩
        refine ⟨_, rfl, .inl ⟨rfl, _, SqL.of hL⟩, _, rfl, _, rfl, a, _, _, _, rfl, rfl, s1.seq ha, at_of (j := (flat done).length) rfl get0, _, rfl, _, rfl, _, rfl, _, rfl, _, rfl, a, _, rfl, s1.seq ha, fun x nx => ?_⟩
        rw [cut2]
        have s2 := Same.new (o := HO.lst (vi c.2)) nx
        refine ⟨(by show 2 ≤ sizeLine; decide), fun t nt => ?_⟩
        have s3 := Same.new (o := HO.tup [V.int c.1, V.ref x]) nt
        have hL3 := s3 _ _ (s2 _ _ hL)
        have hlts := hT.len
        have hdl := flat_ge done
        have hfd : (flat done).length ≤ 30000 := by
          rw [efl, List.length_append] at hl
          omega
        have hx0 : H x = none := s1.free nx
        have ht0 : H t = none := s1.free (s2.free nt)
        have nxL : x ≠ L := Ne.symm (ne_of_none hL nx)
        have ntL : t ≠ L := Ne.symm (ne_of_none (s2 _ _ hL) nt)
        have nxt : x ≠ t := ne_of_none upd_same nt
        refine ⟨L, _, _, rfl, rfl, hL3, by rw [List.length_map, hlts]; exact size_lt (by omega), ?_⟩
        refine ⟨_, rfl, _, _, rfl, rfl, ?_⟩
        have e1 : ((flat done).length : Int) + 2 + (c.2.length : Int) + 1 = ((flat (done ++ [c])).length : Int) := by
          rw [flat_app, List.length_append, flat_len_cons]
          show _ = (((flat done).length + (c.2.length + 3 + 0) : Nat) : Int)
          omega
        have kL : ∀ b o, (H b = none ∧ b ≠ L) → H' b = some o → upd (upd (upd H' x (.lst (vi c.2))) t (.tup [V.int c.1, V.ref x])) L (.lst (ts.map V.ref ++ [V.ref t])) b = some o ∧ (H b = none ∧ b ≠ L) := fun b o hb e => by
          rw [upd_ne hb.2]
          exact ⟨s3 _ _ (s2 _ _ e), hb⟩
        refine ⟨⟨_, _, done ++ [c], r, ts ++ [t], congrArg (fun z : Int => [some (V.ref a), some (V.ref L), some (V.int z), _, _]) e1, ?_, ?_, ?_, ?_⟩, ?_⟩
        · rw [ecs, List.append_assoc]
          rfl
        · intro b o e
          rw [upd_ne (ne_of_none e nL)]
          exact s3 _ _ (s2 _ _ (s1 _ _ e))
        · rw [upd_same, List.map_append]
          rfl
        · refine (hT.keep kL).app ⟨⟨⟨ht0, ntL⟩, x, ⟨hx0, nxL⟩, ?_, ?_⟩, trivial⟩
          · rw [upd_ne ntL, upd_same]
          · rw [upd_ne nxL, upd_ne nxt, upd_same]
        · show 30000 - (((flat done).length : Int) + 2 + (c.2.length : Int) + 1).toNat < 30000 - (((flat done).length : Nat) : Int).toNat
          have : (flat done).length < 30000 := by
            rw [efl, List.length_append, hfl] at hl
            omega
          omega
    · intro σ H' Q Q' hq h
      obtain ⟨v, e, v2, e2, p, ys, e3, e4, i, j, e5, e6, c, ec, q⟩ := h
      exact ⟨v, e, v2, e2, p, ys, e3, e4, i, j, e5, e6, c, ec, hq _ _ q⟩
end
end FC

/-! Framecard: answers walked. -/
namespace FC
open PySem PySem.Spec PyProof.Rows L2
theorem drop_at {α : Type} {l : List α} {i : Nat} {x : α} (h : l[i]? = some x) : l.drop i = x :: l.drop (i + 1) := by
  obtain ⟨hi, e⟩ := List.getElem?_eq_some_iff.mp h
  rw [List.drop_eq_getElem_cons hi, e]
theorem outs_cons {st : Sj51.State} {c : Int × List Int} {r : List (Int × List Int)} {q : Sj51.Call} (h : Sj51Neutral.callOf (c.1 :: c.2) = some q) :
    outs st (c :: r) = ((said (Sj51.step st q).2).length : Int) :: (said (Sj51.step st q).2 ++ outs (Sj51.step st q).1 r) := by
  show ((Sj51Neutral.step st [c.1 :: c.2]).2.length : Int) :: ((Sj51Neutral.step st [c.1 :: c.2]).2 ++ outs (Sj51Neutral.step st [c.1 :: c.2]).1 r) = _
  rw [nstep h]
  rfl
section
variable {P : Program} {w : World} {K : PySem.W.Frag} {mg : Str → Option Value} {base : Heap} {CE CH CC : Addr}
theorem ok_answers {f : Addr} {fd : FuncData} (F : Fun K "answers" "answers" s_answers f fd) (T : Txt K mg CE CH CC) : FnOk P w K mg base CX0 10 f fd ["calls"] (sp_answers K) := by
  refine F.ok sc_answers (fun vs H Q E h => ?_) (fun cdv A outer s H vs Q E hr h => ?_)
  · obtain ⟨a, ns, rfl, _⟩ := h
    rfl
  · obtain ⟨a, ns, rfl, hS, hl, hask, k⟩ := h
    obtain ⟨cs, ens, hcs, eans, hout⟩ := asked_split hask
    subst ens
    refine ⟨_, (pss_cons (ps_set (i := 1) sc_answers.nd rfl (Or.inl rfl) (pe_new0 (k_Card_init T) (hr.mono (by decide))))
      (pss_cons (ps_set (i := 2) sc_answers.nd rfl (Or.inl rfl) (pe_lst pa_nil))
      (pss_cons (ps_for PassesOwn.never rfl (pi_list (pe_cal (c_calls_in T) (hr.mono (by decide)) (pa_cons (pv 0) pa_nil))) (pg_tup (by rfl) (pgs_cons (pg_name (i := 3) sc_answers.nd rfl (Or.inl rfl)) (pgs_cons (pg_name (i := 4) sc_answers.nd rfl (Or.inl rfl)) pgs_nil))) (pss_cons (ps_set (i := 5) sc_answers.nd rfl (Or.inl rfl) (pe_mcal (pv 1) T.clC (m_told T) (hr.mono (by decide)) (pa_cons (pv 3) (pa_cons (pv 4) pa_nil))))
      (pss_cons (ps_expr (pe_bm PySem.F.plainAttrs_list PySem.F.slot_list_append PySem.F.type_list_append mt_append (pv 2) (pa_cons (pe_callB call_len_seq (by rfl) T.n_len PySem.boot_len (pa_cons (pv 5) pa_nil)) pa_nil)))
      (pss_one (ps_expr (pe_bm PySem.F.plainAttrs_list PySem.F.slot_list_extend PySem.F.type_list_extend mt_extend (pv 2) (pa_cons (pv 5) pa_nil)))))))
      (pss_one (ps_ret (pv 2)))))), ?_⟩
    -- the card
    intro c dc nc ndc nec
    refine ⟨c, dc, rfl, upd_same, rfl, ?_⟩
    rw [upd_upd]
    have sc : Same H (upd (upd H dc (.own c)) c (.ins CC dc (cF .non))) := fun b o e => by
      rw [upd_ne (ne_of_none e nc), upd_ne (ne_of_none e ndc)]
      exact e
    -- the list that grows
    refine ⟨Nat.zero_le _, fun L nL => ?_⟩
    have s0 := Same.new (o := HO.lst []) nL
    have nLc : c ≠ L := ne_of_none upd_same nL
    -- the loop over the calls
    refine ⟨_, rfl, a, cs, rfl, (sc.trans s0).seq hS, hl, fun H1 M ts s1 nM eM hT => ?_⟩
    have hc1 : H1 c = some (.ins CC dc (cF .non)) := s1 _ _ (s0 _ _ upd_same)
    have hL1 : H1 L = some (.lst (vi [])) := s1 _ _ upd_same
    have nMc : M ≠ c := Ne.symm (ne_of_none (s0 _ _ upd_same) nM)
    have nML : M ≠ L := Ne.symm (ne_of_none upd_same nM)
    refine ⟨M, rfl, ⟨_, SqL.of eM⟩, for_list (K := K) (a := M) (xs := ts.map V.ref) (fun i σ H' => ∃ (v3 v4 v5 : Option V) (S : List Addr) (st : Sj51.State) (done : List Int), σ = [some (.ref a), some (.ref c), some (.ref L), v3, v4, v5] ∧
      CardAt CE CH CC [L] H' c S st ∧ GoodS st ∧ H' L = some (.lst (vi done)) ∧ outs Sj51Neutral.start cs = done ++ outs st (cs.drop i) ∧ L ∉ S ∧ (∀ x ∈ S, x = c ∨ H1 x = none) ∧ (∀ b o, H1 b = some o → b ≠ c → b ≠ L → H' b = some o))
      ⟨none, none, none, [c], none, [], rfl, ⟨fun z m => (by rw [List.mem_singleton.mp m, hL1]; exact fun q => (nomatch q)), ⟨dc, hc1⟩, rfl⟩, trivial, hL1, rfl, fun m => nLc (List.mem_singleton.mp m).symm, fun x m => .inl (List.mem_singleton.mp m), fun _ _ e _ _ => e⟩
      (fun i σ H' _ ⟨_, _, _, _, _, _, _, _, _, _, _, _, _, kp⟩ => SqL.of (kp _ _ eM nMc nML)) ?_ ?_⟩
    · rintro i y σ H' hi ⟨v3, v4, v5, S, st, done, rfl, A0, g, hL, hou, nLS, hSn, kp⟩
      obtain ⟨t, ht, rfl⟩ : ∃ t, ts[i]? = some t ∧ y = V.ref t := by
        rw [List.getElem?_map] at hi
        cases e : ts[i]? with
        | none =>
          rw [e] at hi
          cases hi
        | some t =>
          rw [e] at hi
          exact ⟨t, rfl, (Option.some.inj hi).symm⟩
      obtain ⟨cc, hcc, nt0, x, nx0, et, ex⟩ := hT.at ht
      have mcc : cc ∈ cs := List.mem_of_getElem? hcc
      obtain ⟨q, hq, hz⟩ := hcs cc mcc
      have ak := asked_of hq hz
      have ntc : t ≠ c := Ne.symm (ne_of_none (s0 _ _ upd_same) nt0)
      have ntL : t ≠ L := Ne.symm (ne_of_none upd_same nt0)
      have nxc : x ≠ c := Ne.symm (ne_of_none (s0 _ _ upd_same) nx0)
      have nxL : x ≠ L := Ne.symm (ne_of_none upd_same nx0)
      have et' := kp _ _ et ntc ntL
      have ex' := kp _ _ ex nxc nxL
      obtain ⟨dx', v', ec⟩ := A0.ins
      rw [drop_at hcc, outs_cons hq] at hou
      refine ⟨t, _, rfl, SqT.of et', rfl, _, _, rfl, _, _, rfl, rfl, ?_⟩
      -- one call
      refine ⟨_, rfl, c, dx', _, rfl, ec, lk_no (ks := cK) rfl (by decide +kernel), _, rfl, _, rfl, [L], c, x, S, st, cc.1, cc.2, q, rfl, A0, g, ex', ak, fun H2 S2 r A2 k2 hS2 nr nrS er => ?_⟩
      have hL2 := k2 _ _ hL nLS
      have nrL : r ≠ L := Ne.symm (ne_of_none hL nr)
      have hlen := congrArg List.length hou
      rw [List.length_append, List.length_cons, List.length_append] at hlen
      -- its length
      refine ⟨_, rfl, .inl ⟨rfl, _, SqL.of hL2⟩, _, rfl, r, _, rfl, .inl (SqL.of er), L, _, _, rfl, rfl, hL2, by rw [vi_len]; exact size_lt (by omega), ?_⟩
      -- its numbers
      refine ⟨_, rfl, .inl ⟨rfl, _, SqL.of upd_same⟩, _, rfl, L, r, _, _, rfl, rfl, upd_same, by rw [upd_ne nrL]; exact er, by rw [List.length_append, vi_len, vi_len]; exact size_ok (by show done.length + 1 + _ ≤ _; omega), ?_⟩
      have nLS2 : L ∉ S2 := fun m => by
        rcases hS2 L m with z | z
        · exact nLS z
        · rw [hL] at z
          cases z
      refine ⟨_, _, _, S2, (Sj51.step st q).1, done ++ (((said (Sj51.step st q).2).length : Int) :: said (Sj51.step st q).2), rfl, (A2.foreign (by simp) nLS2).foreign (by simp) nLS2, good_step g ak, ?_, ?_, nLS2, fun y m => ?_, fun b o e n1 n2 => ?_⟩
      · rw [upd_same, vi_app, vi_len]
        show some (HO.lst (vi done ++ [V.int ((said (Sj51.step st q).2).length : Int)] ++ vi (said (Sj51.step st q).2))) = _
        rw [List.append_assoc]
        rfl
      · rw [hou, List.append_assoc]
        rfl
      · rcases hS2 y m with z | z
        · exact hSn y z
        · by_cases yc : y = c
          · exact .inl yc
          · refine .inr ?_
            cases e : H1 y with
            | none => rfl
            | some o =>
              by_cases yL : y = L
              · rw [yL, hL] at z
                cases z
              · rw [kp y o e yc yL] at z
                cases z
      · rw [upd_ne n2, upd_ne n2]
        refine k2 _ _ (kp b o e n1 n2) fun m => ?_
        rcases hSn b m with z | z
        · exact n1 z
        · rw [e] at z
          cases z
    · rintro σ H' ⟨v3, v4, v5, S, st, done, rfl, A0, g, hL, hou, _⟩
      rw [List.length_map, hT.len, List.drop_length] at hou
      have e : outs Sj51Neutral.start cs = done := by
        rw [hou]
        exact List.append_nil done
      refine ⟨_, rfl, k H' L ?_⟩
      rw [eans, e]
      exact hL
theorem fin {fa : Addr} (hfa : mg "answers" = some (.ref fa)) (T : Txt K mg CE CH CC) :
    ∃ fd : FuncData, (∀ (s : Shared) (us : List Value), us.length = (["calls"] : List Str).length → BindsTo s fd ⟨us, []⟩ ((["calls"] : List Str).zip us)) ∧ ∀ base : Heap, K.In base → base.Ns mainGlobals mg → FnOk P w K mg base CX0 10 fa fd ["calls"] (sp_answers K) := by
  obtain ⟨f, fd, F, m, _⟩ := T.d_answers.ex
  rw [m] at hfa
  cases hfa
  refine ⟨fd, ?_, fun base _ _ => ok_answers F T⟩
  obtain ⟨oc, od, kV, doc, pm, an, cdv, ct, osl, rfl, lk, hcd⟩ := F.ex
  exact fun s us hu => match us, hu with | [_], _ => .of_eq rfl
end
end FC

open PySem PySem.W PyProof.Rows
set_option maxRecDepth 100000 in
set_option maxHeartbeats 0 in
theorem PySem.Challenge.cw_framecard_s01_answers_holds : PySem.Challenge.rw_framecard_s01_answers.Holds := by
  w_on; k_headS; (case hw => exact ⟨[.list [.int 1, .int 2, .int 16, .int 3, .int 0]], by decide +kernel, by decide +kernel⟩)
  k_fillS
  refine L2.walk_specK (r := PySem.Challenge.rw_framecard_s01_answers) (k := 10) (CX := L2.CX0) (ps := ["calls"]) (sp := FC.sp_answers) (by decide +kernel) rfl rfl ⟨rfl, by decide, by decide⟩ (fun w h Y => PySem.W.kIn_of Y) ?F ?S (fun _ _ _ _ z => z)
  case F =>
    intro w mg fa h Y KX G hmg
    refine' FC.then_ (PySem.W.mg_none_of (n := "len") KX G ?a1) ?z1; (case a1 => k_is); intro q_n_len
    refine' FC.then_ (PySem.W.mg_none_of (n := "range") KX G ?a2) ?z2; (case a2 => k_is); intro q_n_range
    refine' FC.then_ (FC.gint_mk (x := "WORD") (n := 65536) KX G ?a3) ?z3; (case a3 => k_is); intro q_c_WORD
    refine' FC.then_ (FC.gint_mk (x := "LAST_WORD") (n := 65535) KX G ?a4) ?z4; (case a4 => k_is); intro q_c_LAST_WORD
    refine' FC.then_ (FC.gint_mk (x := "ALL_ONES") (n := 4294967295) KX G ?a5) ?z5; (case a5 => k_is); intro q_c_ALL_ONES
    refine' FC.then_ (FC.gint_mk (x := "DIVIDER") (n := 3988292384) KX G ?a6) ?z6; (case a6 => k_is); intro q_c_DIVIDER
    refine' FC.then_ (FC.gint_mk (x := "HEAD") (n := 12) KX G ?a7) ?z7; (case a7 => k_is); intro q_c_HEAD
    refine' FC.then_ (FC.gint_mk (x := "REST") (n := 4) KX G ?a8) ?z8; (case a8 => k_is); intro q_c_REST
    refine' FC.then_ (FC.gint_mk (x := "LEAST") (n := 16) KX G ?a9) ?z9; (case a9 => k_is); intro q_c_LEAST
    refine' FC.then_ (FC.gint_mk (x := "FLOW_AT") (n := 0) KX G ?a10) ?z10; (case a10 => k_is); intro q_c_FLOW_AT
    refine' FC.then_ (FC.gint_mk (x := "PLACE_AT") (n := 2) KX G ?a11) ?z11; (case a11 => k_is); intro q_c_PLACE_AT
    refine' FC.then_ (FC.gint_mk (x := "LONG_AT") (n := 6) KX G ?a12) ?z12; (case a12 => k_is); intro q_c_LONG_AT
    refine' FC.then_ (FC.gint_mk (x := "MARKS_AT") (n := 8) KX G ?a13) ?z13; (case a13 => k_is); intro q_c_MARKS_AT
    refine' FC.then_ (FC.gint_mk (x := "HOPS_AT") (n := 9) KX G ?a14) ?z14; (case a14 => k_is); intro q_c_HOPS_AT
    refine' FC.then_ (FC.gint_mk (x := "SUM_AT") (n := 10) KX G ?a15) ?z15; (case a15 => k_is); intro q_c_SUM_AT
    refine' FC.then_ (FC.gint_mk (x := "BEGINS") (n := 1) KX G ?a16) ?z16; (case a16 => k_is); intro q_c_BEGINS
    refine' FC.then_ (FC.gint_mk (x := "ENDS") (n := 2) KX G ?a17) ?z17; (case a17 => k_is); intro q_c_ENDS
    refine' FC.then_ (FC.gint_mk (x := "ALONE") (n := 3) KX G ?a18) ?z18; (case a18 => k_is); intro q_c_ALONE
    refine' FC.then_ (FC.gint_mk (x := "MOST_MARKS") (n := 3) KX G ?a19) ?z19; (case a19 => k_is); intro q_c_MOST_MARKS
    refine' FC.then_ (FC.gint_mk (x := "PLACES") (n := 4294967296) KX G ?a20) ?z20; (case a20 => k_is); intro q_c_PLACES
    refine' FC.then_ (FC.gint_mk (x := "MOST_FLOWS") (n := 8) KX G ?a21) ?z21; (case a21 => k_is); intro q_c_MOST_FLOWS
    refine' FC.then_ (FC.gint_mk (x := "MOST_LONG") (n := 4096) KX G ?a22) ?z22; (case a22 => k_is); intro q_c_MOST_LONG
    refine' FC.then_ (FC.gint_mk (x := "BEGAN") (n := 0) KX G ?a23) ?z23; (case a23 => k_is); intro q_c_BEGAN
    refine' FC.then_ (FC.gint_mk (x := "GOES_ON") (n := 1) KX G ?a24) ?z24; (case a24 => k_is); intro q_c_GOES_ON
    refine' FC.then_ (FC.gint_mk (x := "WHOLE") (n := 2) KX G ?a25) ?z25; (case a25 => k_is); intro q_c_WHOLE
    refine' FC.then_ (FC.gint_mk (x := "NOTHING_HELD") (n := 3) KX G ?a26) ?z26; (case a26 => k_is); intro q_c_NOTHING_HELD
    refine' FC.then_ (FC.gint_mk (x := "ELSEWHERE") (n := 4) KX G ?a27) ?z27; (case a27 => k_is); intro q_c_ELSEWHERE
    refine' FC.then_ (FC.gint_mk (x := "TOO_LONG") (n := 5) KX G ?a28) ?z28; (case a28 => k_is); intro q_c_TOO_LONG
    refine' FC.then_ (FC.gint_mk (x := "NO_ROOM") (n := 6) KX G ?a29) ?z29; (case a29 => k_is); intro q_c_NO_ROOM
    refine' FC.then_ (FC.gint_mk (x := "FAULTY_joining") (n := 10) KX G ?a30) ?z30; (case a30 => k_is); intro q_c_FAULTY_joining
    refine' FC.then_ (FC.gint_mk (x := "NOT_AS_TOLD") (n := -2) KX G ?a31) ?z31; (case a31 => k_is); intro q_c_NOT_AS_TOLD
    refine' FC.then_ (FC.gint_mk (x := "TOO_MANY") (n := -5) KX G ?a32) ?z32; (case a32 => k_is); intro q_c_TOO_MANY
    refine' FC.then_ (FC.gint_mk (x := "NONE_THERE") (n := -6) KX G ?a33) ?z33; (case a33 => k_is); intro q_c_NONE_THERE
    refine' FC.then_ (FC.gint_mk (x := "FAULTY_asks") (n := -10) KX G ?a34) ?z34; (case a34 => k_is); intro q_c_FAULTY_asks
    refine' FC.then_ (FC.gint_mk (x := "LEAST_SIZE") (n := 16) KX G ?a35) ?z35; (case a35 => k_is); intro q_c_LEAST_SIZE
    refine' FC.then_ (FC.gint_mk (x := "MOST_SIZE") (n := 1024) KX G ?a36) ?z36; (case a36 => k_is); intro q_c_MOST_SIZE
    refine' FC.then_ (FC.gint_mk (x := "MOST_HOPS") (n := 255) KX G ?a37) ?z37; (case a37 => k_is); intro q_c_MOST_HOPS
    refine' FC.then_ (FC.gint_mk (x := "MOST_BYTES") (n := 4096) KX G ?a38) ?z38; (case a38 => k_is); intro q_c_MOST_BYTES
    refine' FC.then_ (FC.gint_mk (x := "MOST_FRAME") (n := 1040) KX G ?a39) ?z39; (case a39 => k_is); intro q_c_MOST_FRAME
    refine' FC.then_ (FC.gint_mk (x := "MOST_FLOW") (n := 65535) KX G ?a40) ?z40; (case a40 => k_is); intro q_c_MOST_FLOW
    refine' FC.then_ (FC.gint_mk (x := "MOST_READY") (n := 64) KX G ?a41) ?z41; (case a41 => k_is); intro q_c_MOST_READY
    refine' FC.then_ (FC.gint_mk (x := "OPEN") (n := 1) KX G ?a42) ?z42; (case a42 => k_is); intro q_c_OPEN
    refine' FC.then_ (FC.gint_mk (x := "NO_HOUSE") (n := -7) KX G ?a43) ?z43; (case a43 => k_is); intro q_c_NO_HOUSE
    refine' FC.then_ (FC.cls_mk (x := "Held") KX G ?a44 ?pg44 ?hd44 ?po44 ?sa44) ?z44; (case a44 => k_is); (case pg44 => k_is); (case hd44 => k_is); (case po44 => k_is); (case sa44 => k_is); intro q_mgE
    refine' FC.then_ (FC.no_mk (f := "octets") q_mgE ?a45) ?z45; (case a45 => k_is); intro q_noE_octets
    refine' FC.then_ (FC.no_mk (f := "place") q_mgE ?a46) ?z46; (case a46 => k_is); intro q_noE_place
    refine' FC.then_ (FC.cls_mk (x := "House") KX G ?a47 ?pg47 ?hd47 ?po47 ?sa47) ?z47; (case a47 => k_is); (case pg47 => k_is); (case hd47 => k_is); (case po47 => k_is); (case sa47 => k_is); intro q_mgH
    refine' FC.then_ (FC.no_mk (f := "size") q_mgH ?a48) ?z48; (case a48 => k_is); intro q_noH_size
    refine' FC.then_ (FC.no_mk (f := "hops") q_mgH ?a49) ?z49; (case a49 => k_is); intro q_noH_hops
    refine' FC.then_ (FC.no_mk (f := "ready") q_mgH ?a50) ?z50; (case a50 => k_is); intro q_noH_ready
    refine' FC.then_ (FC.no_mk (f := "flows") q_mgH ?a51) ?z51; (case a51 => k_is); intro q_noH_flows
    refine' FC.then_ (FC.no_mk (f := "whole") q_mgH ?a52) ?z52; (case a52 => k_is); intro q_noH_whole
    refine' FC.then_ (FC.no_mk (f := "faulty") q_mgH ?a53) ?z53; (case a53 => k_is); intro q_noH_faulty
    refine' FC.then_ (FC.no_mk (f := "good") q_mgH ?a54) ?z54; (case a54 => k_is); intro q_noH_good
    refine' FC.then_ (FC.no_mk (f := "bad") q_mgH ?a55) ?z55; (case a55 => k_is); intro q_noH_bad
    refine' FC.then_ (FC.cls_mk (x := "Card") KX G ?a56 ?pg56 ?hd56 ?po56 ?sa56) ?z56; (case a56 => k_is); (case pg56 => k_is); (case hd56 => k_is); (case po56 => k_is); (case sa56 => k_is); intro q_mgC
    refine' FC.then_ (FC.no_mk (f := "house") q_mgC ?a57) ?z57; (case a57 => k_is); intro q_noC_house
    refine' FC.then_ (FC.def_mk (x := "folded") (st := FC.s_folded) (ps := ["total"]) KX G (fun _ _ _ _ _ _ us hl => match us, hl with | [_], _ => rfl) ?a58 ?l58 ?c58 ?k58) ?z58; (case a58 => k_is); (case l58 => k_is); (case c58 => k_is); (case k58 => k_is); intro q_d_folded
    refine' FC.then_ (FC.def_mk (x := "word_at") (st := FC.s_word_at) (ps := ["row", "at"]) KX G (fun _ _ _ _ _ _ us hl => match us, hl with | [_, _], _ => rfl) ?a59 ?l59 ?c59 ?k59) ?z59; (case a59 => k_is); (case l59 => k_is); (case c59 => k_is); (case k59 => k_is); intro q_d_word_at
    refine' FC.then_ (FC.def_mk (x := "sum_by_ones") (st := FC.s_sum_by_ones) (ps := ["row"]) KX G (fun _ _ _ _ _ _ us hl => match us, hl with | [_], _ => rfl) ?a60 ?l60 ?c60 ?k60) ?z60; (case a60 => k_is); (case l60 => k_is); (case c60 => k_is); (case k60 => k_is); intro q_d_sum_by_ones
    refine' FC.then_ (FC.def_mk (x := "check_of") (st := FC.s_check_of) (ps := ["row"]) KX G (fun _ _ _ _ _ _ us hl => match us, hl with | [_], _ => rfl) ?a61 ?l61 ?c61 ?k61) ?z61; (case a61 => k_is); (case l61 => k_is); (case c61 => k_is); (case k61 => k_is); intro q_d_check_of
    refine' FC.then_ (FC.def_mk (x := "mended_check") (st := FC.s_mended_check) (ps := ["total", "word"]) KX G (fun _ _ _ _ _ _ us hl => match us, hl with | [_, _], _ => rfl) ?a62 ?l62 ?c62 ?k62) ?z62; (case a62 => k_is); (case l62 => k_is); (case c62 => k_is); (case k62 => k_is); intro q_d_mended_check
    refine' FC.then_ (FC.def_mk (x := "halved") (st := FC.s_halved) (ps := ["rest"]) KX G (fun _ _ _ _ _ _ us hl => match us, hl with | [_], _ => rfl) ?a63 ?l63 ?c63 ?k63) ?z63; (case a63 => k_is); (case l63 => k_is); (case c63 => k_is); (case k63 => k_is); intro q_d_halved
    refine' FC.then_ (FC.def_mk (x := "divided_by_byte") (st := FC.s_divided_by_byte) (ps := ["rest", "octet"]) KX G (fun _ _ _ _ _ _ us hl => match us, hl with | [_, _], _ => rfl) ?a64 ?l64 ?c64 ?k64) ?z64; (case a64 => k_is); (case l64 => k_is); (case c64 => k_is); (case k64 => k_is); intro q_d_divided_by_byte
    refine' FC.then_ (FC.def_mk (x := "rest_of") (st := FC.s_rest_of) (ps := ["row"]) KX G (fun _ _ _ _ _ _ us hl => match us, hl with | [_], _ => rfl) ?a65 ?l65 ?c65 ?k65) ?z65; (case a65 => k_is); (case l65 => k_is); (case c65 => k_is); (case k65 => k_is); intro q_d_rest_of
    refine' FC.then_ (FC.def_mk (x := "octets_of") (st := FC.s_octets_of) (ps := ["number", "many"]) KX G (fun _ _ _ _ _ _ us hl => match us, hl with | [_, _], _ => rfl) ?a66 ?l66 ?c66 ?k66) ?z66; (case a66 => k_is); (case l66 => k_is); (case c66 => k_is); (case k66 => k_is); intro q_d_octets_of
    refine' FC.then_ (FC.def_mk (x := "number_at") (st := FC.s_number_at) (ps := ["row", "at", "many"]) KX G (fun _ _ _ _ _ _ us hl => match us, hl with | [_, _, _], _ => rfl) ?a67 ?l67 ?c67 ?k67) ?z67; (case a67 => k_is); (case l67 => k_is); (case c67 => k_is); (case k67 => k_is); intro q_d_number_at
    refine' FC.then_ (FC.def_mk (x := "with_rest") (st := FC.s_with_rest) (ps := ["row"]) KX G (fun _ _ _ _ _ _ us hl => match us, hl with | [_], _ => rfl) ?a68 ?l68 ?c68 ?k68) ?z68; (case a68 => k_is); (case l68 => k_is); (case c68 => k_is); (case k68 => k_is); intro q_d_with_rest
    refine' FC.then_ (FC.def_mk (x := "head_of") (st := FC.s_head_of) (ps := ["flow", "place", "many", "marks", "hops", "total"]) KX G (fun _ _ _ _ _ _ us hl => match us, hl with | [_, _, _, _, _, _], _ => rfl) ?a69 ?l69 ?c69 ?k69) ?z69; (case a69 => k_is); (case l69 => k_is); (case c69 => k_is); (case k69 => k_is); intro q_d_head_of
    refine' FC.then_ (FC.def_mk (x := "frame_of") (st := FC.s_frame_of) (ps := ["flow", "place", "marks", "hops", "body"]) KX G (fun _ _ _ _ _ _ us hl => match us, hl with | [_, _, _, _, _], _ => rfl) ?a70 ?l70 ?c70 ?k70) ?z70; (case a70 => k_is); (case l70 => k_is); (case c70 => k_is); (case k70 => k_is); intro q_d_frame_of
    refine' FC.then_ (FC.def_mk (x := "flow_in") (st := FC.s_flow_in) (ps := ["frame"]) KX G (fun _ _ _ _ _ _ us hl => match us, hl with | [_], _ => rfl) ?a71 ?l71 ?c71 ?k71) ?z71; (case a71 => k_is); (case l71 => k_is); (case c71 => k_is); (case k71 => k_is); intro q_d_flow_in
    refine' FC.then_ (FC.def_mk (x := "place_in") (st := FC.s_place_in) (ps := ["frame"]) KX G (fun _ _ _ _ _ _ us hl => match us, hl with | [_], _ => rfl) ?a72 ?l72 ?c72 ?k72) ?z72; (case a72 => k_is); (case l72 => k_is); (case c72 => k_is); (case k72 => k_is); intro q_d_place_in
    refine' FC.then_ (FC.def_mk (x := "long_in") (st := FC.s_long_in) (ps := ["frame"]) KX G (fun _ _ _ _ _ _ us hl => match us, hl with | [_], _ => rfl) ?a73 ?l73 ?c73 ?k73) ?z73; (case a73 => k_is); (case l73 => k_is); (case c73 => k_is); (case k73 => k_is); intro q_d_long_in
    refine' FC.then_ (FC.def_mk (x := "marks_in") (st := FC.s_marks_in) (ps := ["frame"]) KX G (fun _ _ _ _ _ _ us hl => match us, hl with | [_], _ => rfl) ?a74 ?l74 ?c74 ?k74) ?z74; (case a74 => k_is); (case l74 => k_is); (case c74 => k_is); (case k74 => k_is); intro q_d_marks_in
    refine' FC.then_ (FC.def_mk (x := "hops_in") (st := FC.s_hops_in) (ps := ["frame"]) KX G (fun _ _ _ _ _ _ us hl => match us, hl with | [_], _ => rfl) ?a75 ?l75 ?c75 ?k75) ?z75; (case a75 => k_is); (case l75 => k_is); (case c75 => k_is); (case k75 => k_is); intro q_d_hops_in
    refine' FC.then_ (FC.def_mk (x := "body_in") (st := FC.s_body_in) (ps := ["frame"]) KX G (fun _ _ _ _ _ _ us hl => match us, hl with | [_], _ => rfl) ?a76 ?l76 ?c76 ?k76) ?z76; (case a76 => k_is); (case l76 => k_is); (case c76 => k_is); (case k76 => k_is); intro q_d_body_in
    refine' FC.then_ (FC.def_mk (x := "has_right_rest") (st := FC.s_has_right_rest) (ps := ["frame"]) KX G (fun _ _ _ _ _ _ us hl => match us, hl with | [_], _ => rfl) ?a77 ?l77 ?c77 ?k77) ?z77; (case a77 => k_is); (case l77 => k_is); (case c77 => k_is); (case k77 => k_is); intro q_d_has_right_rest
    refine' FC.then_ (FC.def_mk (x := "has_right_sum") (st := FC.s_has_right_sum) (ps := ["frame"]) KX G (fun _ _ _ _ _ _ us hl => match us, hl with | [_], _ => rfl) ?a78 ?l78 ?c78 ?k78) ?z78; (case a78 => k_is); (case l78 => k_is); (case c78 => k_is); (case k78 => k_is); intro q_d_has_right_sum
    refine' FC.then_ (FC.def_mk (x := "fault_of") (st := FC.s_fault_of) (ps := ["frame"]) KX G (fun _ _ _ _ _ _ us hl => match us, hl with | [_], _ => rfl) ?a79 ?l79 ?c79 ?k79) ?z79; (case a79 => k_is); (case l79 => k_is); (case c79 => k_is); (case k79 => k_is); intro q_d_fault_of
    refine' FC.then_ (FC.def_mk (x := "passed_on") (st := FC.s_passed_on) (ps := ["frame"]) KX G (fun _ _ _ _ _ _ us hl => match us, hl with | [_], _ => rfl) ?a80 ?l80 ?c80 ?k80) ?z80; (case a80 => k_is); (case l80 => k_is); (case c80 => k_is); (case k80 => k_is); intro q_d_passed_on
    refine' FC.then_ (FC.def_mk (x := "marks_of") (st := FC.s_marks_of) (ps := ["is_first", "is_last"]) KX G (fun _ _ _ _ _ _ us hl => match us, hl with | [_, _], _ => rfl) ?a81 ?l81 ?c81 ?k81) ?z81; (case a81 => k_is); (case l81 => k_is); (case c81 => k_is); (case k81 => k_is); intro q_d_marks_of
    refine' FC.then_ (FC.ini_mk (q := "Held.__init__") (st := FC.s_Held_init) (ps := ["self", "octets", "place"]) q_mgE (fun _ _ _ _ _ _ us hl => match us, hl with | [_, _, _], _ => rfl) ?a82 ?i82 ?l82 ?c82 ?k82 ?mk82 ?kc82) ?z82; (case a82 => k_is); (case i82 => k_is); (case l82 => k_is); (case c82 => k_is); (case k82 => k_is); (case mk82 => k_is); (case kc82 => k_is); intro q_i_Held_init
    refine' FC.then_ (FC.ini_mk (q := "House.__init__") (st := FC.s_House_init) (ps := ["self", "size", "hops"]) q_mgH (fun _ _ _ _ _ _ us hl => match us, hl with | [_, _, _], _ => rfl) ?a83 ?i83 ?l83 ?c83 ?k83 ?mk83 ?kc83) ?z83; (case a83 => k_is); (case i83 => k_is); (case l83 => k_is); (case c83 => k_is); (case k83 => k_is); (case mk83 => k_is); (case kc83 => k_is); intro q_i_House_init
    refine' FC.then_ (FC.met_mk (m := "add_frames") (q := "House.add_frames") (st := FC.s_add_frames) (ps := ["self", "frames"]) q_mgH (fun _ _ _ _ _ _ us hl => match us, hl with | [_, _], _ => rfl) ?a84 ?i84 ?l84 ?c84 ?k84) ?z84; (case a84 => k_is); (case i84 => k_is); (case l84 => k_is); (case c84 => k_is); (case k84 => k_is); intro q_m_add_frames
    refine' FC.then_ (FC.met_mk (m := "take_frame") (q := "House.take_frame") (st := FC.s_take_frame) (ps := ["self"]) q_mgH (fun _ _ _ _ _ _ us hl => match us, hl with | [_], _ => rfl) ?a85 ?i85 ?l85 ?c85 ?k85) ?z85; (case a85 => k_is); (case i85 => k_is); (case l85 => k_is); (case c85 => k_is); (case k85 => k_is); intro q_m_take_frame
    refine' FC.then_ (FC.met_mk (m := "holds") (q := "House.holds") (st := FC.s_holds) (ps := ["self", "flow"]) q_mgH (fun _ _ _ _ _ _ us hl => match us, hl with | [_, _], _ => rfl) ?a86 ?i86 ?l86 ?c86 ?k86) ?z86; (case a86 => k_is); (case i86 => k_is); (case l86 => k_is); (case c86 => k_is); (case k86 => k_is); intro q_m_holds
    refine' FC.then_ (FC.met_mk (m := "held_of") (q := "House.held_of") (st := FC.s_held_of) (ps := ["self", "flow"]) q_mgH (fun _ _ _ _ _ _ us hl => match us, hl with | [_, _], _ => rfl) ?a87 ?i87 ?l87 ?c87 ?k87) ?z87; (case a87 => k_is); (case i87 => k_is); (case l87 => k_is); (case c87 => k_is); (case k87 => k_is); intro q_m_held_of
    refine' FC.then_ (FC.met_mk (m := "let_go") (q := "House.let_go") (st := FC.s_let_go) (ps := ["self", "flow"]) q_mgH (fun _ _ _ _ _ _ us hl => match us, hl with | [_, _], _ => rfl) ?a88 ?i88 ?l88 ?c88 ?k88) ?z88; (case a88 => k_is); (case i88 => k_is); (case l88 => k_is); (case c88 => k_is); (case k88 => k_is); intro q_m_let_go
    refine' FC.then_ (FC.met_mk (m := "hold") (q := "House.hold") (st := FC.s_hold) (ps := ["self", "flow", "octets", "place"]) q_mgH (fun _ _ _ _ _ _ us hl => match us, hl with | [_, _, _, _], _ => rfl) ?a89 ?i89 ?l89 ?c89 ?k89) ?z89; (case a89 => k_is); (case i89 => k_is); (case l89 => k_is); (case c89 => k_is); (case k89 => k_is); intro q_m_hold
    refine' FC.then_ (FC.met_mk (m := "many_flows") (q := "House.many_flows") (st := FC.s_many_flows) (ps := ["self"]) q_mgH (fun _ _ _ _ _ _ us hl => match us, hl with | [_], _ => rfl) ?a90 ?i90 ?l90 ?c90 ?k90) ?z90; (case a90 => k_is); (case i90 => k_is); (case l90 => k_is); (case c90 => k_is); (case k90 => k_is); intro q_m_many_flows
    refine' FC.then_ (FC.met_mk (m := "keep_whole") (q := "House.keep_whole") (st := FC.s_keep_whole) (ps := ["self", "octets"]) q_mgH (fun _ _ _ _ _ _ us hl => match us, hl with | [_, _], _ => rfl) ?a91 ?i91 ?l91 ?c91 ?k91) ?z91; (case a91 => k_is); (case i91 => k_is); (case l91 => k_is); (case c91 => k_is); (case k91 => k_is); intro q_m_keep_whole
    refine' FC.then_ (FC.met_mk (m := "count_faulty") (q := "House.count_faulty") (st := FC.s_count_faulty) (ps := ["self"]) q_mgH (fun _ _ _ _ _ _ us hl => match us, hl with | [_], _ => rfl) ?a92 ?i92 ?l92 ?c92 ?k92) ?z92; (case a92 => k_is); (case i92 => k_is); (case l92 => k_is); (case c92 => k_is); (case k92 => k_is); intro q_m_count_faulty
    refine' FC.then_ (FC.met_mk (m := "count_answer") (q := "House.count_answer") (st := FC.s_count_answer) (ps := ["self", "answer"]) q_mgH (fun _ _ _ _ _ _ us hl => match us, hl with | [_, _], _ => rfl) ?a93 ?i93 ?l93 ?c93 ?k93) ?z93; (case a93 => k_is); (case i93 => k_is); (case l93 => k_is); (case c93 => k_is); (case k93 => k_is); intro q_m_count_answer
    refine' FC.then_ (FC.def_mk (x := "place_behind") (st := FC.s_place_behind) (ps := ["place", "many"]) KX G (fun _ _ _ _ _ _ us hl => match us, hl with | [_, _], _ => rfl) ?a94 ?l94 ?c94 ?k94) ?z94; (case a94 => k_is); (case l94 => k_is); (case c94 => k_is); (case k94 => k_is); intro q_d_place_behind
    refine' FC.then_ (FC.def_mk (x := "frames_of") (st := FC.s_frames_of) (ps := ["house", "flow", "place", "message"]) KX G (fun _ _ _ _ _ _ us hl => match us, hl with | [_, _, _, _], _ => rfl) ?a95 ?l95 ?c95 ?k95) ?z95; (case a95 => k_is); (case l95 => k_is); (case c95 => k_is); (case k95 => k_is); intro q_d_frames_of
    refine' FC.then_ (FC.def_mk (x := "ended") (st := FC.s_ended) (ps := ["house", "flow", "octets"]) KX G (fun _ _ _ _ _ _ us hl => match us, hl with | [_, _, _], _ => rfl) ?a96 ?l96 ?c96 ?k96) ?z96; (case a96 => k_is); (case l96 => k_is); (case c96 => k_is); (case k96 => k_is); intro q_d_ended
    refine' FC.then_ (FC.def_mk (x := "begun") (st := FC.s_begun) (ps := ["house", "flow", "frame"]) KX G (fun _ _ _ _ _ _ us hl => match us, hl with | [_, _, _], _ => rfl) ?a97 ?l97 ?c97 ?k97) ?z97; (case a97 => k_is); (case l97 => k_is); (case c97 => k_is); (case k97 => k_is); intro q_d_begun
    refine' FC.then_ (FC.def_mk (x := "gone_on") (st := FC.s_gone_on) (ps := ["house", "flow", "frame"]) KX G (fun _ _ _ _ _ _ us hl => match us, hl with | [_, _, _], _ => rfl) ?a98 ?l98 ?c98 ?k98) ?z98; (case a98 => k_is); (case l98 => k_is); (case c98 => k_is); (case k98 => k_is); intro q_d_gone_on
    refine' FC.then_ (FC.def_mk (x := "joined") (st := FC.s_joined) (ps := ["house", "frame"]) KX G (fun _ _ _ _ _ _ us hl => match us, hl with | [_, _], _ => rfl) ?a99 ?l99 ?c99 ?k99) ?z99; (case a99 => k_is); (case l99 => k_is); (case c99 => k_is); (case k99 => k_is); intro q_d_joined
    refine' FC.then_ (FC.def_mk (x := "is_between") (st := FC.s_is_between) (ps := ["number", "least", "most"]) KX G (fun _ _ _ _ _ _ us hl => match us, hl with | [_, _, _], _ => rfl) ?a100 ?l100 ?c100 ?k100) ?z100; (case a100 => k_is); (case l100 => k_is); (case c100 => k_is); (case k100 => k_is); intro q_d_is_between
    refine' FC.then_ (FC.def_mk (x := "sum_said") (st := FC.s_sum_said) (ps := ["numbers"]) KX G (fun _ _ _ _ _ _ us hl => match us, hl with | [_], _ => rfl) ?a101 ?l101 ?c101 ?k101) ?z101; (case a101 => k_is); (case l101 => k_is); (case c101 => k_is); (case k101 => k_is); intro q_d_sum_said
    refine' FC.then_ (FC.def_mk (x := "crc_said") (st := FC.s_crc_said) (ps := ["numbers"]) KX G (fun _ _ _ _ _ _ us hl => match us, hl with | [_], _ => rfl) ?a102 ?l102 ?c102 ?k102) ?z102; (case a102 => k_is); (case l102 => k_is); (case c102 => k_is); (case k102 => k_is); intro q_d_crc_said
    refine' FC.then_ (FC.def_mk (x := "check_said") (st := FC.s_check_said) (ps := ["numbers"]) KX G (fun _ _ _ _ _ _ us hl => match us, hl with | [_], _ => rfl) ?a103 ?l103 ?c103 ?k103) ?z103; (case a103 => k_is); (case l103 => k_is); (case c103 => k_is); (case k103 => k_is); intro q_d_check_said
    refine' FC.then_ (FC.def_mk (x := "pass_said") (st := FC.s_pass_said) (ps := ["numbers"]) KX G (fun _ _ _ _ _ _ us hl => match us, hl with | [_], _ => rfl) ?a104 ?l104 ?c104 ?k104) ?z104; (case a104 => k_is); (case l104 => k_is); (case c104 => k_is); (case k104 => k_is); intro q_d_pass_said
    refine' FC.then_ (FC.def_mk (x := "may_open") (st := FC.s_may_open) (ps := ["numbers"]) KX G (fun _ _ _ _ _ _ us hl => match us, hl with | [_], _ => rfl) ?a105 ?l105 ?c105 ?k105) ?z105; (case a105 => k_is); (case l105 => k_is); (case c105 => k_is); (case k105 => k_is); intro q_d_may_open
    refine' FC.then_ (FC.def_mk (x := "house_of") (st := FC.s_house_of) (ps := ["numbers"]) KX G (fun _ _ _ _ _ _ us hl => match us, hl with | [_], _ => rfl) ?a106 ?l106 ?c106 ?k106) ?z106; (case a106 => k_is); (case l106 => k_is); (case c106 => k_is); (case k106 => k_is); intro q_d_house_of
    refine' FC.then_ (FC.def_mk (x := "cut_said") (st := FC.s_cut_said) (ps := ["house", "numbers"]) KX G (fun _ _ _ _ _ _ us hl => match us, hl with | [_, _], _ => rfl) ?a107 ?l107 ?c107 ?k107) ?z107; (case a107 => k_is); (case l107 => k_is); (case c107 => k_is); (case k107 => k_is); intro q_d_cut_said
    refine' FC.then_ (FC.def_mk (x := "next_said") (st := FC.s_next_said) (ps := ["house", "numbers"]) KX G (fun _ _ _ _ _ _ us hl => match us, hl with | [_, _], _ => rfl) ?a108 ?l108 ?c108 ?k108) ?z108; (case a108 => k_is); (case l108 => k_is); (case c108 => k_is); (case k108 => k_is); intro q_d_next_said
    refine' FC.then_ (FC.def_mk (x := "join_said") (st := FC.s_join_said) (ps := ["house", "numbers"]) KX G (fun _ _ _ _ _ _ us hl => match us, hl with | [_, _], _ => rfl) ?a109 ?l109 ?c109 ?k109) ?z109; (case a109 => k_is); (case l109 => k_is); (case c109 => k_is); (case k109 => k_is); intro q_d_join_said
    refine' FC.then_ (FC.def_mk (x := "held_said") (st := FC.s_held_said) (ps := ["house", "numbers"]) KX G (fun _ _ _ _ _ _ us hl => match us, hl with | [_, _], _ => rfl) ?a110 ?l110 ?c110 ?k110) ?z110; (case a110 => k_is); (case l110 => k_is); (case c110 => k_is); (case k110 => k_is); intro q_d_held_said
    refine' FC.then_ (FC.def_mk (x := "drop_said") (st := FC.s_drop_said) (ps := ["house", "numbers"]) KX G (fun _ _ _ _ _ _ us hl => match us, hl with | [_, _], _ => rfl) ?a111 ?l111 ?c111 ?k111) ?z111; (case a111 => k_is); (case l111 => k_is); (case c111 => k_is); (case k111 => k_is); intro q_d_drop_said
    refine' FC.then_ (FC.def_mk (x := "counts_said") (st := FC.s_counts_said) (ps := ["house", "numbers"]) KX G (fun _ _ _ _ _ _ us hl => match us, hl with | [_, _], _ => rfl) ?a112 ?l112 ?c112 ?k112) ?z112; (case a112 => k_is); (case l112 => k_is); (case c112 => k_is); (case k112 => k_is); intro q_d_counts_said
    refine' FC.then_ (FC.def_mk (x := "message_said") (st := FC.s_message_said) (ps := ["house", "numbers"]) KX G (fun _ _ _ _ _ _ us hl => match us, hl with | [_, _], _ => rfl) ?a113 ?l113 ?c113 ?k113) ?z113; (case a113 => k_is); (case l113 => k_is); (case c113 => k_is); (case k113 => k_is); intro q_d_message_said
    refine' FC.then_ (FC.ini_mk (q := "Card.__init__") (st := FC.s_Card_init) (ps := ["self"]) q_mgC (fun _ _ _ _ _ _ us hl => match us, hl with | [_], _ => rfl) ?a114 ?i114 ?l114 ?c114 ?k114 ?mk114 ?kc114) ?z114; (case a114 => k_is); (case i114 => k_is); (case l114 => k_is); (case c114 => k_is); (case k114 => k_is); (case mk114 => k_is); (case kc114 => k_is); intro q_i_Card_init
    refine' FC.then_ (FC.met_mk (m := "opened") (q := "Card.opened") (st := FC.s_opened) (ps := ["self", "numbers"]) q_mgC (fun _ _ _ _ _ _ us hl => match us, hl with | [_, _], _ => rfl) ?a115 ?i115 ?l115 ?c115 ?k115) ?z115; (case a115 => k_is); (case i115 => k_is); (case l115 => k_is); (case c115 => k_is); (case k115 => k_is); intro q_m_opened
    refine' FC.then_ (FC.met_mk (m := "told") (q := "Card.told") (st := FC.s_told) (ps := ["self", "number", "numbers"]) q_mgC (fun _ _ _ _ _ _ us hl => match us, hl with | [_, _, _], _ => rfl) ?a116 ?i116 ?l116 ?c116 ?k116) ?z116; (case a116 => k_is); (case i116 => k_is); (case l116 => k_is); (case c116 => k_is); (case k116 => k_is); intro q_m_told
    refine' FC.then_ (FC.def_mk (x := "calls_in") (st := FC.s_calls_in) (ps := ["calls"]) KX G (fun _ _ _ _ _ _ us hl => match us, hl with | [_], _ => rfl) ?a117 ?l117 ?c117 ?k117) ?z117; (case a117 => k_is); (case l117 => k_is); (case c117 => k_is); (case k117 => k_is); intro q_d_calls_in
    refine' FC.then_ (FC.def_mk (x := "answers") (st := FC.s_answers) (ps := ["calls"]) KX G (fun _ _ _ _ _ _ us hl => match us, hl with | [_], _ => rfl) ?a118 ?l118 ?c118 ?k118) ?z118; (case a118 => k_is); (case l118 => k_is); (case c118 => k_is); (case k118 => k_is); intro q_d_answers
    refine' FC.then_ (FC.tab_BARE KX G ?a119 ?l119 ?w119 ?m2_119 ?m3_119 ?m6_119 ?m7_119 ?ks119) ?z119; (case a119 => k_is); (case l119 => k_is); (case w119 => decide +kernel); (case m2_119 => k_is); (case m3_119 => k_is); (case m6_119 => k_is); (case m7_119 => k_is); (case ks119 => exact ⟨⟨_, rfl⟩, rfl, rfl, ⟨_, rfl⟩, rfl, rfl, ⟨_, rfl⟩, rfl, rfl, ⟨_, rfl⟩, rfl, rfl, trivial⟩); intro q_t_BARE
    refine' FC.then_ (FC.tab_HOUSED KX G ?a120 ?l120 ?w120 ?m4_120 ?m5_120 ?m8_120 ?m9_120 ?m10_120 ?m11_120 ?m12_120 ?ks120) ?z120; (case a120 => k_is); (case l120 => k_is); (case w120 => decide +kernel); (case m4_120 => k_is); (case m5_120 => k_is); (case m8_120 => k_is); (case m9_120 => k_is); (case m10_120 => k_is); (case m11_120 => k_is); (case m12_120 => k_is); (case ks120 => exact ⟨⟨_, rfl⟩, rfl, rfl, ⟨_, rfl⟩, rfl, rfl, ⟨_, rfl⟩, rfl, rfl, ⟨_, rfl⟩, rfl, rfl, ⟨_, rfl⟩, rfl, rfl, ⟨_, rfl⟩, rfl, rfl, ⟨_, rfl⟩, rfl, rfl, trivial⟩); intro q_t_HOUSED
    exact FC.fin hmg ⟨q_n_len, q_n_range, q_c_WORD, q_c_LAST_WORD, q_c_ALL_ONES, q_c_DIVIDER, q_c_HEAD, q_c_REST, q_c_LEAST, q_c_FLOW_AT, q_c_PLACE_AT, q_c_LONG_AT, q_c_MARKS_AT, q_c_HOPS_AT, q_c_SUM_AT, q_c_BEGINS, q_c_ENDS, q_c_ALONE, q_c_MOST_MARKS, q_c_PLACES, q_c_MOST_FLOWS, q_c_MOST_LONG, q_c_BEGAN, q_c_GOES_ON, q_c_WHOLE, q_c_NOTHING_HELD, q_c_ELSEWHERE, q_c_TOO_LONG, q_c_NO_ROOM, q_c_FAULTY_joining, q_c_NOT_AS_TOLD, q_c_TOO_MANY, q_c_NONE_THERE, q_c_FAULTY_asks, q_c_LEAST_SIZE, q_c_MOST_SIZE, q_c_MOST_HOPS, q_c_MOST_BYTES, q_c_MOST_FRAME, q_c_MOST_FLOW, q_c_MOST_READY, q_c_OPEN, q_c_NO_HOUSE, q_t_BARE, q_t_HOUSED, q_mgE.1, q_mgE.2, q_noE_octets, q_noE_place, q_mgH.1, q_mgH.2, q_noH_size, q_noH_hops, q_noH_ready, q_noH_flows, q_noH_whole, q_noH_faulty, q_noH_good, q_noH_bad, q_mgC.1, q_mgC.2, q_noC_house, q_d_folded, q_d_word_at, q_d_sum_by_ones, q_d_check_of, q_d_mended_check, q_d_halved, q_d_divided_by_byte, q_d_rest_of, q_d_octets_of, q_d_number_at, q_d_with_rest, q_d_head_of, q_d_frame_of, q_d_flow_in, q_d_place_in, q_d_long_in, q_d_marks_in, q_d_hops_in, q_d_body_in, q_d_has_right_rest, q_d_has_right_sum, q_d_fault_of, q_d_passed_on, q_d_marks_of, q_i_Held_init, q_i_House_init, q_m_add_frames, q_m_take_frame, q_m_holds, q_m_held_of, q_m_let_go, q_m_hold, q_m_many_flows, q_m_keep_whole, q_m_count_faulty, q_m_count_answer, q_d_place_behind, q_d_frames_of, q_d_ended, q_d_begun, q_d_gone_on, q_d_joined, q_d_is_between, q_d_sum_said, q_d_crc_said, q_d_check_said, q_d_pass_said, q_d_may_open, q_d_house_of, q_d_cut_said, q_d_next_said, q_d_join_said, q_d_held_said, q_d_drop_said, q_d_counts_said, q_d_message_said, q_i_Card_init, q_m_opened, q_m_told, q_d_calls_in, q_d_answers⟩
  case S =>
    intro K H xs a hO hwi hask hx
    cases hx with
    | cons h1 h2 =>
      cases h2
      cases h1 with
      | lst hs ha =>
        have e := L2.ints_dw a.1 _ ha
        subst e
        have q : ((Codec.inLen 0 30000 a.1 && a.1.all (Codec.inInt (-2147483648) 4294967295)) && true) = true := hwi
        rw [Bool.and_eq_true, Bool.and_eq_true] at q
        exact ⟨_, a.1, rfl, hs, (Codec.inNat_iff.mp q.1.1).2, hask, fun H' p hp => .lst (L2.SqL.of hp) (L2.dw_ints _)⟩
#print axioms PySem.Challenge.cw_framecard_s01_answers_holds
