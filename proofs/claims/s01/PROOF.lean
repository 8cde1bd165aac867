import PyProof.Rows.All
import Wide.All
import OpenK.AllK
import Wide.FinOn
import PyProof.EqAt
import PyProof.EqKinds
import PyProof.TupleCall
import Open.SpecLaws
import KE.OsGo
import KE.OsArith
import PySem.Challenge.RW_learningdoor_s01_answers
import HandS.ForSpec
import HandS.Iter
import HandS.Rev
import HandS.Steps
set_option Elab.async false
set_option linter.all false
set_option maxRecDepth 100000
set_option maxHeartbeats 4000000
/-! # A door that learns: the program keeps its specification. By hand over the hand layer: the mathematics, the rules in short, the text by places, the promises, each def, the end. -/
namespace Ld
open Ks345 (Four Card)

/-! ### numbers and bytes -/
def IsB (l : List Nat) : Prop := ∀ b ∈ l, b < 256
theorem IsB.take {l : List Nat} (h : IsB l) (n : Nat) : IsB (l.take n) := fun b m => h b (List.mem_of_mem_take m)
theorem IsB.drop {l : List Nat} (h : IsB l) (n : Nat) : IsB (l.drop n) := fun b m => h b (List.mem_of_mem_drop m)
theorem number_lt : ∀ {l : List Nat}, IsB l → Ks345.number l < 256 ^ l.length
  | [], _ => by decide
  | b :: r, h => by
    have h1 : b < 256 := h b (List.mem_cons_self ..)
    have h2 := number_lt (l := r) fun x hx => h x (List.mem_cons_of_mem _ hx)
    show b + 256 * Ks345.number r < 256 ^ (r.length + 1)
    rw [Nat.pow_succ]
    omega
theorem number_lt64 {l : List Nat} (h : IsB l) (hl : l.length ≤ 8) : Ks345.number l < 2 ^ 64 :=
  Nat.lt_of_lt_of_le (number_lt h) (Nat.le_trans (Nat.pow_le_pow_right (by decide) hl) (by decide))
theorem number_lt16 {l : List Nat} (h : IsB l) (hl : l.length ≤ 2) : Ks345.number l < 65536 :=
  Nat.lt_of_lt_of_le (number_lt h) (Nat.le_trans (Nat.pow_le_pow_right (by decide) hl) (by decide))
theorem bytes_number : ∀ {l : List Nat}, IsB l → Ks345.bytes l.length (Ks345.number l) = l
  | [], _ => rfl
  | b :: r, h => by
    have h1 : b < 256 := h b (List.mem_cons_self ..)
    have h2 := bytes_number (l := r) fun x hx => h x (List.mem_cons_of_mem _ hx)
    show (b + 256 * Ks345.number r) % 256 :: Ks345.bytes r.length ((b + 256 * Ks345.number r) / 256) = b :: r
    have e1 : (b + 256 * Ks345.number r) % 256 = b := by omega
    have e2 : (b + 256 * Ks345.number r) / 256 = Ks345.number r := by omega
    rw [e1, e2, h2]
theorem number_bytes : ∀ (k n : Nat), n < 256 ^ k → Ks345.number (Ks345.bytes k n) = n
  | 0, n, h => by
    have : n = 0 := by simpa using h
    subst this
    rfl
  | k + 1, n, h => by
    have h2 := number_bytes k (n / 256) (by rw [Nat.pow_succ] at h; omega)
    show n % 256 + 256 * Ks345.number (Ks345.bytes k (n / 256)) = n
    rw [h2]
    omega
theorem bytes_length : ∀ (k n : Nat), (Ks345.bytes k n).length = k
  | 0, _ => rfl
  | k + 1, n => by
    show (Ks345.bytes k (n / 256)).length + 1 = k + 1
    rw [bytes_length k]
/-- i bytes, and one more -/
theorem bytes_succ : ∀ (k n : Nat), Ks345.bytes (k + 1) n = Ks345.bytes k n ++ [n / 256 ^ k % 256]
  | 0, n => by
    show [n % 256] = [n / 1 % 256]
    rw [Nat.div_one]
  | k + 1, n => by
    show n % 256 :: Ks345.bytes (k + 1) (n / 256) = n % 256 :: (Ks345.bytes k (n / 256) ++ [n / 256 ^ (k + 1) % 256])
    rw [bytes_succ k (n / 256), Nat.div_div_eq_div_mul, Nat.pow_succ, Nat.mul_comm 256]
theorem number_drop {l : List Nat} {j b : Nat} (h : l[j]? = some b) : 256 * Ks345.number (l.drop (j + 1)) + b = Ks345.number (l.drop j) := by
  obtain ⟨hj, e⟩ := List.getElem?_eq_some_iff.mp h
  rw [List.drop_eq_getElem_cons hj, e]
  show _ = b + 256 * Ks345.number (l.drop (j + 1))
  omega

/-! ### tags -/
structure Small (v : Four) : Prop where
  a : v.a < 2 ^ 64
  b : v.b < 2 ^ 64
  c : v.c < 2 ^ 64
  d : v.d < 2 ^ 64
theorem add_lt (a b : Nat) : Ks345.add a b < 2 ^ 64 := Nat.mod_lt _ (by decide)
theorem turn_gen {A B x : Nat} (hx : x < A * B) (hB : 0 < B) : (x * A) % (A * B) + x / B < A * B := by
  have e : (x * A) % (A * B) = (x % B) * A := by rw [Nat.mul_comm x A, Nat.mul_mod_mul_left, Nat.mul_comm]
  rw [e]
  have hq : x / B < A := Nat.div_lt_of_lt_mul (by rw [Nat.mul_comm]; exact hx)
  have hr : x % B + 1 ≤ B := Nat.mod_lt _ hB
  have h2 : (x % B + 1) * A ≤ B * A := Nat.mul_le_mul_right A hr
  rw [Nat.add_mul, Nat.one_mul, Nat.mul_comm B A] at h2
  omega
theorem turn_lt {n x : Nat} (hn : n ≤ 64) (hx : x < 2 ^ 64) : Ks345.turn n x < 2 ^ 64 := by
  have e : (2 : Nat) ^ 64 = 2 ^ n * 2 ^ (64 - n) := by rw [← Nat.pow_add, Nat.add_sub_cancel' hn]
  unfold Ks345.turn Ks345.W
  rw [e] at hx ⊢
  exact turn_gen hx (Nat.two_pow_pos _)
theorem xor64 {a b : Nat} (ha : a < 2 ^ 64) (hb : b < 2 ^ 64) : a ^^^ b < 2 ^ 64 := Nat.xor_lt_two_pow ha hb
theorem round_small {v : Four} (h : Small v) : Small (Ks345.round v) where
  a := add_lt _ _
  b := xor64 (turn_lt (by decide) (xor64 (turn_lt (by decide) h.b) (add_lt _ _))) (add_lt _ _)
  c := turn_lt (by decide) (add_lt _ _)
  d := xor64 (turn_lt (by decide) (xor64 (turn_lt (by decide) h.d) (add_lt _ _))) (add_lt _ _)
/-- the rounds as an iteration of any function: the kernel never looks into a round -/
def iter (f : Four → Four) : Nat → Four → Four
  | 0, v => v
  | n + 1, v => iter f n (f v)
theorem rounds_f : Ks345.rounds._f = iter._f Ks345.round := by
  delta Ks345.rounds._f iter._f
  delta Ks345.rounds.match_1 iter.match_1
  rfl
theorem rounds_iter : Ks345.rounds = iter Ks345.round := by
  delta Ks345.rounds iter
  rw [rounds_f]
theorem iter_zero (f : Four → Four) (v : Four) : iter f 0 v = v := rfl
theorem iter_step (f : Four → Four) (n : Nat) (v : Four) : iter f (n + 1) v = iter f n (f v) := rfl
theorem rounds_zero (v : Four) : Ks345.rounds 0 v = v := by rw [rounds_iter, iter_zero]
theorem rounds_step (n : Nat) (v : Four) : Ks345.rounds (n + 1) v = Ks345.rounds n (Ks345.round v) := by rw [rounds_iter, iter_step]
theorem rounds_small (n : Nat) : ∀ {v : Four}, Small v → Small (Ks345.rounds n v) := by
  induction n with
  | zero =>
    intro v h
    rw [rounds_zero]
    exact h
  | succ n ih =>
    intro v h
    rw [rounds_step]
    exact ih (round_small h)
theorem rounds_succ (n : Nat) : ∀ (v : Four), Ks345.rounds (n + 1) v = Ks345.round (Ks345.rounds n v) := by
  induction n with
  | zero =>
    intro v
    rw [rounds_step, rounds_zero, rounds_zero]
  | succ n ih =>
    intro v
    rw [rounds_step, ih (Ks345.round v), rounds_step]
theorem word_eq (v : Four) (m : Nat) : Ks345.word v m = ⟨(Ks345.rounds 2 ⟨v.a, v.b, v.c, v.d ^^^ m⟩).a ^^^ m, (Ks345.rounds 2 ⟨v.a, v.b, v.c, v.d ^^^ m⟩).b, (Ks345.rounds 2 ⟨v.a, v.b, v.c, v.d ^^^ m⟩).c, (Ks345.rounds 2 ⟨v.a, v.b, v.c, v.d ^^^ m⟩).d⟩ := by
  unfold Ks345.word
  rfl
theorem word_small {v : Four} {m : Nat} (h : Small v) (hm : m < 2 ^ 64) : Small (Ks345.word v m) := by
  have q := rounds_small 2 (v := ⟨v.a, v.b, v.c, v.d ^^^ m⟩) ⟨h.a, h.b, h.c, xor64 h.d hm⟩
  rw [word_eq]
  generalize Ks345.rounds 2 ⟨v.a, v.b, v.c, v.d ^^^ m⟩ = r at q
  exact ⟨xor64 q.a hm, q.b, q.c, q.d⟩
theorem begun_small {key : List Nat} (h : IsB key) (hl : key.length = 16) : Small (Ks345.begun key) := by
  have h1 : Ks345.number (key.take 8) < 2 ^ 64 := number_lt64 (h.take 8) (by rw [List.length_take]; omega)
  have h2 : Ks345.number (key.drop 8) < 2 ^ 64 := number_lt64 (h.drop 8) (by rw [List.length_drop]; omega)
  exact ⟨xor64 h1 (by decide), xor64 h2 (by decide), xor64 h1 (by decide), xor64 h2 (by decide)⟩
/-- the end of a tag -/
def fold4 (w : Four) : Nat := w.a ^^^ w.b ^^^ w.c ^^^ w.d
def fin (v : Four) : Nat := fold4 (Ks345.rounds 4 ⟨v.a, v.b, v.c ^^^ 255, v.d⟩)
theorem fold4_lt {w : Four} (q : Small w) : fold4 w < 2 ^ 64 := xor64 (xor64 (xor64 q.a q.b) q.c) q.d
theorem fin_lt {v : Four} (h : Small v) : fin v < 2 ^ 64 := by
  unfold fin
  exact fold4_lt (rounds_small 4 ⟨h.a, h.b, xor64 h.c (by decide), h.d⟩)
/-- the last word of eight bytes -/
def lastWord : Nat := 8 * 2 ^ 56
theorem taken_eq (k n : Nat) (v : Four) (m : List Nat) : Ks345.taken (k + 1) n v m = if m.length < 8 then Ks345.word v (Ks345.number m + (n % 256) * 2 ^ 56) else Ks345.taken k n (Ks345.word v (Ks345.number (m.take 8))) (m.drop 8) := by rw [Ks345.taken]
theorem fold4_alt (w : Four) : w.a ^^^ (w.b ^^^ (w.c ^^^ w.d)) = fold4 w := by
  unfold fold4
  rw [← Nat.xor_assoc, ← Nat.xor_assoc]
theorem tag_eq {key m : List Nat} (hm : m.length = 8) : Ks345.tag key m = fin (Ks345.word (Ks345.word (Ks345.begun key) (Ks345.number m)) lastWord) := by
  have e1 : Ks345.taken (m.length / 8 + 1) m.length (Ks345.begun key) m = Ks345.word (Ks345.word (Ks345.begun key) (Ks345.number m)) lastWord := by
    rw [hm]
    show Ks345.taken (1 + 1) 8 _ _ = _
    have e2 : m.take 8 = m := List.take_of_length_le (by omega)
    have e3 : m.drop 8 = [] := List.drop_eq_nil_of_le (by omega)
    rw [taken_eq, if_neg (by omega), e2, e3, taken_eq, if_pos (by decide)]
    rw [Ks345.number, Nat.zero_add]
    rfl
  unfold Ks345.tag fin
  rw [e1]
  exact fold4_alt _
theorem tag_lt {key m : List Nat} (hk : IsB key) (hl : key.length = 16) (hb : IsB m) (hm : m.length = 8) : Ks345.tag key m < 2 ^ 64 := by
  rw [tag_eq hm]
  exact fin_lt (word_small (word_small (begun_small hk hl) (number_lt64 hb (by omega))) (by decide))

/-! ### cards -/
def isPlace (k p : Nat) : Bool := if k = 1 ∨ k = 3 then decide (p ≤ 63) else if k = 2 then decide (1 ≤ p) else decide (k = 4) && decide (p = 255)
def isCard (key b : List Nat) : Bool := decide (b.length = 16) && (isPlace (b.getD 0 0) (b.getD 1 0) && decide (Ks345.bytes 8 (Ks345.tag key (b.take 8)) = b.drop 8))
theorem getD_lt {l : List Nat} (h : IsB l) (i : Nat) : l.getD i 0 < 256 := by
  rw [List.getD_eq_getElem?_getD]
  cases e : l[i]? with
  | none => decide
  | some b => exact h b (List.mem_of_getElem? e)
theorem okBytes_iff {n : Nat} {l : List Nat} (h : IsB l) : Ks345.okBytes n l = true ↔ l.length = n := by
  unfold Ks345.okBytes
  rw [Bool.and_eq_true, beq_iff_eq, List.all_eq_true]
  exact ⟨fun x => x.1, fun x => ⟨x, fun b hb => decide_eq_true (h b hb)⟩⟩
theorem okCard_iff {b : List Nat} (h : IsB b) : Ks345.okCard (Ks345.cardOf b) = isPlace (b.getD 0 0) (b.getD 1 0) := by
  have n2 : ∀ i, Ks345.number ((b.drop i).take 2) < 65536 := fun i => number_lt16 ((h.drop i).take 2) (by rw [List.length_take]; omega)
  unfold Ks345.okCard isPlace
  show (decide (Ks345.number ((b.drop 2).take 2) < 65536) && decide (Ks345.number ((b.drop 4).take 2) < 65536) && decide (Ks345.number ((b.drop 6).take 2) < 65536) && (if b.getD 0 0 = 1 ∨ b.getD 0 0 = 3 then decide (b.getD 1 0 < 64) else if b.getD 0 0 = 2 then decide (1 ≤ b.getD 1 0) && decide (b.getD 1 0 < 256) else b.getD 0 0 == 4 && b.getD 1 0 == 255)) = _
  rw [decide_eq_true (n2 2), decide_eq_true (n2 4), decide_eq_true (n2 6), decide_eq_true (getD_lt h 1)]
  simp only [Bool.true_and, Bool.and_true]
  split
  · exact decide_eq_decide.mpr (by omega)
  · split
    · rfl
    · rfl
theorem look_eq {key b : List Nat} (hk : IsB key) (hl : key.length = 16) (h : IsB b) : Ks345.look key b = if isCard key b = true then some (Ks345.cardOf b) else none := by
  unfold Ks345.look
  by_cases c : b.length = 16
  · have t1 : IsB (b.take 8) := h.take 8
    have t2 : (b.take 8).length = 8 := by rw [List.length_take]; omega
    have t3 : (b.drop 8).length = 8 := by rw [List.length_drop]; omega
    have tl := tag_lt hk hl t1 t2
    have e : (Ks345.number (b.drop 8) = Ks345.tag key (b.take 8)) ↔ (Ks345.bytes 8 (Ks345.tag key (b.take 8)) = b.drop 8) := by
      constructor
      · intro q
        rw [← q]
        have z := bytes_number (h.drop 8)
        rw [t3] at z
        exact z
      · intro q
        rw [← q]
        exact number_bytes 8 _ (Nat.lt_of_lt_of_le tl (by decide))
    have i : (Ks345.okBytes Ks345.CARD b = true ∧ Ks345.okCard (Ks345.cardOf b) = true ∧ Ks345.number (b.drop 8) = Ks345.tag key (b.take 8)) ↔ isCard key b = true := by
      unfold isCard
      rw [okBytes_iff h, okCard_iff h, e, Bool.and_eq_true, Bool.and_eq_true, decide_eq_true_iff, decide_eq_true_iff]
      exact Iff.rfl
    by_cases q : isCard key b = true
    · rw [if_pos (i.mpr q), if_pos q]
    · rw [if_neg fun z => q (i.mp z), if_neg q]
  · rw [if_neg fun z => c ((okBytes_iff h).mp z.1), if_neg]
    unfold isCard
    rw [decide_eq_false c, Bool.false_and]
    exact Bool.false_ne_true
end Ld
namespace Ld
open Ks345 (Four Card)
open Ks346 (Abs)

/-! ### a line read from its beginning -/
/-- whole numbers as Python's -/
def I (l : List Nat) : List Int := l.map fun (n : Nat) => (n : Int)
theorem I_length (l : List Nat) : (I l).length = l.length := List.length_map ..
theorem I_append (l m : List Nat) : I (l ++ m) = I l ++ I m := List.map_append
theorem I_take (l : List Nat) (n : Nat) : (I l).take n = I (l.take n) := List.map_take.symm
theorem I_drop (l : List Nat) (n : Nat) : (I l).drop n = I (l.drop n) := List.map_drop.symm
theorem I_nats (l : List Nat) : Ks346Neutral.nats (I l) = l := by
  unfold Ks346Neutral.nats I
  rw [List.map_map]
  exact (List.map_congr_left (fun a _ => rfl)).trans (List.map_id l)
theorem I_of : ∀ {l : List Int}, (∀ x ∈ l, 0 ≤ x) → I (l.map Int.toNat) = l
  | [], _ => rfl
  | x :: r, h => by
    have h1 : 0 ≤ x := h x (List.mem_cons_self ..)
    have h2 := I_of (l := r) fun y hy => h y (List.mem_cons_of_mem _ hy)
    show (x.toNat : Int) :: I (r.map Int.toNat) = x :: r
    rw [h2, Int.toNat_of_nonneg h1]
def manyOf : Nat → Nat
  | 0 => 2
  | 1 => 1
  | 4 => 1
  | 5 => 1
  | _ => 0
def rowOf : Nat → Bool
  | 0 => true
  | 2 => true
  | 3 => true
  | _ => false
def callOf (i : Nat) (nums row : List Nat) : Ks346.Call := match i with
  | 0 => .begin row (nums.getD 0 0) (nums.getD 1 0)
  | 1 => .day (nums.getD 0 0)
  | 2 => .open_ row
  | 3 => .would row
  | 4 => .bolt (nums.getD 0 0)
  | 5 => .book (nums.getD 0 0)
  | _ => .state
def stepOf (s : Abs) (i : Nat) (nums row : List Nat) : Abs × List Int := Ks346Neutral.sa (Ks346.act s (callOf i nums row))
def rowPart (i : Nat) (row : List Nat) : List Nat := if rowOf i = true then row.length :: row else []
/-- ms begins with the call i, its numbers, its row -/
structure One (ms : List Nat) (i : Nat) (nums row rest : List Nat) : Prop where
  lt : i < 7
  many : nums.length = manyOf i
  norow : rowOf i = false → row = []
  eq : ms = i :: (nums ++ (rowPart i row ++ rest))
/-- what the document lets be handed in -/
structure Fine (row : List Nat) : Prop where
  isb : IsB row
  len : row.length ≤ 100
/-- what reading one call tells -/
structure Read (f : Nat) (ms : List Nat) (raw : List (List (List Int))) (f' i : Nat) (nums row rest : List Nat) (c : List (List Int)) (raw' : List (List (List Int))) : Prop where
  one : One ms i nums row rest
  raw : raw = c :: raw'
  go : PyFlat.calls PyKs346.shape f' (I rest) = some raw'
  step : ∀ s, Ks346Neutral.step s (PyKs346.whole c) = stepOf s i nums row
  fine : Ks346Neutral.asked1 (PyKs346.whole c) = true → PyInside.call PyKs346.bound c = true → Fine row
theorem calls_cons {f : Nat} {p : Int} {r : List Int} {raw : List (List (List Int))} (h : PyFlat.calls PyKs346.shape f (p :: r) = some raw) :
    ∃ f' c t raw', PyFlat.call PyKs346.shape (p :: r) = some (c, t) ∧ PyFlat.calls PyKs346.shape f' t = some raw' ∧ raw = c :: raw' := by
  cases f with
  | zero => rw [PyFlat.calls] at h; cases h
  | succ f =>
    rw [PyFlat.calls] at h
    cases e : PyFlat.call PyKs346.shape (p :: r) with
    | none => rw [e] at h; cases h
    | some x =>
      obtain ⟨c, t⟩ := x
      rw [e] at h
      dsimp only at h
      cases e2 : PyFlat.calls PyKs346.shape f t with
      | none => rw [e2] at h; cases h
      | some raw' =>
        rw [e2] at h
        exact ⟨f, c, t, raw', rfl, e2, (Option.some.inj h).symm⟩
/-- a row read -/
theorem row_read {l : List Nat} {x t : List Int} (h : PyFlat.row (I l) = some (x, t)) : ∃ row rest, l = row.length :: (row ++ rest) ∧ x = I row ∧ t = I rest := by
  cases l with
  | nil => cases h
  | cons m r =>
    have h' : (if (0 : Int) ≤ (m : Int) ∧ (m : Int).toNat ≤ (I r).length then some ((I r).take (m : Int).toNat, (I r).drop (m : Int).toNat) else none) = some (x, t) := h
    by_cases c : (0 : Int) ≤ (m : Int) ∧ (m : Int).toNat ≤ (I r).length
    · rw [if_pos c] at h'
      have c2 : m ≤ r.length := by
        have := c.2
        rw [I_length] at this
        exact this
      have e := Option.some.inj h'
      have e1 : (I r).take m = x := congrArg Prod.fst e
      have e2 : (I r).drop m = t := congrArg Prod.snd e
      refine ⟨r.take m, r.drop m, ?_, ?_, ?_⟩
      · rw [List.take_append_drop, List.length_take, Nat.min_eq_left c2]
      · rw [← e1, I_take]
      · rw [← e2, I_drop]
    · rw [if_neg c] at h'
      cases h'
theorem call_of_shape {p : Int} {r : List Int} {n k : Nat} {c : List (List Int)} {t : List Int} (hs : PyKs346.shape p = some (n, k)) (h : PyFlat.call PyKs346.shape (p :: r) = some (c, t)) :
    n ≤ r.length ∧ ∃ xs, PyFlat.rows k (r.drop n) = some (xs, t) ∧ c = (p :: r.take n) :: xs := by
  rw [PyFlat.call] at h
  rw [hs] at h
  dsimp only at h
  by_cases l : r.length < n
  · rw [if_pos l] at h; cases h
  · rw [if_neg l] at h
    refine ⟨by omega, ?_⟩
    cases e : PyFlat.rows k (r.drop n) with
    | none => rw [e] at h; cases h
    | some x =>
      obtain ⟨xs, t'⟩ := x
      rw [e] at h
      dsimp only at h
      have e2 := Option.some.inj h
      have e3 : ((p :: r.take n) :: xs) = c := congrArg Prod.fst e2
      have e4 : t' = t := congrArg Prod.snd e2
      subst e4
      exact ⟨xs, rfl, e3.symm⟩
theorem rows0 {l xs t} (h : PyFlat.rows 0 l = some (xs, t)) : xs = [] ∧ t = l := by
  rw [PyFlat.rows] at h
  have e2 := Option.some.inj h
  exact ⟨(congrArg Prod.fst e2).symm, (congrArg Prod.snd e2).symm⟩
theorem rows1 {l xs t} (h : PyFlat.rows 1 l = some (xs, t)) : ∃ x, PyFlat.row l = some (x, t) ∧ xs = [x] := by
  rw [PyFlat.rows] at h
  cases e : PyFlat.row l with
  | none => rw [e] at h; cases h
  | some y =>
    obtain ⟨x, s⟩ := y
    rw [e] at h
    dsimp only at h
    rw [PyFlat.rows] at h
    dsimp only at h
    have e2 := Option.some.inj h
    have e3 : [x] = xs := congrArg Prod.fst e2
    have e4 : s = t := congrArg Prod.snd e2
    subst e4
    exact ⟨x, rfl, e3.symm⟩
/-- bytes, from the document's word -/
theorem bytes_of_natural {row : List Nat} (h : (I row).all (fun (z : Int) => Ks346Neutral.natural z 8) = true) : IsB row := by
  intro b hb
  have h1 := List.all_eq_true.mp h (b : Int) (List.mem_map.mpr ⟨b, hb, rfl⟩)
  unfold Ks346Neutral.natural at h1
  rw [Bool.and_eq_true, decide_eq_true_iff, decide_eq_true_iff] at h1
  have h2 : (b : Int) < 2 ^ 8 := h1.2
  have h3 : (2 : Int) ^ 8 = 256 := by decide
  omega
theorem lists_len {lo hi : Int} {least most : Nat} {b : List (Int × Int × Nat × Nat)} {row : List Nat} {rs : List (List Int)} (h : PyInside.lists ((lo, hi, least, most) :: b) (I row :: rs) = true) : row.length ≤ most := by
  rw [PyInside.lists] at h
  rw [Bool.and_eq_true, Bool.and_eq_true, Bool.and_eq_true] at h
  have := of_decide_eq_true h.1.1.2
  rw [I_length] at this
  exact this
theorem read_one {f m : Nat} {r : List Nat} {raw : List (List (List Int))} (h : PyFlat.calls PyKs346.shape f (I (m :: r)) = some raw) :
    ∃ f' i nums row rest c raw', Read f (m :: r) raw f' i nums row rest c raw' := by
  obtain ⟨f', c, t, raw', hc, hgo, he⟩ := calls_cons (p := (m : Int)) (r := I r) h
  have no : IsB ([] : List Nat) := fun b hb => absurd hb (by simp)
  match m, hc with
  | 0, hc =>
    obtain ⟨hl, xs, hr, hcc⟩ := call_of_shape (n := 2) (k := 1) rfl hc
    obtain ⟨x, hx, hxs⟩ := rows1 hr
    rw [I_drop] at hx
    obtain ⟨row, rest, e1, e2, e3⟩ := row_read hx
    subst hxs e2 e3 hcc
    rw [I_length] at hl
    match r, hl, e1, he, hgo with
    | a :: b :: r', _, e1, he, hgo =>
      have e1' : r' = row.length :: (row ++ rest) := e1
      refine ⟨f', 0, [a, b], row, rest, _, raw', ⟨by decide, rfl, (fun q => by cases q), ?_⟩, he, hgo, fun s => ?_, fun h1 h2 => ⟨?_, ?_⟩⟩
      · rw [e1']; rfl
      · show Ks346Neutral.sa (Ks346.act s (.begin (Ks346Neutral.nats (I row)) a b)) = Ks346Neutral.sa (Ks346.act s (.begin row a b))
        rw [I_nats]
      · have h1' : (Ks346Neutral.natural (a : Int) 32 && Ks346Neutral.natural (b : Int) 32 && ((I row).all (fun (z : Int) => Ks346Neutral.natural z 8))) = true := h1
        rw [Bool.and_eq_true] at h1'
        exact bytes_of_natural h1'.2
      · have h2' : (PyInside.each _ _ && PyInside.lists [(0, 255, 0, 100)] [I row]) = true := h2
        rw [Bool.and_eq_true] at h2'
        exact lists_len h2'.2
  | 1, hc =>
    obtain ⟨hl, xs, hr, hcc⟩ := call_of_shape (n := 1) (k := 0) rfl hc
    obtain ⟨hxs, ht⟩ := rows0 hr
    subst hxs ht hcc
    rw [I_length] at hl
    match r, hl, he, hgo with
    | a :: r', _, he, hgo =>
      exact ⟨f', 1, [a], [], r', _, raw', ⟨by decide, rfl, fun _ => rfl, rfl⟩, he, hgo, fun s => rfl, fun h1 h2 => ⟨no, by decide⟩⟩
  | 2, hc =>
    obtain ⟨hl, xs, hr, hcc⟩ := call_of_shape (n := 0) (k := 1) rfl hc
    obtain ⟨x, hx, hxs⟩ := rows1 hr
    rw [I_drop] at hx
    obtain ⟨row, rest, e1, e2, e3⟩ := row_read hx
    have e1' : r = row.length :: (row ++ rest) := e1
    subst hxs e2 e3 hcc
    refine ⟨f', 2, [], row, rest, _, raw', ⟨by decide, rfl, (fun q => by cases q), ?_⟩, he, hgo, fun s => ?_, fun h1 h2 => ⟨?_, ?_⟩⟩
    · rw [e1']; rfl
    · show Ks346Neutral.sa (Ks346.act s (.open_ (Ks346Neutral.nats (I row)))) = Ks346Neutral.sa (Ks346.act s (.open_ row))
      rw [I_nats]
    · exact bytes_of_natural h1
    · have h2' : (true && PyInside.lists [(0, 255, 0, 100)] [I row]) = true := h2
      rw [Bool.and_eq_true] at h2'
      exact lists_len h2'.2
  | 3, hc =>
    obtain ⟨hl, xs, hr, hcc⟩ := call_of_shape (n := 0) (k := 1) rfl hc
    obtain ⟨x, hx, hxs⟩ := rows1 hr
    rw [I_drop] at hx
    obtain ⟨row, rest, e1, e2, e3⟩ := row_read hx
    have e1' : r = row.length :: (row ++ rest) := e1
    subst hxs e2 e3 hcc
    refine ⟨f', 3, [], row, rest, _, raw', ⟨by decide, rfl, (fun q => by cases q), ?_⟩, he, hgo, fun s => ?_, fun h1 h2 => ⟨?_, ?_⟩⟩
    · rw [e1']; rfl
    · show Ks346Neutral.sa (Ks346.act s (.would (Ks346Neutral.nats (I row)))) = Ks346Neutral.sa (Ks346.act s (.would row))
      rw [I_nats]
    · exact bytes_of_natural h1
    · have h2' : (true && PyInside.lists [(0, 255, 0, 100)] [I row]) = true := h2
      rw [Bool.and_eq_true] at h2'
      exact lists_len h2'.2
  | 4, hc =>
    obtain ⟨hl, xs, hr, hcc⟩ := call_of_shape (n := 1) (k := 0) rfl hc
    obtain ⟨hxs, ht⟩ := rows0 hr
    subst hxs ht hcc
    rw [I_length] at hl
    match r, hl, he, hgo with
    | a :: r', _, he, hgo =>
      exact ⟨f', 4, [a], [], r', _, raw', ⟨by decide, rfl, fun _ => rfl, rfl⟩, he, hgo, fun s => rfl, fun h1 h2 => ⟨no, by decide⟩⟩
  | 5, hc =>
    obtain ⟨hl, xs, hr, hcc⟩ := call_of_shape (n := 1) (k := 0) rfl hc
    obtain ⟨hxs, ht⟩ := rows0 hr
    subst hxs ht hcc
    rw [I_length] at hl
    match r, hl, he, hgo with
    | a :: r', _, he, hgo =>
      exact ⟨f', 5, [a], [], r', _, raw', ⟨by decide, rfl, fun _ => rfl, rfl⟩, he, hgo, fun s => rfl, fun h1 h2 => ⟨no, by decide⟩⟩
  | 6, hc =>
    obtain ⟨hl, xs, hr, hcc⟩ := call_of_shape (n := 0) (k := 0) rfl hc
    obtain ⟨hxs, ht⟩ := rows0 hr
    subst hxs ht hcc
    exact ⟨f', 6, [], [], r, _, raw', ⟨by decide, rfl, fun _ => rfl, rfl⟩, he, hgo, fun s => rfl, fun h1 h2 => ⟨no, by decide⟩⟩
  | m + 7, hc =>
    exfalso
    have e : PyKs346.shape ((m + 7 : Nat) : Int) = none := by
      unfold PyKs346.shape
      rw [if_neg (by omega), if_neg (by omega), if_neg (by omega), if_neg (by omega), if_neg (by omega), if_neg (by omega), if_neg (by omega)]
    rw [PyFlat.call] at hc
    rw [e] at hc
    cases hc
end Ld
namespace Ld
open Ks345 (Four Card)
open Ks346 (Abs)

/-! ### a whole line -/
def OkRaw (raw : List (List (List Int))) : Prop := ∀ c ∈ raw, Ks346Neutral.asked1 (PyKs346.whole c) = true ∧ PyInside.call PyKs346.bound c = true
/-- what is due of the calls from a state on -/
def due (s : Abs) (raw : List (List (List Int))) : List Int := PyFlat.told (PyFlat.played Ks346Neutral.step s (raw.map PyKs346.whole))
structure Line (ns : List Int) (ms : List Nat) (raw : List (List (List Int))) : Prop where
  eq : ns = I ms
  go : PyFlat.calls PyKs346.shape ms.length (I ms) = some raw
  ok : OkRaw raw
  due : PyKs346.answers ns = due Ks346Neutral.start raw
  short : (PyKs346.answers ns).length ≤ 10000000
theorem line_of {ns : List Int} (hb : ∀ x ∈ ns, 0 ≤ x) (h : PyKs346.answers_asked ns = true) : ∃ ms raw, Line ns ms raw := by
  have e0 := I_of hb
  unfold PyKs346.answers_asked at h
  cases e : PyFlat.calls PyKs346.shape ns.length ns with
  | none => rw [e] at h; cases h
  | some raw =>
    rw [e] at h
    dsimp only at h
    rw [Bool.and_eq_true, Bool.and_eq_true, Bool.and_eq_true, Bool.and_eq_true] at h
    obtain ⟨⟨⟨⟨_, _⟩, h3⟩, h4⟩, h5⟩ := h
    refine ⟨ns.map Int.toNat, raw, e0.symm, ?_, fun c hc => ⟨?_, ?_⟩, ?_, ?_⟩
    · rw [e0, List.length_map]
      exact e
    · unfold Ks346Neutral.asked at h4
      rw [Bool.and_eq_true, Bool.and_eq_true, Bool.and_eq_true, Bool.and_eq_true] at h4
      exact List.all_eq_true.mp h4.1.1.1.1 _ (List.mem_map.mpr ⟨c, hc, rfl⟩)
    · unfold PyInside.calls at h3
      exact List.all_eq_true.mp h3 c hc
    · unfold PyKs346.answers PyKs346.calls
      rw [e]
      rfl
    · exact of_decide_eq_true h5
theorem due_cons {s : Abs} {c : List (List Int)} {raw : List (List (List Int))} {i : Nat} {nums row : List Nat} (h : ∀ s, Ks346Neutral.step s (PyKs346.whole c) = stepOf s i nums row) :
    due s (c :: raw) = (((stepOf s i nums row).2.length : Nat) : Int) :: ((stepOf s i nums row).2 ++ due (stepOf s i nums row).1 raw) := by
  unfold due
  rw [List.map_cons, PyFlat.played, h]
  unfold PyFlat.told
  rw [List.flatMap_cons, List.cons_append]
theorem due_nil {s : Abs} : due s [] = [] := rfl
/-- the place where a line stands: done told, from s on with rest to be read -/
structure Stand (total : List Int) (f : Nat) (rest : List Nat) (raw : List (List (List Int))) (s : Abs) (done : List Int) : Prop where
  go : PyFlat.calls PyKs346.shape f (I rest) = some raw
  ok : OkRaw raw
  eq : done ++ due s raw = total
theorem stand_end {total : List Int} {f : Nat} {raw : List (List (List Int))} {s : Abs} {done : List Int} (h : Stand total f [] raw s done) : done = total := by
  have e : raw = [] := by
    have g := h.go
    cases f with
    | zero => exact (Option.some.inj g).symm
    | succ f => exact (Option.some.inj g).symm
  have q := h.eq
  rw [e, due_nil, List.append_nil] at q
  exact q
/-- one call more -/
theorem stand_turn {total : List Int} {f m : Nat} {r : List Nat} {raw : List (List (List Int))} {s : Abs} {done : List Int} (h : Stand total f (m :: r) raw s done) :
    ∃ i nums row rest f' raw', One (m :: r) i nums row rest ∧ Fine row ∧ Stand total f' rest raw' (stepOf s i nums row).1 (done ++ [(((stepOf s i nums row).2.length : Nat) : Int)] ++ (stepOf s i nums row).2) := by
  obtain ⟨f', i, nums, row, rest, c, raw', R⟩ := read_one h.go
  have hok := h.ok
  rw [R.raw] at hok
  have hc := hok c (List.mem_cons_self ..)
  refine ⟨i, nums, row, rest, f', raw', R.one, R.fine hc.1 hc.2, R.go, fun d hd => hok d (List.mem_cons_of_mem _ hd), ?_⟩
  have q := h.eq
  rw [R.raw, due_cons R.step] at q
  rw [← q, List.append_assoc, List.append_assoc]
  rfl

/-! ### what a door does -/
def isRoom (c : Card) : Bool := decide (c.kind = 1) || decide (c.kind = 3)
def ansRoom (s : Abs) (c : Card) : Int :=
  if c.place ≠ s.room then -13 else if c.last < s.day then -34 else if c.number < s.number then -17 else if c.kind = 1 ∧ s.bolted = true then -15 else (c.kind : Int)
def ansZone (s : Abs) (c : Card) : Int :=
  if c.kind = 2 ∧ ¬ (c.place / 2 ^ s.zone % 2 = 1) then -13 else if c.last < s.day then -34 else if c.number < s.epoch then -17 else if c.kind = 2 ∧ s.bolted = true then -15 else (c.kind : Int)
def ans (s : Abs) (c : Card) : Int := if isRoom c = true then ansRoom s c else ansZone s c
/-- a door's numbers behind a card that it learns from -/
def taught (s : Abs) (c : Card) : Abs := if isRoom c = true then { s with number := c.number } else { s with epoch := c.number }
def unbolted (s : Abs) (c : Card) : Abs := if c.kind = 4 then { s with bolted := false } else s
def learned (s : Abs) (c : Card) : Abs := Ks346.wrote (unbolted (taught s c) c) c
theorem isRoom_iff {c : Card} : isRoom c = true ↔ (c.kind = 1 ∨ c.kind = 3) := by
  unfold isRoom
  rw [Bool.or_eq_true, decide_eq_true_iff, decide_eq_true_iff]
theorem learned_room {s : Abs} {c : Card} (h : c.kind = 1 ∨ c.kind = 3) : learned s c = Ks346.wrote { s with number := c.number } c := by
  unfold learned taught unbolted
  rw [if_neg (show ¬ c.kind = 4 by omega), if_pos (isRoom_iff.mpr h)]
theorem learned_staff {s : Abs} {c : Card} (h : c.kind = 2) : learned s c = Ks346.wrote { s with epoch := c.number } c := by
  unfold learned taught unbolted
  rw [if_neg (show ¬ c.kind = 4 by omega), if_neg (fun q => by have := isRoom_iff.mp q; omega)]
theorem learned_four {s : Abs} {c : Card} (h : c.kind = 4) : learned s c = Ks346.wrote { s with epoch := c.number, bolted := false } c := by
  unfold learned taught unbolted
  rw [if_pos h, if_neg (fun q => by have := isRoom_iff.mp q; omega)]
theorem shown_ans {s : Abs} {c : Card} (hk : c.kind = 1 ∨ c.kind = 2 ∨ c.kind = 3 ∨ c.kind = 4) : Ks346.shown s c = (if 0 < ans s c then learned s c else s, ans s c) := by
  by_cases hr : c.kind = 1 ∨ c.kind = 3
  · have e : ans s c = ansRoom s c := if_pos (isRoom_iff.mpr hr)
    rw [e, learned_room hr]
    unfold Ks346.shown
    rw [if_pos hr]
    by_cases h1 : c.place ≠ s.room
    · have z : ansRoom s c = -13 := if_pos h1
      rw [if_pos h1, z]; rfl
    rw [if_neg h1]
    by_cases h2 : c.last < s.day
    · have z : ansRoom s c = -34 := (if_neg h1).trans (if_pos h2)
      rw [if_pos h2, z]; rfl
    rw [if_neg h2]
    by_cases h3 : c.number < s.number
    · have z : ansRoom s c = -17 := (if_neg h1).trans ((if_neg h2).trans (if_pos h3))
      rw [if_pos h3, z]; rfl
    rw [if_neg h3]
    by_cases h4 : c.kind = 1 ∧ s.bolted = true
    · have z : ansRoom s c = -15 := (if_neg h1).trans ((if_neg h2).trans ((if_neg h3).trans (if_pos h4)))
      rw [z, if_neg (by omega), if_pos h4.2]; rfl
    · have z : ansRoom s c = (c.kind : Int) := (if_neg h1).trans ((if_neg h2).trans ((if_neg h3).trans (if_neg h4)))
      rw [z]
      by_cases h5 : c.kind = 3
      · rw [if_pos h5, h5]; rfl
      · have h6 : c.kind = 1 := by omega
        rw [if_neg h5, if_neg (fun q => h4 ⟨h6, q⟩), h6]; rfl
  · have e : ans s c = ansZone s c := if_neg fun q => hr (isRoom_iff.mp q)
    rw [e]
    unfold Ks346.shown
    rw [if_neg hr]
    have tb : (c.place.testBit s.zone = false) ↔ ¬ (c.place / 2 ^ s.zone % 2 = 1) := by
      rw [Nat.testBit_eq_decide_div_mod_eq, decide_eq_false_iff_not]
    by_cases h1 : c.kind = 2 ∧ ¬ (c.place / 2 ^ s.zone % 2 = 1)
    · have z : ansZone s c = -13 := if_pos h1
      rw [if_pos ⟨h1.1, tb.mpr h1.2⟩, z]; rfl
    rw [if_neg fun q => h1 ⟨q.1, tb.mp q.2⟩]
    by_cases h2 : c.last < s.day
    · have z : ansZone s c = -34 := (if_neg h1).trans (if_pos h2)
      rw [if_pos h2, z]; rfl
    rw [if_neg h2]
    by_cases h3 : c.number < s.epoch
    · have z : ansZone s c = -17 := (if_neg h1).trans ((if_neg h2).trans (if_pos h3))
      rw [if_pos h3, z]; rfl
    rw [if_neg h3]
    by_cases h4 : c.kind = 2 ∧ s.bolted = true
    · have z : ansZone s c = -15 := (if_neg h1).trans ((if_neg h2).trans ((if_neg h3).trans (if_pos h4)))
      rw [z, if_neg (by omega), if_pos h4.2]; rfl
    · have z : ansZone s c = (c.kind : Int) := (if_neg h1).trans ((if_neg h2).trans ((if_neg h3).trans (if_neg h4)))
      rw [z]
      by_cases h5 : c.kind = 4
      · rw [if_pos h5, learned_four h5, h5]; rfl
      · have h6 : c.kind = 2 := by omega
        rw [if_neg h5, if_neg (fun q => h4 ⟨h6, q⟩), learned_staff h6, h6]; rfl
theorem isPlace_kind {k p : Nat} (h : isPlace k p = true) : k = 1 ∨ k = 2 ∨ k = 3 ∨ k = 4 := by
  unfold isPlace at h
  split at h
  · omega
  · split at h
    · omega
    · rw [Bool.and_eq_true, decide_eq_true_iff] at h
      omega
theorem card_kind {key b : List Nat} (h : isCard key b = true) : (Ks345.cardOf b).kind = 1 ∨ (Ks345.cardOf b).kind = 2 ∨ (Ks345.cardOf b).kind = 3 ∨ (Ks345.cardOf b).kind = 4 := by
  unfold isCard at h
  rw [Bool.and_eq_true, Bool.and_eq_true] at h
  exact isPlace_kind h.2.1

/-! ### the calls -/
/-- a door is there: its key is one -/
structure Keyed (s : Abs) : Prop where
  isb : IsB s.key
  len : s.key.length = 16
theorem Keyed.on {s : Abs} (h : Keyed s) : s.on = true := by
  have : s.key ≠ [] := fun e => by
    have := h.len
    rw [e] at this
    cases this
  unfold Abs.on
  exact bne_iff_ne.mpr this
theorem off_start : Ks346Neutral.start.on = false := by decide
theorem step_off {s : Abs} {i : Nat} {nums row : List Nat} (h : s.on = false) (hi : i ≠ 0) : stepOf s i nums row = (s, [-61]) := by
  unfold stepOf
  match i, hi with
  | 1, _ | 2, _ | 3, _ | 4, _ | 5, _ | n + 6, _ =>
    unfold callOf
    simp only [Ks346.act, h, if_true]
    rfl
theorem step_begin {s : Abs} {r z : Nat} {row : List Nat} (hb : IsB row) : stepOf s 0 [r, z] row = if row.length = 16 ∧ r ≤ 63 ∧ z ≤ 7 then ({ key := row, room := r, zone := z }, [0]) else (s, [-22]) := by
  show Ks346Neutral.sa (if Ks345.okBytes Ks345.KEY row = false ∨ Ks345.ROOMS ≤ r ∨ 8 ≤ z then (s, Ks346.no (-22)) else ({ key := row, room := r, zone := z }, Ks346.no 0)) = _
  have hk : Ks345.okBytes Ks345.KEY row = true ↔ row.length = 16 := okBytes_iff hb
  by_cases c : row.length = 16 ∧ r ≤ 63 ∧ z ≤ 7
  · rw [if_pos c, if_neg]
    · rfl
    · rintro (h | h | h)
      · rw [hk.mpr c.1] at h; cases h
      · exact absurd c.2.1 (by have : 64 ≤ r := h; omega)
      · omega
  · rw [if_neg c, if_pos]
    · rfl
    · by_cases a : row.length = 16
      · have : ¬ (r ≤ 63 ∧ z ≤ 7) := fun q => c ⟨a, q⟩
        have h2 : 64 ≤ r ∨ 8 ≤ z := by omega
        exact .inr h2
      · exact .inl (Bool.eq_false_iff.mpr fun q => a (hk.mp q))
theorem step_day {s : Abs} {d : Nat} {row : List Nat} (h : s.on = true) : stepOf s 1 [d] row = if s.day ≤ d ∧ d ≤ 65535 then ({ s with day := d }, [0]) else (s, [-22]) := by
  show Ks346Neutral.sa (if s.on = false then (s, Ks346.no (-61)) else if d < s.day ∨ 65536 ≤ d then (s, Ks346.no (-22)) else ({ s with day := d }, Ks346.no 0)) = _
  rw [if_neg (by rw [h]; decide)]
  by_cases c : s.day ≤ d ∧ d ≤ 65535
  · rw [if_pos c, if_neg (by omega)]; rfl
  · rw [if_neg c, if_pos (by omega)]; rfl
theorem step_bolt {s : Abs} {v : Nat} {row : List Nat} (h : s.on = true) : stepOf s 4 [v] row = if v ≤ 1 then ({ s with bolted := decide (v = 1) }, [0]) else (s, [-22]) := by
  show Ks346Neutral.sa (if s.on = false then (s, Ks346.no (-61)) else if 1 < v then (s, Ks346.no (-22)) else ({ s with bolted := v == 1 }, Ks346.no 0)) = _
  rw [if_neg (by rw [h]; decide)]
  by_cases c : v ≤ 1
  · rw [if_pos c, if_neg (by omega)]; rfl
  · rw [if_neg c, if_pos (by omega)]; rfl
theorem step_would {s : Abs} {nums row : List Nat} (h : Keyed s) (hb : IsB row) : stepOf s 3 nums row = (s, [if isCard s.key row = true then ans s (Ks345.cardOf row) else -71]) := by
  show Ks346Neutral.sa (if s.on = false then (s, Ks346.no (-61)) else match Ks345.look s.key row with
    | none => (s, Ks346.no (-71))
    | some c => (s, Ks346.no (Ks346.shown s c).2)) = _
  rw [if_neg (by rw [h.on]; decide), look_eq h.isb h.len hb]
  by_cases c : isCard s.key row = true
  · rw [if_pos c, if_pos c]
    dsimp only
    rw [shown_ans (card_kind c)]; rfl
  · rw [if_neg c, if_neg c]; rfl
theorem step_open {s : Abs} {nums row : List Nat} (h : Keyed s) (hb : IsB row) : stepOf s 2 nums row = if isCard s.key row = true then (if 0 < ans s (Ks345.cardOf row) then learned s (Ks345.cardOf row) else s, [ans s (Ks345.cardOf row)]) else (s, [-71]) := by
  show Ks346Neutral.sa (if s.on = false then (s, Ks346.no (-61)) else match Ks345.look s.key row with
    | none => (s, Ks346.no (-71))
    | some c => ((Ks346.shown s c).1, Ks346.no (Ks346.shown s c).2)) = _
  rw [if_neg (by rw [h.on]; decide), look_eq h.isb h.len hb]
  by_cases c : isCard s.key row = true
  · rw [if_pos c, if_pos c]
    dsimp only
    rw [shown_ans (card_kind c)]; rfl
  · rw [if_neg c, if_neg c]; rfl
theorem step_book {s : Abs} {k : Nat} {row : List Nat} (h : s.on = true) : stepOf s 5 [k] row = match s.book[k]? with
    | none => (s, [-2])
    | some e => (s, [(e.kind : Int), (e.number : Int), (e.serial : Int), (e.day : Int)]) := by
  show Ks346Neutral.sa (if s.on = false then (s, Ks346.no (-61)) else match s.book[k]? with
    | none => (s, Ks346.no (-2))
    | some e => (s, { ret := e.kind, out := [e.number, e.serial, e.day] })) = _
  rw [if_neg (by rw [h]; decide)]
  cases s.book[k]? with
  | none => rfl
  | some e => rfl
theorem step_state {s : Abs} {nums row : List Nat} (h : s.on = true) : stepOf s 6 nums row = (s, [if s.bolted then 1 else 0, (s.room : Int), (s.zone : Int), (s.day : Int), (s.number : Int), (s.epoch : Int), ((s.book.length : Nat) : Int)]) := by
  show Ks346Neutral.sa (if s.on = false then (s, Ks346.no (-61)) else (s, { ret := if s.bolted then 1 else 0, out := [s.room, s.zone, s.day, s.number, s.epoch, s.book.length] })) = _
  rw [if_neg (by rw [h]; decide)]
  rfl
theorem learned_key {s : Abs} {c : Card} : (learned s c).key = s.key := by
  unfold learned Ks346.wrote unbolted taught
  dsimp only
  split <;> split <;> rfl
theorem learned_keyed {s : Abs} {c : Card} (h : Keyed s) : Keyed (learned s c) := ⟨by rw [learned_key]; exact h.isb, by rw [learned_key]; exact h.len⟩
end Ld
namespace PySem
namespace RefX
open PySem.W PySem.Calls PyProof.Rows PySem.HandSPX
/-! ### the text of __init__ -/
def iA (p1 p2 : Pos) : Arguments := { posonlyargs := [], args := [{ arg := "self", annotation := none, pos := p1 }, { arg := "number", annotation := none, pos := p2 }], vararg := none, kwonlyargs := [], kw_defaults := [], kwarg := none, defaults := [] }
def iB (q1 q2 q3 q4 : Pos) : List Stmt := [.Assign [.Attribute (.Name "self" q1) "number" q2] (.Name "number" q3) q4]
def iS : Scope := { kind := .function, names := [(PySem.Str.ofString "self", .local), (PySem.Str.ofString "number", .local)], isGenerator := false, isCoroutine := false, more := [] }
/-- what the written part says of Refused, at C, and of its __init__, at fI -/
structure RefTxt (K : Frag) (mg : Str → Option Value) (C fI : Addr) : Prop where
  gC : mg "Refused" = some (.ref C)
  cls : ∃ nm q N bs bm sn sub ab col dd k0 k1 k2 k3 k5, K.lookup C = some (excClassObj nm q C N bs bm true sn sub ab col dd k0 k1 k2 k3 k5 "ValueError.__new__") ∧ refsVE bm = true
  sa : findIn K (.ref C) "__setattr__" = some (some (.builtin "object.__setattr__"))
  ga : findIn K (.ref C) "__getattribute__" = some (some (.builtin "BaseException.__getattribute__"))
  gg : findIn K (.ref C) "__getattr__" = some none
  noN : findIn K (.ref C) "number" = some none
  iC : findIn K (.ref C) "__init__" = some (some (.ref fI))
  tC : typeIn K (.ref fI) = some (.type "function")
  kC : keepIn K (.ref C) = true
  exC : subIn K (.ref C) (.type "BaseException") = some true
  tyC : typeIn K (.ref C) = some (.type "type")
  hdC : hasDictIn K C = true
  te : exmOne K (.ref C) (.ref C) = some true
  fn : ∃ (oc : Value) (od : Option Addr) (doc pm : Value) (an : Option Addr) (cdv ct : Value) (osl : Array (Option Value)) (p1 p2 q1 q2 q3 q4 : Pos),
    K.lookup fI = some ⟨oc, od, .func (fnOf "__init__" "Refused.__init__" (iA p1 p2) (iB q1 q2 q3 q4) iS .none .none doc pm an cdv ct), osl⟩ ∧ codeIn K cdv "Refused.__init__" = true
theorem one_size (v : Value) : [v].length ≤ sizeLine := by
  rw [sizeLine_eq]
  exact (by decide : 1 ≤ 16777216)
theorem kept_but {K : Frag} {h h' : Heap} {x : Addr} (X : K.In h) (hx : K.lookup x = none) (k : ∀ b o, b ≠ x → h.get? b = some o → h'.get? b = some o) : K.In h' := fun a o e =>
  k a o (fun z => by rw [z, hx] at e; cases e) (X a o e)
theorem ldC {M : Model} {s : Shared} {name : Str} {scope : Scope} {L a : Addr} {cd : Value} {m : Str → Option Value} {x : Str} {pos : Pos} {v : Value} {Q : Value → Shared → Prop} {A : Around} {E : Value → Shared → Prop} (hn : s.heap.Ns L m) (hv : m x = some v) (h : Q v s)
    (hk : scope.kind = .function := by rfl) (hl : (envOfC name scope L a cd).kindOf x = some .local := by rfl) (hd : (x == ("__debug__" : Str)) = false := by decide) :
    wpAny M A (eval (.Name x pos) (envOfC name scope L a cd)) Q E s := wpAny_Name (wpAny_loadName_local hk hl hn hv h) hd
/-- what __init__ leaves of a fresh exception at x -/
structure InitEnd (h h' : Heap) (x C dx t1 : Addr) (v : Value) : Prop where
  keep : ∀ b o, b ≠ x → h.get? b = some o → h'.get? b = some o
  obj : h'.get? x = some { cls := .ref C, dict := some dx, data := .fields #[.ref t1, .none, .none, .none, .bool false, .none] }
  dbig : h.objs.size ≤ dx
  dne : dx ≠ x
  ns : h'.Ns1 dx (fun y => if y = "number" then some v else none)
/-- a made Refused -/
structure OwnMade (h h' : Heap) (e C d : Addr) (v : Value) : Prop where
  keep : ∀ b o, h.get? b = some o → h'.get? b = some o
  new : h.objs.size ≤ e
  obj : ∃ oe vs, h'.get? e = some oe ∧ oe.cls = .ref C ∧ oe.dict = some d ∧ oe.data = .fields vs ∧ vs[1]? = some .none
  dbig : h.objs.size ≤ d
  dne : d ≠ e
  ns : h'.Ns1 d (fun y => if y = "number" then some v else none)
section
variable {prog : Program} {w : World} {A : Around} {E : Value → Shared → Prop} {R : Result → Shared → Prop} {s : Shared} {K : Frag} {mg : Str → Option Value} {C fI : Addr}
theorem ref_init (T : RefTxt K mg C fI) {x t0 : Addr} {v : Value} (X : K.In s.heap) (hlim : s.heap.NoLimit) (hx : s.heap.get? x = some (excO C t0)) (hnx : K.lookup x = none) (hroom : A.depth < recursionLimit)
    (hq : ∀ h' tk dx, InitEnd s.heap h' x C dx t0 v → R (.ok (.ret .none)) { s with heap := h', toks := tk }) :
    codeAny (model prog w) A (.call (.ref fI) ⟨[.ref x, v], []⟩) R s := by
  obtain ⟨oc, od, doc, pm, an, cdv, ct, osl, p1, p2, q1, q2, q3, q4, ho, hcd⟩ := T.fn
  obtain ⟨nm, q, N, bs, bm, sn, sub, ab, col, dd, k0, k1, k2, k3, k5, hC, hbm⟩ := T.cls
  have hcl : clsIn K C = some { name := nm, bases := bs, mro := .ref C :: bm, ns := N, qualname := q, hasDict := true, slotNames := sn, subclasses := sub, abstract := ab, collection := col, hasDel := false } := by unfold clsIn; rw [hC] <;> rfl
  refine Att.call_fn (binds := [("self", .ref x), ("number", v)]) X hlim ho hcd hroom (BindsTo.of_eq (by first | rfl | with_unfolding_all rfl)) (by first | rfl | decide | with_unfolding_all rfl) (fun s₁ IC => ?_) rfl rfl rfl
  obtain ⟨h₁, tk₁, rfl⟩ := IC.toInCall.same
  have k : ∀ b o, s.heap.get? b = some o → h₁.get? b = some o := IC.toInCall.keep
  have hn := IC.toInCall.ns
  have hxL : s.heap.objs.size ≠ x := Nat.ne_of_gt (Heap.lt_size hx)
  have X₁ : K.In h₁ := X.keeps k
  have hx₁ := k _ _ hx
  -- self.by = by
  show wpAny _ _ (execs _ _) _ _ _
  refine wpAny_execs_cons (plainObj_wpAny_Assign_Attribute ?_)
  refine ldC (v := v) hn (by first | rfl | with_unfolding_all rfl | kernel_rfl) (ldC (v := .ref x) hn (by first | rfl | with_unfolding_all rfl | kernel_rfl) ?_)
  refine set_plain X₁ (ox := excO C t0) (od := none) ⟨hx₁, rfl, rfl, trivial⟩ T.sa ?_
  refine exc_osa X₁ hx₁ hcl (show refsVE (.ref C :: bm) = true from hbm) rfl T.noN (fun h₃ tk₃ dx k₃ dn dne hx₃ hn₃ => ?_)
  show wpAny _ _ (execs _ _) _ _ _
  have z : s.heap.objs.size < h₁.objs.size := hn.lt
  exact wpAny_execs_nil (hq h₃ tk₃ dx ⟨fun b o hb e => k₃ b o hb (k b o e), hx₃, Nat.le_of_lt (Nat.lt_of_lt_of_le z dn), dne, hn₃⟩)
theorem ref_made (T : RefTxt K mg C fI) {v : Value} (X : K.In s.heap) (hlim : s.heap.NoLimit) (hroom : A.depth + 1 < recursionLimit)
    (hq : ∀ h' tk e d, OwnMade s.heap h' e C d v → R (.ok (.ret (.ref e))) { s with heap := h', toks := tk }) :
    codeAny (model prog w) A (.call (.ref C) ⟨[v], []⟩) R s := by
  obtain ⟨nm, q, N, bs, bm, sn, sub, ab, col, dd, k0, k1, k2, k3, k5, hC, hbm⟩ := T.cls
  obtain ⟨hp, g, dr, tk, os⟩ := s
  have k : ∀ b o, hp.get? b = some o → ((hp.push (kdv_tup [v])).push (excO C hp.objs.size)).get? b = some o := fun b o e => Heap.get?_push_of_some _ (Heap.get?_push_of_some _ e)
  have hget : ((hp.push (kdv_tup [v])).push (excO C hp.objs.size)).get? (hp.objs.size + 1) = some (excO C hp.objs.size) := by heap_get
  have hnx : K.lookup (hp.objs.size + 1) = none := by
    cases e : K.lookup (hp.objs.size + 1) with
    | none => rfl
    | some o =>
      have z : hp.get? (hp.objs.size + 1) = some o := X _ _ e
      exact absurd (Nat.lt_of_succ_lt (Heap.lt_size z)) (Nat.lt_irrefl _)
  refine call_own F.excBase_ValueError (fun X => refsVE_contains X bm hbm) (X _ _ hC) (looks_findIn X T.iC) (fun self => bind_fn X self T.tC) (one_size v) ?_
  refine ref_init (s := ⟨(hp.push (kdv_tup [v])).push (excO C hp.objs.size), g, dr, tk, os⟩) T (X.keeps k) (hlim.keeps k) hget hnx ?_ fun h' tk' dx ⟨k', hx, dn, dne, hns⟩ => ?_
  · show A.depth + 1 < recursionLimit
    exact hroom
  · have old : ∀ b o, hp.get? b = some o → h'.get? b = some o := fun b o e => k' b o (Nat.ne_of_lt (Nat.lt_succ_of_lt (Heap.lt_size e))) (k b o e)
    have z : hp.objs.size + 1 + 1 ≤ dx := by
      first
        | (simpa only [Heap.size_push] using dn)
        | exact dn
        | (have q := dn; rw [Heap.size_push, Heap.size_push] at q; exact q)
    exact ⟨rfl, hq h' tk' (hp.objs.size + 1) dx ⟨old, Nat.le_succ _, ⟨_, _, hx, rfl, rfl, rfl, rfl⟩, Nat.le_trans (Nat.le_trans (Nat.le_succ _) (Nat.le_succ _)) z, dne, hns⟩⟩
end
end RefX
end PySem
namespace PySem.RefX
open PySem PySem.Spec PyProof.Rows L2
theorem relO_ref {v : V} {v' : Value} (r : RelV v v') (f : Str) : RelO (List.lookup f [(("number" : Str), v)]) (if f = "number" then some v' else none) := by
  by_cases hw : f = "number"
  · subst hw
    rw [if_pos rfl]
    have q : List.lookup ("number" : Str) [(("number" : Str), v)] = some v := by simp [List.lookup]
    rw [q]
    exact r
  · rw [if_neg hw]
    have qw : (f == ("number" : Str)) = false := by simpa using hw
    have q2 : List.lookup f [(("number" : Str), v)] = none := by simp [List.lookup, qw]
    rw [q2]
    trivial
section
variable {X : Cx} {C fI : Addr}
/-- Refused(e) -/
def tMkRef (C : Addr) (ta : TA) : L2.St → Hp → XK → Prop := fun σ H Q => ta σ H fun vs H1 => ∃ v, vs = [v] ∧ ∀ d, H1 d = none → Q (.ref C) (some d) (upd H1 d (.xd [(("number" : Str), v)]))
theorem pmk_ref {a : Expr} {ta : TA} {p pos : Pos} {k : Nat} (T : PySem.RefX.RefTxt X.K X.mg C fI) (hr : Room k X.A) (ha : PA X [a] ta) (hg : Gl X "Refused" := by rfl)
    (he : starEach (a :: []) X.env = (false, eval a X.env) :: starEach [] X.env := by rfl) (hpl : (backTo pos (starEach [] X.env)).any (·.1) = false := by rfl) :
    PMk X (.Call (.Name "Refused" p) [a] [] pos) (tMkRef C ta) := by
  intro pins s σ H Q I h
  refine wpAny_Call_Name_kw (ld_glob I hg T.gC ?_)
  refine PySem.W.callWith_K (h₀ := X.base) I.ok.mod.kin T.kC (thn (ha.run pos pins s σ H _ I h) fun us s1 hh => ?_) he hpl
  obtain ⟨vs, H1, I1, r1, v, ev, q1⟩ := hh
  subst ev
  refine ⟨I1.kIn, ?_⟩
  cases r1 with
  | cons rv rn =>
    rename_i v' us'
    cases rn
    show wpAny _ _ (call (.ref C) [v']) _ _ _
    have hlim := I1.nolimit
    obtain ⟨hp, g, dr, tk, os⟩ := s1
    refine wpAny_call (PySem.RefX.ref_made T I1.kIn hlim (by have := hr.dp; omega) fun h' tk' e d M => ?_)
    show MkP X pins σ Q (.ref e) ⟨h', g, dr, tk', os⟩
    obtain ⟨oe, fv, hoe, hc, hd, hdat, h1⟩ := M.obj
    have hns := M.ns
    obtain ⟨G', g1, g2⟩ := restrict h' fun b => decide (b ≠ e)
    have gk : ∀ b, b ≠ e → G'.get? b = h'.get? b := fun b hb => g1 b (decide_eq_true hb)
    have ge : G'.get? e = none := g2 e (by simp)
    have old : ∀ b o, hp.get? b = some o → G'.get? b = some o := fun b o q => (gk b (Nat.ne_of_lt (Nat.lt_of_lt_of_le (Heap.lt_size q) M.new))).trans (M.keep b o q)
    have ob : ObjOk X.prog X.w (upd H1 d (.xd [(("number" : Str), v)])) G' d (.xd [(("number" : Str), v)]) :=
      ⟨_, hns.at (fun o q => (gk d M.dne).trans q), fun f => relO_ref rv f⟩
    have J : Inv X pins σ (upd H1 d (.xd [(("number" : Str), v)])) ⟨G', g, dr, tk', os⟩ := I1.laid (t' := tk') old M.dbig ob
    refine ⟨e, oe, fv, ⟨G', g, dr, tk', os⟩, _, .ref C, some d, rfl, J, fun b o q => ?_, ge, hoe, ⟨hc, hd⟩, hdat, h1, ?_, rfl, I1.bare, raises_own T.exC T.tyC, q1 d (I1.hok.fresh M.dbig)⟩
    · by_cases hb : b = e
      · have q' : G'.get? b = some o := q
        rw [hb, ge] at q'; cases q'
      · exact (gk b hb).symm.trans q
    · rw [upd_ne (Ne.symm M.dne)]
      exact I1.hok.fresh M.new
/-- raise Refused(e) -/
def tRaiseRef (C : Addr) (W : WX) (ta : TA) : TS := fun _ σ H => tMkRef C ta σ H fun cls d H' => W cls d σ H'
theorem ps_raiseRef {a : Expr} {ta : TA} {W : WX} {p pos pos2 : Pos} {k : Nat} (hc : X.calm = true) (T : PySem.RefX.RefTxt X.K X.mg C fI) (hr : Room k X.A) (tk : Takes X W) (ha : PA X [a] ta) (hg : Gl X "Refused" := by rfl)
    (he : starEach (a :: []) X.env = (false, eval a X.env) :: starEach [] X.env := by rfl) (hpl : (backTo pos (starEach [] X.env)).any (·.1) = false := by rfl) :
    PS X (.Raise (some (.Call (.Name "Refused" p) [a] [] pos)) none pos2) (tRaiseRef C W ta) := ps_raise hc tk (pmk_ref T hr ha hg he hpl)
/-- refused.number, refused the exception that the suite holds (at a; its class cls, its dict d) -/
def tByRef (C : Addr) (a : Addr) (cls : Value) (d : Option Addr) (te : TE) : TE := fun σ H Q => te σ H fun x H1 => x = .ref a ∧ cls = .ref C ∧ ∃ (dd : Addr) (v : V), d = some dd ∧ H1 dd = some (.xd [(("number" : Str), v)]) ∧ Q v H1
theorem pe_byRef {a : Addr} {oe : Obj} {cls : Value} {d : Option Addr} {pn : List (Addr × Obj)} {e : Expr} {te : TE} {pos : Pos} (T : PySem.RefX.RefTxt X.K X.mg C fI) (hz : Zc cls d oe) (hf : ∃ vs, oe.data = .fields vs) (he : PE (X.suite a ((a, oe) :: pn)) e te)
    (hb : attributeBase e "number" X.env (eval e X.env) = eval e X.env := by rfl) :
    PE (X.suite a ((a, oe) :: pn)) (.Attribute e "number" pos) (tByRef C a cls d te) := by
  refine ⟨fun pins s σ H Q I h => ?_⟩
  refine attr_of hb (thn (he.run pins s σ H _ I h) fun u s1 hh => ?_)
  obtain ⟨x, H1, I1, rx, ex, ec, dd, v, ed, ea, q⟩ := hh
  subst ex
  obtain rfl : u = Value.ref a := rx
  subst ec
  subst ed
  obtain ⟨ha, _⟩ := I1.pin (a, oe) (List.mem_append_left _ List.mem_cons_self)
  obtain ⟨vs, hd⟩ := hf
  have hx : ObjOk X.prog X.w H1 s1.heap dd (.xd [(("number" : Str), v)]) := I1.hok dd _ ea
  obtain ⟨mA, hns, hr⟩ := hx
  obtain ⟨od, ho, hl⟩ := lookIn_ns hns
  have l : List.lookup ("number" : Str) [(("number" : Str), v)] = some v := by simp [List.lookup]
  obtain ⟨u, hu, ru⟩ := RelO.some_of (v := v) (o := mA "number") (by rw [← l]; exact hr "number")
  have J : PySem.W.InstAt s1.heap a oe C (some od) := ⟨ha, hz.1, by unfold PySem.W.notCls; rw [hd] <;> rfl, by rw [hz.2]; exact ho⟩
  exact HandSPX.exc_get I1.kIn J T.ga T.gg T.exC (PySem.W.findObj_own T.hdC T.noN rfl (by rw [hl, hu])) (handed_of ru) ⟨v, H1, I1.tok _, ru, q⟩
end
end PySem.RefX

namespace Ld
open PySem PySem.Spec PyProof.Rows L2
/-! ### rules in short -/
/-- the def at f keeps its promise, and its arguments bind -/
structure Def (P : Program) (w : World) (K : PySem.W.Frag) (mg : Str → Option Value) (base : Heap) (CX : CXT) (k : Nat) (f : Addr) (ps : List Str) (sp : Sp) : Prop where
  ex : ∃ fd, FnOk P w K mg base CX k f fd ps sp ∧ Binds K fd ps []
  kp : PySem.W.keepIn K (.ref f) = true
section
variable {X : Cx} {CX : CXT} {k : Nat} {f C : Addr} {ps : List Str} {sp : Sp} {E : XK} {x m : Str} {p pos apos : Pos} {e o : Expr} {es : List Expr} {ta : TE} {t : TA}
theorem pe_gint {i : Int} (h : ∃ t, X.mg x = some (.int i t)) (hg : Gl X x := by rfl) (hd : (x == ("__debug__" : Str)) = false := by decide) : PE X (.Name x pos) (tC (.int i)) := by
  obtain ⟨t, h⟩ := h
  exact pe_glob hg h ⟨t, rfl⟩ hd
theorem pe_callD (G : Def X.prog X.w X.K X.mg X.base CX k f ps sp) (hr : Room k X.A) (hg : Gl X x) (hm : X.mg x = some (.ref f)) (hx : Passes CX X E) (ha : PA X (e :: es) t)
    (hdb : (x == ("__debug__" : Str)) = false := by decide) (he : starEach (e :: es) X.env = (false, eval e X.env) :: starEach es X.env := by rfl) (hpl : (backTo pos (starEach es X.env)).any (·.1) = false := by rfl) :
    PE X (.Call (.Name x p) (e :: es) [] pos) (tCall sp [] E t) := by
  obtain ⟨fd, F, hb⟩ := G.ex
  exact pe_call F hr hg hm G.kp hb .nil hx ha hdb he hpl
theorem pe_callSD {E : L2.St → XK} (G : Def X.prog X.w X.K X.mg X.base CX k f ps sp) (hr : Room k X.A) (hg : Gl X x) (hm : X.mg x = some (.ref f)) (hx : ∀ σ, PassesAt CX X σ (E σ)) (ha : PA X (e :: es) t)
    (hdb : (x == ("__debug__" : Str)) = false := by decide) (he : starEach (e :: es) X.env = (false, eval e X.env) :: starEach es X.env := by rfl) (hpl : (backTo pos (starEach es X.env)).any (·.1) = false := by rfl) :
    PE X (.Call (.Name x p) (e :: es) [] pos) (tCallS sp E t) := by
  obtain ⟨fd, F, hb⟩ := G.ex
  exact pe_callS F hr hg hm G.kp hb hx ha hdb he hpl
theorem pe_methD {pl : Sem Bool} (he : PE X o ta) (c : Cls X.K C) (hm : Meth X.K C m f) (G : Def X.prog X.w X.K X.mg X.base CX k f ps sp) (hr : Room k X.A) (hx : Passes CX X E) (ha : PA X (e :: es) t)
    (hst : starEach (e :: es) X.env = (false, eval e X.env) :: starEach es X.env := by rfl) (hpl : (backTo pos (starEach es X.env)).any (·.1) = false := by rfl)
    (ht : eval (.Call (.Attribute o m apos) (e :: es) [] pos) X.env = (do
      let ov ← eval o X.env
      standAt apos.atName
      let (f, first) ← holding [ov] (getMethod ov m pl)
      callWith pos f first (backTo pos (starEach (e :: es) X.env)) (backToKw pos (keywordEach [] X.env))) := by rfl) :
    PE X (.Call (.Attribute o m apos) (e :: es) [] pos) (tMeth C m sp [] E ta t) := by
  obtain ⟨fd, F, hb⟩ := G.ex
  exact pe_meth he c hm F hr hb .nil hx ha hst hpl ht
theorem pe_meth0D {pl : Sem Bool} (he : PE X o ta) (c : Cls X.K C) (hm : Meth X.K C m f) (G : Def X.prog X.w X.K X.mg X.base CX k f ps sp) (hr : Room k X.A) (hx : Passes CX X E)
    (ht : eval (.Call (.Attribute o m apos) [] [] pos) X.env = (do
      let ov ← eval o X.env
      standAt apos.atName
      let (f, first) ← holding [ov] (getMethod ov m pl)
      callWith pos f first (backTo pos (starEach [] X.env)) (backToKw pos (keywordEach [] X.env))) := by rfl) :
    PE X (.Call (.Attribute o m apos) [] [] pos) (tMeth C m sp [] E ta tNil) := by
  obtain ⟨fd, F, hb⟩ := G.ex
  exact pe_meth0 he c hm F hr hb .nil hx ht
theorem pe_makeD (M : Mk X.K C f) (G : Def X.prog X.w X.K X.mg X.base CX k f ps sp) (hr : Room (k + 1) X.A) (hg : Gl X x) (hm : X.mg x = some (.ref C)) (hx : Passes CX X E) (ha : PA X (e :: es) t)
    (hdb : (x == ("__debug__" : Str)) = false := by decide) (he : starEach (e :: es) X.env = (false, eval e X.env) :: starEach es X.env := by rfl) (hpl : (backTo pos (starEach es X.env)).any (·.1) = false := by rfl) :
    PE X (.Call (.Name x p) (e :: es) [] pos) (tMake C sp [] E t) := by
  obtain ⟨fd, F, hb⟩ := G.ex
  exact pe_make M F hr hg hm hb .nil hx ha hdb he hpl
theorem pe_make0D (M : Mk X.K C f) (G : Def X.prog X.w X.K X.mg X.base CX k f ps sp) (hr : Room (k + 1) X.A) (hg : Gl X x) (hm : X.mg x = some (.ref C)) (hx : Passes CX X E)
    (hdb : (x == ("__debug__" : Str)) = false := by decide) : PE X (.Call (.Name x p) [] [] pos) (tMake C sp [] E tNil) := by
  obtain ⟨fd, F, hb⟩ := G.ex
  exact pe_make0 M F hr hg hm hb .nil hx hdb
/-- a local name that holds one of several defs, in a try: the promise goes with the address -/
def tCallAS (i : Nat) (S : Addr → Sp → Prop) (E : L2.St → XK) (t : TA) : TE := fun σ H Q => ∃ f sp, σ[i]? = some (some (.ref f)) ∧ S f sp ∧ t σ H fun vs H1 => sp vs H1 Q (E σ)
theorem pe_callAS {i : Nat} {S : Addr → Sp → Prop} {E : L2.St → XK} (A : ∀ f sp, S f sp → ∃ ps, Def X.prog X.w X.K X.mg X.base CX k f ps sp) (hr : Room k X.A) (hN : X.N[i]? = some x) (hv : Vis X.env.scope x) (hx : ∀ σ, PassesAt CX X σ (E σ)) (ha : PA X (e :: es) t)
    (hdb : (x == ("__debug__" : Str)) = false := by decide) (hcd : (x == ("__classdict__" : Str)) = false := by decide)
    (he : starEach (e :: es) X.env = (false, eval e X.env) :: starEach es X.env := by rfl) (hpl : (backTo pos (starEach es X.env)).any (·.1) = false := by rfl) :
    PE X (.Call (.Name x p) (e :: es) [] pos) (tCallAS i S E t) := by
  refine ⟨fun pins s σ H Q I h => ?_⟩
  obtain ⟨f, sp, hs, hS, ht⟩ := h
  obtain ⟨ps, G⟩ := A f sp hS
  obtain ⟨fd, F, hb⟩ := G.ex
  refine wpAny_Call_Name_kw (thn ((pe_var (pos := p) hN hv hdb hcd).run pins s σ H (fun v H1 => v = .ref f ∧ H1 = H) I ⟨.ref f, hs, rfl, rfl⟩) fun u s1 ⟨v, H1, I1, r1, q1⟩ => ?_)
  obtain ⟨rfl, rfl⟩ := q1
  cases r1
  refine PySem.W.callWith_K (h₀ := X.base) I.ok.mod.kin G.kp (thn (ha.run pos pins s1 σ _ _ I1 ht) fun us s2 ⟨vs, H2, I2, r, q⟩ => ⟨I2.kIn, ?_⟩) he hpl
  exact run_fnS F hr hb (hx σ) I2 r q
end
/-! ### the operators' readings, by name -/
abbrev rAddI : R2 := rI0 fun i j => .int (i + j)
abbrev rSubI : R2 := rI0 fun i j => .int (i - j)
abbrev rMulI : R2 := rI CMul fun i j => .int (i * j)
abbrev rModI : R2 := rI (fun _ j => 0 < j) fun i j => .int (i % j)
abbrev rDivI : R2 := rI CDiv fun i j => .int (i / j)
abbrev rShlI : R2 := rI CPow fun i j => .int (i * 2 ^ j.toNat)
abbrev rShrI : R2 := rI (fun _ j => 0 ≤ j) fun i j => .int (i / 2 ^ j.toNat)
abbrev rXorI : R2 := rI0 fun i j => .int (Builtin.bitXor i j)
abbrev rAndI : R2 := rI0 fun i j => .int (Builtin.bitAnd i j)
abbrev rLtI : R2 := rI0 fun i j => .bl (decide (i < j))
abbrev rLeI : R2 := rI0 fun i j => .bl (decide (i ≤ j))
abbrev rGtI : R2 := rI0 fun i j => .bl (decide (j < i))
abbrev rGeI : R2 := rI0 fun i j => .bl (decide (j ≤ i))
abbrev rNotNone : R2 := fun x y H Q => y = .non ∧ Q (.bl (!decide (x = .non))) H
abbrev rLen (K : PySem.W.Frag) : List V → Hp → VK → Prop := fun xs H Q => ∃ p ys, xs = [.ref p] ∧ (SqL K H p ys ∨ SqT K H p ys) ∧ Q (.int ys.length) H
abbrev rInt1 : List V → Hp → VK → Prop := fun xs H Q => (∃ i, xs = [.int i] ∧ Q (.int i) H) ∨ ∃ k, xs = [.bl k] ∧ Q (.int (if k then 1 else 0)) H
abbrev rList (K : PySem.W.Frag) : List V → Hp → VK → Prop := fun xs H Q => ∃ p ys, xs = [.ref p] ∧ (SqL K H p ys ∨ SqT K H p ys) ∧ ∀ l, H l = none → Q (.ref l) (upd H l (.lst ys))
/-! ### numbers from nought -/
theorem or_xor_and (a : Nat) : ∀ b : Nat, a ||| b = (a ^^^ b) + (a &&& b) := by
  induction a using Nat.strongRecOn with
  | ind a ih =>
    intro b
    by_cases h : a = 0
    · subst h; simp
    · have q := ih (a / 2) (by omega) (b / 2)
      have e1 := Nat.or_div_two (a := a) (b := b)
      have e2 := Nat.xor_div_two (a := a) (b := b)
      have e3 := Nat.and_div_two (a := a) (b := b)
      have m1 : (a ||| b) % 2 = (a % 2 ||| b % 2) := by
        have := Nat.or_mod_two_pow (a := a) (b := b) (n := 1)
        simpa using this
      have m2 : (a ^^^ b) % 2 = (a % 2 ^^^ b % 2) := by
        have := Nat.xor_mod_two_pow (a := a) (b := b) (n := 1)
        simpa using this
      have m3 : (a &&& b) % 2 = (a % 2 &&& b % 2) := by
        have := Nat.and_mod_two_pow (a := a) (b := b) (n := 1)
        simpa using this
      have m : (a % 2 ||| b % 2) = (a % 2 ^^^ b % 2) + (a % 2 &&& b % 2) := by
        rcases Nat.mod_two_eq_zero_or_one a with x | x <;> rcases Nat.mod_two_eq_zero_or_one b with y | y <;> rw [x, y] <;> rfl
      rw [← e1, ← e2, ← e3] at q
      rw [← m1, ← m2, ← m3] at m
      omega
theorem xor_nat (a b : Nat) : Builtin.bitXor (a : Int) (b : Int) = ((a ^^^ b : Nat) : Int) := by
  have e : Builtin.bitOr (a : Int) (b : Int) = ((a ||| b : Nat) : Int) := by
    have n1 : ¬ (0 : Int) ≤ -(a : Int) - 1 := by omega
    have n2 : ¬ (0 : Int) ≤ -(b : Int) - 1 := by omega
    have t1 : (-(-(a : Int) - 1) - 1).toNat = a := by omega
    have t2 : (-(-(b : Int) - 1) - 1).toNat = b := by omega
    have z : Builtin.bitAnd (-(a : Int) - 1) (-(b : Int) - 1) = -((a ||| b : Nat) : Int) - 1 := by
      unfold Builtin.bitAnd
      rw [decide_eq_false n1, decide_eq_false n2]
      show -(((-(-(a : Int) - 1) - 1).toNat ||| (-(-(b : Int) - 1) - 1).toNat : Nat) : Int) - 1 = _
      rw [t1, t2]
    show -(Builtin.bitAnd (-(a : Int) - 1) (-(b : Int) - 1)) - 1 = _
    rw [z]
    omega
  show Builtin.bitOr (a : Int) (b : Int) - Builtin.bitAnd (a : Int) (b : Int) = _
  rw [e, PySem.W.os_band, or_xor_and]
  omega
end Ld
namespace Ld
open PySem PySem.Spec PyProof.Rows L2
/-! ### the text by places -/
def top (i : Nat) : Stmt := PySem.Challenge.pw_learningdoor_s01_answers.main.body.getD i (.Pass ⟨0, 0, 0, 0⟩)
abbrev s_Mixer_init : Stmt := inClass (top 5) 0
theorem sc_Mixer_init : FnScope ["self", "k", "l"] ["self", "k", "l"] (defScope s_Mixer_init) := ⟨rfl, rfl, rfl, by decide +kernel, rfl, by decide +kernel, by decide +kernel⟩
abbrev s_Mixer_turn_once : Stmt := inClass (top 5) 1
theorem sc_Mixer_turn_once : FnScope ["self"] ["self"] (defScope s_Mixer_turn_once) := ⟨rfl, rfl, rfl, by decide +kernel, rfl, by decide +kernel, by decide +kernel⟩
abbrev s_Mixer_rounds : Stmt := inClass (top 5) 2
theorem sc_Mixer_rounds : FnScope ["self", "many", "k"] ["self", "many"] (defScope s_Mixer_rounds) := ⟨rfl, rfl, rfl, by decide +kernel, rfl, by decide +kernel, by decide +kernel⟩
abbrev s_Mixer_take : Stmt := inClass (top 5) 3
theorem sc_Mixer_take : FnScope ["self", "word"] ["self", "word"] (defScope s_Mixer_take) := ⟨rfl, rfl, rfl, by decide +kernel, rfl, by decide +kernel, by decide +kernel⟩
abbrev s_Mixer_result : Stmt := inClass (top 5) 4
theorem sc_Mixer_result : FnScope ["self"] ["self"] (defScope s_Mixer_result) := ⟨rfl, rfl, rfl, by decide +kernel, rfl, by decide +kernel, by decide +kernel⟩
abbrev s_turned : Stmt := top 6
theorem sc_turned : FnScope ["number", "places"] ["number", "places"] (defScope s_turned) := ⟨rfl, rfl, rfl, by decide +kernel, rfl, by decide +kernel, by decide +kernel⟩
abbrev s_number_of : Stmt := top 7
theorem sc_number_of : FnScope ["row", "found", "byte"] ["row"] (defScope s_number_of) := ⟨rfl, rfl, rfl, by decide +kernel, rfl, by decide +kernel, by decide +kernel⟩
abbrev s_bytes_of : Stmt := top 8
theorem sc_bytes_of : FnScope ["number", "found", "k"] ["number"] (defScope s_bytes_of) := ⟨rfl, rfl, rfl, by decide +kernel, rfl, by decide +kernel, by decide +kernel⟩
abbrev s_tag_of : Stmt := top 9
theorem sc_tag_of : FnScope ["key", "message", "mixer", "whole", "at", "rest", "last"] ["key", "message"] (defScope s_tag_of) := ⟨rfl, rfl, rfl, by decide +kernel, rfl, by decide +kernel, by decide +kernel⟩
abbrev s_Card_init : Stmt := inClass (top 24) 0
theorem sc_Card_init : FnScope ["self", "row"] ["self", "row"] (defScope s_Card_init) := ⟨rfl, rfl, rfl, by decide +kernel, rfl, by decide +kernel, by decide +kernel⟩
abbrev s_Entry_init : Stmt := inClass (top 25) 0
theorem sc_Entry_init : FnScope ["self", "kind", "number", "serial", "day"] ["self", "kind", "number", "serial", "day"] (defScope s_Entry_init) := ⟨rfl, rfl, rfl, by decide +kernel, rfl, by decide +kernel, by decide +kernel⟩
abbrev s_Door_init : Stmt := inClass (top 26) 0
theorem sc_Door_init : FnScope ["self", "room", "zone", "key"] ["self", "room", "zone", "key"] (defScope s_Door_init) := ⟨rfl, rfl, rfl, by decide +kernel, rfl, by decide +kernel, by decide +kernel⟩
abbrev s_is_place : Stmt := top 27
theorem sc_is_place : FnScope ["kind", "place"] ["kind", "place"] (defScope s_is_place) := ⟨rfl, rfl, rfl, by decide +kernel, rfl, by decide +kernel, by decide +kernel⟩
abbrev s_card_of : Stmt := top 28
theorem sc_card_of : FnScope ["door", "row"] ["door", "row"] (defScope s_card_of) := ⟨rfl, rfl, rfl, by decide +kernel, rfl, by decide +kernel, by decide +kernel⟩
abbrev s_is_room_card : Stmt := top 29
theorem sc_is_room_card : FnScope ["card"] ["card"] (defScope s_is_room_card) := ⟨rfl, rfl, rfl, by decide +kernel, rfl, by decide +kernel, by decide +kernel⟩
abbrev s_is_of_zone : Stmt := top 30
theorem sc_is_of_zone : FnScope ["card", "zone"] ["card", "zone"] (defScope s_is_of_zone) := ⟨rfl, rfl, rfl, by decide +kernel, rfl, by decide +kernel, by decide +kernel⟩
abbrev s_shown_room : Stmt := top 31
theorem sc_shown_room : FnScope ["door", "card"] ["door", "card"] (defScope s_shown_room) := ⟨rfl, rfl, rfl, by decide +kernel, rfl, by decide +kernel, by decide +kernel⟩
abbrev s_shown_zone : Stmt := top 32
theorem sc_shown_zone : FnScope ["door", "card"] ["door", "card"] (defScope s_shown_zone) := ⟨rfl, rfl, rfl, by decide +kernel, rfl, by decide +kernel, by decide +kernel⟩
abbrev s_shown : Stmt := top 33
theorem sc_shown : FnScope ["door", "card"] ["door", "card"] (defScope s_shown) := ⟨rfl, rfl, rfl, by decide +kernel, rfl, by decide +kernel, by decide +kernel⟩
abbrev s_learn : Stmt := top 34
theorem sc_learn : FnScope ["door", "card", "entry"] ["door", "card"] (defScope s_learn) := ⟨rfl, rfl, rfl, by decide +kernel, rfl, by decide +kernel, by decide +kernel⟩
abbrev s_Box_init : Stmt := inClass (top 43) 0
theorem sc_Box_init : FnScope ["self"] ["self"] (defScope s_Box_init) := ⟨rfl, rfl, rfl, by decide +kernel, rfl, by decide +kernel, by decide +kernel⟩
abbrev s_Tape_init : Stmt := inClass (top 44) 0
theorem sc_Tape_init : FnScope ["self", "numbers"] ["self", "numbers"] (defScope s_Tape_init) := ⟨rfl, rfl, rfl, by decide +kernel, rfl, by decide +kernel, by decide +kernel⟩
abbrev s_Tape_is_done : Stmt := inClass (top 44) 1
theorem sc_Tape_is_done : FnScope ["self"] ["self"] (defScope s_Tape_is_done) := ⟨rfl, rfl, rfl, by decide +kernel, rfl, by decide +kernel, by decide +kernel⟩
abbrev s_Tape_take_many : Stmt := inClass (top 44) 2
theorem sc_Tape_take_many : FnScope ["self", "many"] ["self", "many"] (defScope s_Tape_take_many) := ⟨rfl, rfl, rfl, by decide +kernel, rfl, by decide +kernel, by decide +kernel⟩
abbrev s_Tape_take_row : Stmt := inClass (top 44) 3
theorem sc_Tape_take_row : FnScope ["self"] ["self"] (defScope s_Tape_take_row) := ⟨rfl, rfl, rfl, by decide +kernel, rfl, by decide +kernel, by decide +kernel⟩
abbrev s_ask : Stmt := top 45
theorem sc_ask : FnScope ["is_good", "number"] ["is_good", "number"] (defScope s_ask) := ⟨rfl, rfl, rfl, by decide +kernel, rfl, by decide +kernel, by decide +kernel⟩
abbrev s_door_of : Stmt := top 46
theorem sc_door_of : FnScope ["box"] ["box"] (defScope s_door_of) := ⟨rfl, rfl, rfl, by decide +kernel, rfl, by decide +kernel, by decide +kernel⟩
abbrev s_do_begin : Stmt := top 47
theorem sc_do_begin : FnScope ["box", "numbers", "row"] ["box", "numbers", "row"] (defScope s_do_begin) := ⟨rfl, rfl, rfl, by decide +kernel, rfl, by decide +kernel, by decide +kernel⟩
abbrev s_do_day : Stmt := top 48
theorem sc_do_day : FnScope ["box", "numbers", "row", "door"] ["box", "numbers", "row"] (defScope s_do_day) := ⟨rfl, rfl, rfl, by decide +kernel, rfl, by decide +kernel, by decide +kernel⟩
abbrev s_card_in : Stmt := top 49
theorem sc_card_in : FnScope ["door", "row", "found"] ["door", "row"] (defScope s_card_in) := ⟨rfl, rfl, rfl, by decide +kernel, rfl, by decide +kernel, by decide +kernel⟩
abbrev s_do_open : Stmt := top 50
theorem sc_do_open : FnScope ["box", "numbers", "row", "door", "card", "found"] ["box", "numbers", "row"] (defScope s_do_open) := ⟨rfl, rfl, rfl, by decide +kernel, rfl, by decide +kernel, by decide +kernel⟩
abbrev s_do_would : Stmt := top 51
theorem sc_do_would : FnScope ["box", "numbers", "row", "door"] ["box", "numbers", "row"] (defScope s_do_would) := ⟨rfl, rfl, rfl, by decide +kernel, rfl, by decide +kernel, by decide +kernel⟩
abbrev s_do_bolt : Stmt := top 52
theorem sc_do_bolt : FnScope ["box", "numbers", "row", "door"] ["box", "numbers", "row"] (defScope s_do_bolt) := ⟨rfl, rfl, rfl, by decide +kernel, rfl, by decide +kernel, by decide +kernel⟩
abbrev s_do_book : Stmt := top 53
theorem sc_do_book : FnScope ["box", "numbers", "row", "door", "entry"] ["box", "numbers", "row"] (defScope s_do_book) := ⟨rfl, rfl, rfl, by decide +kernel, rfl, by decide +kernel, by decide +kernel⟩
abbrev s_do_state : Stmt := top 54
theorem sc_do_state : FnScope ["box", "numbers", "row", "door"] ["box", "numbers", "row"] (defScope s_do_state) := ⟨rfl, rfl, rfl, by decide +kernel, rfl, by decide +kernel, by decide +kernel⟩
abbrev s_answer : Stmt := top 56
theorem sc_answer : FnScope ["box", "tape", "many", "has_row", "deed", "numbers", "row", "found", "refused"] ["box", "tape"] (defScope s_answer) := ⟨rfl, rfl, rfl, by decide +kernel, rfl, by decide +kernel, by decide +kernel⟩
abbrev s_answers : Stmt := top 57
theorem sc_answers : FnScope ["calls", "box", "tape", "found", "told"] ["calls"] (defScope s_answers) := ⟨rfl, rfl, rfl, by decide +kernel, rfl, by decide +kernel, by decide +kernel⟩
/-! ### addresses, and what the top has written -/
structure AdA where
  c_Mixer : Addr
  f_Mixer_init : Addr
  f_Mixer_turn_once : Addr
  f_Mixer_rounds : Addr
  f_Mixer_take : Addr
  f_Mixer_result : Addr
  f_turned : Addr
  f_number_of : Addr
  f_bytes_of : Addr
  f_tag_of : Addr
  x_STARTS : Addr
structure AdB where
  c_Card : Addr
  c_Entry : Addr
  c_Door : Addr
  f_Card_init : Addr
  f_Entry_init : Addr
  f_Door_init : Addr
  f_is_place : Addr
  f_card_of : Addr
  f_is_room_card : Addr
  f_is_of_zone : Addr
  f_shown_room : Addr
  f_shown_zone : Addr
  f_shown : Addr
  f_learn : Addr
structure AdC where
  c_Refused : Addr
  c_Box : Addr
  c_Tape : Addr
  f_Refused_init : Addr
  f_Box_init : Addr
  f_Tape_init : Addr
  f_Tape_is_done : Addr
  f_Tape_take_many : Addr
  f_Tape_take_row : Addr
  f_ask : Addr
  f_door_of : Addr
  f_do_begin : Addr
  f_do_day : Addr
  f_card_in : Addr
  f_do_open : Addr
  f_do_would : Addr
  f_do_bolt : Addr
  f_do_book : Addr
  f_do_state : Addr
  f_answer : Addr
  f_answers : Addr
  x_DEEDS : Addr
  x_D0 : Addr
  x_D1 : Addr
  x_D2 : Addr
  x_D3 : Addr
  x_D4 : Addr
  x_D5 : Addr
  x_D6 : Addr
structure Ad where
  A : AdA
  B : AdB
  C : AdC
structure TxtA (K : PySem.W.Frag) (mg : Str → Option Value) (a : AdA) : Prop where
  n_len : mg "len" = none
  n_int : mg "int" = none
  n_list : mg "list" = none
  n_range : mg "range" = none
  n_reversed : mg "reversed" = none
  c_WHOLE : ∃ t, mg "WHOLE" = some (.int 18446744073709551616 t)
  c_WORD : ∃ t, mg "WORD" = some (.int 8 t)
  c_LAST_MARK : ∃ t, mg "LAST_MARK" = some (.int 255 t)
  cl_Mixer : Cls K a.c_Mixer
  mk_Mixer : Mk K a.c_Mixer a.f_Mixer_init
  g_Mixer : mg "Mixer" = some (.ref a.c_Mixer)
  n_Mixer_a : NoAttr K a.c_Mixer "a"
  n_Mixer_b : NoAttr K a.c_Mixer "b"
  n_Mixer_c : NoAttr K a.c_Mixer "c"
  n_Mixer_d : NoAttr K a.c_Mixer "d"
  m_Mixer_turn_once : Meth K a.c_Mixer "turn_once" a.f_Mixer_turn_once
  m_Mixer_rounds : Meth K a.c_Mixer "rounds" a.f_Mixer_rounds
  m_Mixer_take : Meth K a.c_Mixer "take" a.f_Mixer_take
  m_Mixer_result : Meth K a.c_Mixer "result" a.f_Mixer_result
  d_Mixer_init : ∃ fd, Fun K "__init__" "Mixer.__init__" s_Mixer_init a.f_Mixer_init fd ∧ Binds K fd ["self", "k", "l"] []
  d_Mixer_turn_once : ∃ fd, Fun K "turn_once" "Mixer.turn_once" s_Mixer_turn_once a.f_Mixer_turn_once fd ∧ Binds K fd ["self"] []
  d_Mixer_rounds : ∃ fd, Fun K "rounds" "Mixer.rounds" s_Mixer_rounds a.f_Mixer_rounds fd ∧ Binds K fd ["self", "many"] []
  d_Mixer_take : ∃ fd, Fun K "take" "Mixer.take" s_Mixer_take a.f_Mixer_take fd ∧ Binds K fd ["self", "word"] []
  d_Mixer_result : ∃ fd, Fun K "result" "Mixer.result" s_Mixer_result a.f_Mixer_result fd ∧ Binds K fd ["self"] []
  g_turned : mg "turned" = some (.ref a.f_turned)
  d_turned : ∃ fd, Fun K "turned" "turned" s_turned a.f_turned fd ∧ Binds K fd ["number", "places"] []
  g_number_of : mg "number_of" = some (.ref a.f_number_of)
  d_number_of : ∃ fd, Fun K "number_of" "number_of" s_number_of a.f_number_of fd ∧ Binds K fd ["row"] []
  g_bytes_of : mg "bytes_of" = some (.ref a.f_bytes_of)
  d_bytes_of : ∃ fd, Fun K "bytes_of" "bytes_of" s_bytes_of a.f_bytes_of fd ∧ Binds K fd ["number"] []
  g_tag_of : mg "tag_of" = some (.ref a.f_tag_of)
  d_tag_of : ∃ fd, Fun K "tag_of" "tag_of" s_tag_of a.f_tag_of fd ∧ Binds K fd ["key", "message"] []
  g_STARTS : mg "STARTS" = some (.ref a.x_STARTS)
  t_STARTS : ∀ H, SqT K H a.x_STARTS [.int 8317987319222330741, .int 7237128888997146477, .int 7816392313619706465, .int 8387220255154660723]
structure TxtB (K : PySem.W.Frag) (mg : Str → Option Value) (a : AdB) : Prop where
  c_CARD_BYTES : ∃ t, mg "CARD_BYTES" = some (.int 16 t)
  c_SIGNED : ∃ t, mg "SIGNED" = some (.int 8 t)
  c_GUEST : ∃ t, mg "GUEST" = some (.int 1 t)
  c_STAFF : ∃ t, mg "STAFF" = some (.int 2 t)
  c_SHUTS : ∃ t, mg "SHUTS" = some (.int 3 t)
  c_EMERGENCY : ∃ t, mg "EMERGENCY" = some (.int 4 t)
  c_MOST_ROOM : ∃ t, mg "MOST_ROOM" = some (.int 63 t)
  c_EMERGENCY_PLACE : ∃ t, mg "EMERGENCY_PLACE" = some (.int 255 t)
  c_MOST_BOOK : ∃ t, mg "MOST_BOOK" = some (.int 16 t)
  c_OTHER_PLACE : ∃ t, mg "OTHER_PLACE" = some (.int (-13) t)
  c_BOLTED : ∃ t, mg "BOLTED" = some (.int (-15) t)
  c_TOO_OLD : ∃ t, mg "TOO_OLD" = some (.int (-17) t)
  c_OVER : ∃ t, mg "OVER" = some (.int (-34) t)
  cl_Card : Cls K a.c_Card
  mk_Card : Mk K a.c_Card a.f_Card_init
  g_Card : mg "Card" = some (.ref a.c_Card)
  n_Card_kind : NoAttr K a.c_Card "kind"
  n_Card_place : NoAttr K a.c_Card "place"
  n_Card_number : NoAttr K a.c_Card "number"
  n_Card_last : NoAttr K a.c_Card "last"
  n_Card_serial : NoAttr K a.c_Card "serial"
  cl_Entry : Cls K a.c_Entry
  mk_Entry : Mk K a.c_Entry a.f_Entry_init
  g_Entry : mg "Entry" = some (.ref a.c_Entry)
  n_Entry_kind : NoAttr K a.c_Entry "kind"
  n_Entry_number : NoAttr K a.c_Entry "number"
  n_Entry_serial : NoAttr K a.c_Entry "serial"
  n_Entry_day : NoAttr K a.c_Entry "day"
  cl_Door : Cls K a.c_Door
  mk_Door : Mk K a.c_Door a.f_Door_init
  g_Door : mg "Door" = some (.ref a.c_Door)
  n_Door_room : NoAttr K a.c_Door "room"
  n_Door_zone : NoAttr K a.c_Door "zone"
  n_Door_key : NoAttr K a.c_Door "key"
  n_Door_day : NoAttr K a.c_Door "day"
  n_Door_number : NoAttr K a.c_Door "number"
  n_Door_round : NoAttr K a.c_Door "round"
  n_Door_is_bolted : NoAttr K a.c_Door "is_bolted"
  n_Door_book : NoAttr K a.c_Door "book"
  d_Card_init : ∃ fd, Fun K "__init__" "Card.__init__" s_Card_init a.f_Card_init fd ∧ Binds K fd ["self", "row"] []
  d_Entry_init : ∃ fd, Fun K "__init__" "Entry.__init__" s_Entry_init a.f_Entry_init fd ∧ Binds K fd ["self", "kind", "number", "serial", "day"] []
  d_Door_init : ∃ fd, Fun K "__init__" "Door.__init__" s_Door_init a.f_Door_init fd ∧ Binds K fd ["self", "room", "zone", "key"] []
  g_is_place : mg "is_place" = some (.ref a.f_is_place)
  d_is_place : ∃ fd, Fun K "is_place" "is_place" s_is_place a.f_is_place fd ∧ Binds K fd ["kind", "place"] []
  g_card_of : mg "card_of" = some (.ref a.f_card_of)
  d_card_of : ∃ fd, Fun K "card_of" "card_of" s_card_of a.f_card_of fd ∧ Binds K fd ["door", "row"] []
  g_is_room_card : mg "is_room_card" = some (.ref a.f_is_room_card)
  d_is_room_card : ∃ fd, Fun K "is_room_card" "is_room_card" s_is_room_card a.f_is_room_card fd ∧ Binds K fd ["card"] []
  g_is_of_zone : mg "is_of_zone" = some (.ref a.f_is_of_zone)
  d_is_of_zone : ∃ fd, Fun K "is_of_zone" "is_of_zone" s_is_of_zone a.f_is_of_zone fd ∧ Binds K fd ["card", "zone"] []
  g_shown_room : mg "shown_room" = some (.ref a.f_shown_room)
  d_shown_room : ∃ fd, Fun K "shown_room" "shown_room" s_shown_room a.f_shown_room fd ∧ Binds K fd ["door", "card"] []
  g_shown_zone : mg "shown_zone" = some (.ref a.f_shown_zone)
  d_shown_zone : ∃ fd, Fun K "shown_zone" "shown_zone" s_shown_zone a.f_shown_zone fd ∧ Binds K fd ["door", "card"] []
  g_shown : mg "shown" = some (.ref a.f_shown)
  d_shown : ∃ fd, Fun K "shown" "shown" s_shown a.f_shown fd ∧ Binds K fd ["door", "card"] []
  g_learn : mg "learn" = some (.ref a.f_learn)
  d_learn : ∃ fd, Fun K "learn" "learn" s_learn a.f_learn fd ∧ Binds K fd ["door", "card"] []
structure TxtC (K : PySem.W.Frag) (mg : Str → Option Value) (a : AdC) : Prop where
  ref : PySem.RefX.RefTxt K mg a.c_Refused a.f_Refused_init
  c_NO_ENTRY : ∃ t, mg "NO_ENTRY" = some (.int (-2) t)
  c_WRONG : ∃ t, mg "WRONG" = some (.int (-22) t)
  c_NO_DOOR : ∃ t, mg "NO_DOOR" = some (.int (-61) t)
  c_NO_CARD : ∃ t, mg "NO_CARD" = some (.int (-71) t)
  c_MOST_ZONE : ∃ t, mg "MOST_ZONE" = some (.int 7 t)
  c_MOST_DAY : ∃ t, mg "MOST_DAY" = some (.int 65535 t)
  cl_Box : Cls K a.c_Box
  mk_Box : Mk K a.c_Box a.f_Box_init
  g_Box : mg "Box" = some (.ref a.c_Box)
  n_Box_door : NoAttr K a.c_Box "door"
  cl_Tape : Cls K a.c_Tape
  mk_Tape : Mk K a.c_Tape a.f_Tape_init
  g_Tape : mg "Tape" = some (.ref a.c_Tape)
  n_Tape_numbers : NoAttr K a.c_Tape "numbers"
  n_Tape_at : NoAttr K a.c_Tape "at"
  m_Tape_is_done : Meth K a.c_Tape "is_done" a.f_Tape_is_done
  m_Tape_take_many : Meth K a.c_Tape "take_many" a.f_Tape_take_many
  m_Tape_take_row : Meth K a.c_Tape "take_row" a.f_Tape_take_row
  d_Box_init : ∃ fd, Fun K "__init__" "Box.__init__" s_Box_init a.f_Box_init fd ∧ Binds K fd ["self"] []
  d_Tape_init : ∃ fd, Fun K "__init__" "Tape.__init__" s_Tape_init a.f_Tape_init fd ∧ Binds K fd ["self", "numbers"] []
  d_Tape_is_done : ∃ fd, Fun K "is_done" "Tape.is_done" s_Tape_is_done a.f_Tape_is_done fd ∧ Binds K fd ["self"] []
  d_Tape_take_many : ∃ fd, Fun K "take_many" "Tape.take_many" s_Tape_take_many a.f_Tape_take_many fd ∧ Binds K fd ["self", "many"] []
  d_Tape_take_row : ∃ fd, Fun K "take_row" "Tape.take_row" s_Tape_take_row a.f_Tape_take_row fd ∧ Binds K fd ["self"] []
  g_ask : mg "ask" = some (.ref a.f_ask)
  d_ask : ∃ fd, Fun K "ask" "ask" s_ask a.f_ask fd ∧ Binds K fd ["is_good", "number"] []
  g_door_of : mg "door_of" = some (.ref a.f_door_of)
  d_door_of : ∃ fd, Fun K "door_of" "door_of" s_door_of a.f_door_of fd ∧ Binds K fd ["box"] []
  g_do_begin : mg "do_begin" = some (.ref a.f_do_begin)
  d_do_begin : ∃ fd, Fun K "do_begin" "do_begin" s_do_begin a.f_do_begin fd ∧ Binds K fd ["box", "numbers", "row"] []
  g_do_day : mg "do_day" = some (.ref a.f_do_day)
  d_do_day : ∃ fd, Fun K "do_day" "do_day" s_do_day a.f_do_day fd ∧ Binds K fd ["box", "numbers", "row"] []
  g_card_in : mg "card_in" = some (.ref a.f_card_in)
  d_card_in : ∃ fd, Fun K "card_in" "card_in" s_card_in a.f_card_in fd ∧ Binds K fd ["door", "row"] []
  g_do_open : mg "do_open" = some (.ref a.f_do_open)
  d_do_open : ∃ fd, Fun K "do_open" "do_open" s_do_open a.f_do_open fd ∧ Binds K fd ["box", "numbers", "row"] []
  g_do_would : mg "do_would" = some (.ref a.f_do_would)
  d_do_would : ∃ fd, Fun K "do_would" "do_would" s_do_would a.f_do_would fd ∧ Binds K fd ["box", "numbers", "row"] []
  g_do_bolt : mg "do_bolt" = some (.ref a.f_do_bolt)
  d_do_bolt : ∃ fd, Fun K "do_bolt" "do_bolt" s_do_bolt a.f_do_bolt fd ∧ Binds K fd ["box", "numbers", "row"] []
  g_do_book : mg "do_book" = some (.ref a.f_do_book)
  d_do_book : ∃ fd, Fun K "do_book" "do_book" s_do_book a.f_do_book fd ∧ Binds K fd ["box", "numbers", "row"] []
  g_do_state : mg "do_state" = some (.ref a.f_do_state)
  d_do_state : ∃ fd, Fun K "do_state" "do_state" s_do_state a.f_do_state fd ∧ Binds K fd ["box", "numbers", "row"] []
  g_answer : mg "answer" = some (.ref a.f_answer)
  d_answer : ∃ fd, Fun K "answer" "answer" s_answer a.f_answer fd ∧ Binds K fd ["box", "tape"] []
  g_answers : mg "answers" = some (.ref a.f_answers)
  d_answers : ∃ fd, Fun K "answers" "answers" s_answers a.f_answers fd ∧ Binds K fd ["calls"] []
  g_DEEDS : mg "DEEDS" = some (.ref a.x_DEEDS)
  t_DEEDS : ∀ H, SqT K H a.x_DEEDS [.ref a.x_D0, .ref a.x_D1, .ref a.x_D2, .ref a.x_D3, .ref a.x_D4, .ref a.x_D5, .ref a.x_D6]
  t_D0 : ∀ H, SqT K H a.x_D0 [.int 2, .bl true, .ref a.f_do_begin]
  t_D1 : ∀ H, SqT K H a.x_D1 [.int 1, .bl false, .ref a.f_do_day]
  t_D2 : ∀ H, SqT K H a.x_D2 [.int 0, .bl true, .ref a.f_do_open]
  t_D3 : ∀ H, SqT K H a.x_D3 [.int 0, .bl true, .ref a.f_do_would]
  t_D4 : ∀ H, SqT K H a.x_D4 [.int 1, .bl false, .ref a.f_do_bolt]
  t_D5 : ∀ H, SqT K H a.x_D5 [.int 1, .bl false, .ref a.f_do_book]
  t_D6 : ∀ H, SqT K H a.x_D6 [.int 0, .bl false, .ref a.f_do_state]
structure Txt (K : PySem.W.Frag) (mg : Str → Option Value) (a : Ad) : Prop where
  A : TxtA K mg a.A
  B : TxtB K mg a.B
  C : TxtC K mg a.C
end Ld
namespace Ld
open PySem PySem.Spec PyProof.Rows L2
/-! ### the attributes of each class -/
theorem lk_here {k : Str} {v : V} {r : List (Str × V)} : List.lookup k ((k, v) :: r) = some v := by
  have e : (k == k) = true := beq_self_eq_true k
  simp only [List.lookup, e]
theorem lk_past {k g : Str} {v : V} {r : List (Str × V)} (h : (k == g) = false) : List.lookup k ((g, v) :: r) = List.lookup k r := by
  simp only [List.lookup, h]
theorem put_here {f : Str} {v x : V} {r : List (Str × V)} : putF f v ((f, x) :: r) = (f, v) :: r := if_pos rfl
theorem put_past {f g : Str} {v x : V} {r : List (Str × V)} (h : (f == g) = false) : putF f v ((g, x) :: r) = (g, x) :: putF f v r := if_neg fun e => by
  rw [e, beq_self_eq_true] at h
  cases h
theorem ne_at_numbers : (("at" : Str) == "numbers") = false := by decide +kernel
theorem ne_b_a : (("b" : Str) == "a") = false := by decide +kernel
theorem ne_book_day : (("book" : Str) == "day") = false := by decide +kernel
theorem ne_book_is_bolted : (("book" : Str) == "is_bolted") = false := by decide +kernel
theorem ne_book_key : (("book" : Str) == "key") = false := by decide +kernel
theorem ne_book_number : (("book" : Str) == "number") = false := by decide +kernel
theorem ne_book_room : (("book" : Str) == "room") = false := by decide +kernel
theorem ne_book_round : (("book" : Str) == "round") = false := by decide +kernel
theorem ne_book_zone : (("book" : Str) == "zone") = false := by decide +kernel
theorem ne_c_a : (("c" : Str) == "a") = false := by decide +kernel
theorem ne_c_b : (("c" : Str) == "b") = false := by decide +kernel
theorem ne_d_a : (("d" : Str) == "a") = false := by decide +kernel
theorem ne_d_b : (("d" : Str) == "b") = false := by decide +kernel
theorem ne_d_c : (("d" : Str) == "c") = false := by decide +kernel
theorem ne_day_key : (("day" : Str) == "key") = false := by decide +kernel
theorem ne_day_kind : (("day" : Str) == "kind") = false := by decide +kernel
theorem ne_day_number : (("day" : Str) == "number") = false := by decide +kernel
theorem ne_day_room : (("day" : Str) == "room") = false := by decide +kernel
theorem ne_day_serial : (("day" : Str) == "serial") = false := by decide +kernel
theorem ne_day_zone : (("day" : Str) == "zone") = false := by decide +kernel
theorem ne_is_bolted_day : (("is_bolted" : Str) == "day") = false := by decide +kernel
theorem ne_is_bolted_key : (("is_bolted" : Str) == "key") = false := by decide +kernel
theorem ne_is_bolted_number : (("is_bolted" : Str) == "number") = false := by decide +kernel
theorem ne_is_bolted_room : (("is_bolted" : Str) == "room") = false := by decide +kernel
theorem ne_is_bolted_round : (("is_bolted" : Str) == "round") = false := by decide +kernel
theorem ne_is_bolted_zone : (("is_bolted" : Str) == "zone") = false := by decide +kernel
theorem ne_is_done_at : (("is_done" : Str) == "at") = false := by decide +kernel
theorem ne_is_done_numbers : (("is_done" : Str) == "numbers") = false := by decide +kernel
theorem ne_key_room : (("key" : Str) == "room") = false := by decide +kernel
theorem ne_key_zone : (("key" : Str) == "zone") = false := by decide +kernel
theorem ne_last_kind : (("last" : Str) == "kind") = false := by decide +kernel
theorem ne_last_number : (("last" : Str) == "number") = false := by decide +kernel
theorem ne_last_place : (("last" : Str) == "place") = false := by decide +kernel
theorem ne_number_day : (("number" : Str) == "day") = false := by decide +kernel
theorem ne_number_key : (("number" : Str) == "key") = false := by decide +kernel
theorem ne_number_kind : (("number" : Str) == "kind") = false := by decide +kernel
theorem ne_number_place : (("number" : Str) == "place") = false := by decide +kernel
theorem ne_number_room : (("number" : Str) == "room") = false := by decide +kernel
theorem ne_number_zone : (("number" : Str) == "zone") = false := by decide +kernel
theorem ne_place_kind : (("place" : Str) == "kind") = false := by decide +kernel
theorem ne_result_a : (("result" : Str) == "a") = false := by decide +kernel
theorem ne_result_b : (("result" : Str) == "b") = false := by decide +kernel
theorem ne_result_c : (("result" : Str) == "c") = false := by decide +kernel
theorem ne_result_d : (("result" : Str) == "d") = false := by decide +kernel
theorem ne_round_day : (("round" : Str) == "day") = false := by decide +kernel
theorem ne_round_key : (("round" : Str) == "key") = false := by decide +kernel
theorem ne_round_number : (("round" : Str) == "number") = false := by decide +kernel
theorem ne_round_room : (("round" : Str) == "room") = false := by decide +kernel
theorem ne_round_zone : (("round" : Str) == "zone") = false := by decide +kernel
theorem ne_rounds_a : (("rounds" : Str) == "a") = false := by decide +kernel
theorem ne_rounds_b : (("rounds" : Str) == "b") = false := by decide +kernel
theorem ne_rounds_c : (("rounds" : Str) == "c") = false := by decide +kernel
theorem ne_rounds_d : (("rounds" : Str) == "d") = false := by decide +kernel
theorem ne_serial_kind : (("serial" : Str) == "kind") = false := by decide +kernel
theorem ne_serial_last : (("serial" : Str) == "last") = false := by decide +kernel
theorem ne_serial_number : (("serial" : Str) == "number") = false := by decide +kernel
theorem ne_serial_place : (("serial" : Str) == "place") = false := by decide +kernel
theorem ne_take_a : (("take" : Str) == "a") = false := by decide +kernel
theorem ne_take_b : (("take" : Str) == "b") = false := by decide +kernel
theorem ne_take_c : (("take" : Str) == "c") = false := by decide +kernel
theorem ne_take_d : (("take" : Str) == "d") = false := by decide +kernel
theorem ne_take_many_at : (("take_many" : Str) == "at") = false := by decide +kernel
theorem ne_take_many_numbers : (("take_many" : Str) == "numbers") = false := by decide +kernel
theorem ne_take_row_at : (("take_row" : Str) == "at") = false := by decide +kernel
theorem ne_take_row_numbers : (("take_row" : Str) == "numbers") = false := by decide +kernel
theorem ne_turn_once_a : (("turn_once" : Str) == "a") = false := by decide +kernel
theorem ne_turn_once_b : (("turn_once" : Str) == "b") = false := by decide +kernel
theorem ne_turn_once_c : (("turn_once" : Str) == "c") = false := by decide +kernel
theorem ne_turn_once_d : (("turn_once" : Str) == "d") = false := by decide +kernel
theorem ne_zone_room : (("zone" : Str) == "room") = false := by decide +kernel
def F_Mixer (v0 v1 v2 v3 : V) : List (Str × V) := [("a", v0), ("b", v1), ("c", v2), ("d", v3)]
theorem lk_Mixer_a {v0 v1 v2 v3 : V} : (F_Mixer v0 v1 v2 v3).lookup ("a" : Str) = some v0 := lk_here
theorem put_Mixer_a {y v0 v1 v2 v3 : V} : putF "a" y (F_Mixer v0 v1 v2 v3) = F_Mixer y v1 v2 v3 := put_here
theorem lk_Mixer_b {v0 v1 v2 v3 : V} : (F_Mixer v0 v1 v2 v3).lookup ("b" : Str) = some v1 := ((lk_past ne_b_a).trans lk_here)
theorem put_Mixer_b {y v0 v1 v2 v3 : V} : putF "b" y (F_Mixer v0 v1 v2 v3) = F_Mixer v0 y v2 v3 := ((put_past ne_b_a).trans (congrArg _ put_here))
theorem lk_Mixer_c {v0 v1 v2 v3 : V} : (F_Mixer v0 v1 v2 v3).lookup ("c" : Str) = some v2 := ((lk_past ne_c_a).trans ((lk_past ne_c_b).trans lk_here))
theorem put_Mixer_c {y v0 v1 v2 v3 : V} : putF "c" y (F_Mixer v0 v1 v2 v3) = F_Mixer v0 v1 y v3 := ((put_past ne_c_a).trans (congrArg _ ((put_past ne_c_b).trans (congrArg _ put_here))))
theorem lk_Mixer_d {v0 v1 v2 v3 : V} : (F_Mixer v0 v1 v2 v3).lookup ("d" : Str) = some v3 := ((lk_past ne_d_a).trans ((lk_past ne_d_b).trans ((lk_past ne_d_c).trans lk_here)))
theorem put_Mixer_d {y v0 v1 v2 v3 : V} : putF "d" y (F_Mixer v0 v1 v2 v3) = F_Mixer v0 v1 v2 y := ((put_past ne_d_a).trans (congrArg _ ((put_past ne_d_b).trans (congrArg _ ((put_past ne_d_c).trans (congrArg _ put_here))))))
theorem no_Mixer_turn_once {v0 v1 v2 v3 : V} : (F_Mixer v0 v1 v2 v3).lookup ("turn_once" : Str) = none := ((lk_past ne_turn_once_a).trans ((lk_past ne_turn_once_b).trans ((lk_past ne_turn_once_c).trans ((lk_past ne_turn_once_d).trans rfl))))
theorem no_Mixer_rounds {v0 v1 v2 v3 : V} : (F_Mixer v0 v1 v2 v3).lookup ("rounds" : Str) = none := ((lk_past ne_rounds_a).trans ((lk_past ne_rounds_b).trans ((lk_past ne_rounds_c).trans ((lk_past ne_rounds_d).trans rfl))))
theorem no_Mixer_take {v0 v1 v2 v3 : V} : (F_Mixer v0 v1 v2 v3).lookup ("take" : Str) = none := ((lk_past ne_take_a).trans ((lk_past ne_take_b).trans ((lk_past ne_take_c).trans ((lk_past ne_take_d).trans rfl))))
theorem no_Mixer_result {v0 v1 v2 v3 : V} : (F_Mixer v0 v1 v2 v3).lookup ("result" : Str) = none := ((lk_past ne_result_a).trans ((lk_past ne_result_b).trans ((lk_past ne_result_c).trans ((lk_past ne_result_d).trans rfl))))
theorem mk_Mixer_0 {v0 : V} : putF "a" v0 ([] : List (Str × V)) = ([("a", v0)] : List (Str × V)) := rfl
theorem mk_Mixer_1 {v0 v1 : V} : putF "b" v1 ([("a", v0)] : List (Str × V)) = ([("a", v0), ("b", v1)] : List (Str × V)) := ((put_past ne_b_a).trans (congrArg _ rfl))
theorem mk_Mixer_2 {v0 v1 v2 : V} : putF "c" v2 ([("a", v0), ("b", v1)] : List (Str × V)) = ([("a", v0), ("b", v1), ("c", v2)] : List (Str × V)) := ((put_past ne_c_a).trans (congrArg _ ((put_past ne_c_b).trans (congrArg _ rfl))))
theorem mk_Mixer_3 {v0 v1 v2 v3 : V} : putF "d" v3 ([("a", v0), ("b", v1), ("c", v2)] : List (Str × V)) = ([("a", v0), ("b", v1), ("c", v2), ("d", v3)] : List (Str × V)) := ((put_past ne_d_a).trans (congrArg _ ((put_past ne_d_b).trans (congrArg _ ((put_past ne_d_c).trans (congrArg _ rfl))))))
theorem len_Mixer {v0 v1 v2 v3 : V} : (F_Mixer v0 v1 v2 v3).length = 4 := rfl
def F_Card (v0 v1 v2 v3 v4 : V) : List (Str × V) := [("kind", v0), ("place", v1), ("number", v2), ("last", v3), ("serial", v4)]
theorem lk_Card_kind {v0 v1 v2 v3 v4 : V} : (F_Card v0 v1 v2 v3 v4).lookup ("kind" : Str) = some v0 := lk_here
theorem put_Card_kind {y v0 v1 v2 v3 v4 : V} : putF "kind" y (F_Card v0 v1 v2 v3 v4) = F_Card y v1 v2 v3 v4 := put_here
theorem lk_Card_place {v0 v1 v2 v3 v4 : V} : (F_Card v0 v1 v2 v3 v4).lookup ("place" : Str) = some v1 := ((lk_past ne_place_kind).trans lk_here)
theorem put_Card_place {y v0 v1 v2 v3 v4 : V} : putF "place" y (F_Card v0 v1 v2 v3 v4) = F_Card v0 y v2 v3 v4 := ((put_past ne_place_kind).trans (congrArg _ put_here))
theorem lk_Card_number {v0 v1 v2 v3 v4 : V} : (F_Card v0 v1 v2 v3 v4).lookup ("number" : Str) = some v2 := ((lk_past ne_number_kind).trans ((lk_past ne_number_place).trans lk_here))
theorem put_Card_number {y v0 v1 v2 v3 v4 : V} : putF "number" y (F_Card v0 v1 v2 v3 v4) = F_Card v0 v1 y v3 v4 := ((put_past ne_number_kind).trans (congrArg _ ((put_past ne_number_place).trans (congrArg _ put_here))))
theorem lk_Card_last {v0 v1 v2 v3 v4 : V} : (F_Card v0 v1 v2 v3 v4).lookup ("last" : Str) = some v3 := ((lk_past ne_last_kind).trans ((lk_past ne_last_place).trans ((lk_past ne_last_number).trans lk_here)))
theorem put_Card_last {y v0 v1 v2 v3 v4 : V} : putF "last" y (F_Card v0 v1 v2 v3 v4) = F_Card v0 v1 v2 y v4 := ((put_past ne_last_kind).trans (congrArg _ ((put_past ne_last_place).trans (congrArg _ ((put_past ne_last_number).trans (congrArg _ put_here))))))
theorem lk_Card_serial {v0 v1 v2 v3 v4 : V} : (F_Card v0 v1 v2 v3 v4).lookup ("serial" : Str) = some v4 := ((lk_past ne_serial_kind).trans ((lk_past ne_serial_place).trans ((lk_past ne_serial_number).trans ((lk_past ne_serial_last).trans lk_here))))
theorem put_Card_serial {y v0 v1 v2 v3 v4 : V} : putF "serial" y (F_Card v0 v1 v2 v3 v4) = F_Card v0 v1 v2 v3 y := ((put_past ne_serial_kind).trans (congrArg _ ((put_past ne_serial_place).trans (congrArg _ ((put_past ne_serial_number).trans (congrArg _ ((put_past ne_serial_last).trans (congrArg _ put_here))))))))
theorem mk_Card_0 {v0 : V} : putF "kind" v0 ([] : List (Str × V)) = ([("kind", v0)] : List (Str × V)) := rfl
theorem mk_Card_1 {v0 v1 : V} : putF "place" v1 ([("kind", v0)] : List (Str × V)) = ([("kind", v0), ("place", v1)] : List (Str × V)) := ((put_past ne_place_kind).trans (congrArg _ rfl))
theorem mk_Card_2 {v0 v1 v2 : V} : putF "number" v2 ([("kind", v0), ("place", v1)] : List (Str × V)) = ([("kind", v0), ("place", v1), ("number", v2)] : List (Str × V)) := ((put_past ne_number_kind).trans (congrArg _ ((put_past ne_number_place).trans (congrArg _ rfl))))
theorem mk_Card_3 {v0 v1 v2 v3 : V} : putF "last" v3 ([("kind", v0), ("place", v1), ("number", v2)] : List (Str × V)) = ([("kind", v0), ("place", v1), ("number", v2), ("last", v3)] : List (Str × V)) := ((put_past ne_last_kind).trans (congrArg _ ((put_past ne_last_place).trans (congrArg _ ((put_past ne_last_number).trans (congrArg _ rfl))))))
theorem mk_Card_4 {v0 v1 v2 v3 v4 : V} : putF "serial" v4 ([("kind", v0), ("place", v1), ("number", v2), ("last", v3)] : List (Str × V)) = ([("kind", v0), ("place", v1), ("number", v2), ("last", v3), ("serial", v4)] : List (Str × V)) := ((put_past ne_serial_kind).trans (congrArg _ ((put_past ne_serial_place).trans (congrArg _ ((put_past ne_serial_number).trans (congrArg _ ((put_past ne_serial_last).trans (congrArg _ rfl))))))))
theorem len_Card {v0 v1 v2 v3 v4 : V} : (F_Card v0 v1 v2 v3 v4).length = 5 := rfl
def F_Entry (v0 v1 v2 v3 : V) : List (Str × V) := [("kind", v0), ("number", v1), ("serial", v2), ("day", v3)]
theorem lk_Entry_kind {v0 v1 v2 v3 : V} : (F_Entry v0 v1 v2 v3).lookup ("kind" : Str) = some v0 := lk_here
theorem put_Entry_kind {y v0 v1 v2 v3 : V} : putF "kind" y (F_Entry v0 v1 v2 v3) = F_Entry y v1 v2 v3 := put_here
theorem lk_Entry_number {v0 v1 v2 v3 : V} : (F_Entry v0 v1 v2 v3).lookup ("number" : Str) = some v1 := ((lk_past ne_number_kind).trans lk_here)
theorem put_Entry_number {y v0 v1 v2 v3 : V} : putF "number" y (F_Entry v0 v1 v2 v3) = F_Entry v0 y v2 v3 := ((put_past ne_number_kind).trans (congrArg _ put_here))
theorem lk_Entry_serial {v0 v1 v2 v3 : V} : (F_Entry v0 v1 v2 v3).lookup ("serial" : Str) = some v2 := ((lk_past ne_serial_kind).trans ((lk_past ne_serial_number).trans lk_here))
theorem put_Entry_serial {y v0 v1 v2 v3 : V} : putF "serial" y (F_Entry v0 v1 v2 v3) = F_Entry v0 v1 y v3 := ((put_past ne_serial_kind).trans (congrArg _ ((put_past ne_serial_number).trans (congrArg _ put_here))))
theorem lk_Entry_day {v0 v1 v2 v3 : V} : (F_Entry v0 v1 v2 v3).lookup ("day" : Str) = some v3 := ((lk_past ne_day_kind).trans ((lk_past ne_day_number).trans ((lk_past ne_day_serial).trans lk_here)))
theorem put_Entry_day {y v0 v1 v2 v3 : V} : putF "day" y (F_Entry v0 v1 v2 v3) = F_Entry v0 v1 v2 y := ((put_past ne_day_kind).trans (congrArg _ ((put_past ne_day_number).trans (congrArg _ ((put_past ne_day_serial).trans (congrArg _ put_here))))))
theorem mk_Entry_0 {v0 : V} : putF "kind" v0 ([] : List (Str × V)) = ([("kind", v0)] : List (Str × V)) := rfl
theorem mk_Entry_1 {v0 v1 : V} : putF "number" v1 ([("kind", v0)] : List (Str × V)) = ([("kind", v0), ("number", v1)] : List (Str × V)) := ((put_past ne_number_kind).trans (congrArg _ rfl))
theorem mk_Entry_2 {v0 v1 v2 : V} : putF "serial" v2 ([("kind", v0), ("number", v1)] : List (Str × V)) = ([("kind", v0), ("number", v1), ("serial", v2)] : List (Str × V)) := ((put_past ne_serial_kind).trans (congrArg _ ((put_past ne_serial_number).trans (congrArg _ rfl))))
theorem mk_Entry_3 {v0 v1 v2 v3 : V} : putF "day" v3 ([("kind", v0), ("number", v1), ("serial", v2)] : List (Str × V)) = ([("kind", v0), ("number", v1), ("serial", v2), ("day", v3)] : List (Str × V)) := ((put_past ne_day_kind).trans (congrArg _ ((put_past ne_day_number).trans (congrArg _ ((put_past ne_day_serial).trans (congrArg _ rfl))))))
theorem len_Entry {v0 v1 v2 v3 : V} : (F_Entry v0 v1 v2 v3).length = 4 := rfl
def F_Door (v0 v1 v2 v3 v4 v5 v6 v7 : V) : List (Str × V) := [("room", v0), ("zone", v1), ("key", v2), ("day", v3), ("number", v4), ("round", v5), ("is_bolted", v6), ("book", v7)]
theorem lk_Door_room {v0 v1 v2 v3 v4 v5 v6 v7 : V} : (F_Door v0 v1 v2 v3 v4 v5 v6 v7).lookup ("room" : Str) = some v0 := lk_here
theorem put_Door_room {y v0 v1 v2 v3 v4 v5 v6 v7 : V} : putF "room" y (F_Door v0 v1 v2 v3 v4 v5 v6 v7) = F_Door y v1 v2 v3 v4 v5 v6 v7 := put_here
theorem lk_Door_zone {v0 v1 v2 v3 v4 v5 v6 v7 : V} : (F_Door v0 v1 v2 v3 v4 v5 v6 v7).lookup ("zone" : Str) = some v1 := ((lk_past ne_zone_room).trans lk_here)
theorem put_Door_zone {y v0 v1 v2 v3 v4 v5 v6 v7 : V} : putF "zone" y (F_Door v0 v1 v2 v3 v4 v5 v6 v7) = F_Door v0 y v2 v3 v4 v5 v6 v7 := ((put_past ne_zone_room).trans (congrArg _ put_here))
theorem lk_Door_key {v0 v1 v2 v3 v4 v5 v6 v7 : V} : (F_Door v0 v1 v2 v3 v4 v5 v6 v7).lookup ("key" : Str) = some v2 := ((lk_past ne_key_room).trans ((lk_past ne_key_zone).trans lk_here))
theorem put_Door_key {y v0 v1 v2 v3 v4 v5 v6 v7 : V} : putF "key" y (F_Door v0 v1 v2 v3 v4 v5 v6 v7) = F_Door v0 v1 y v3 v4 v5 v6 v7 := ((put_past ne_key_room).trans (congrArg _ ((put_past ne_key_zone).trans (congrArg _ put_here))))
theorem lk_Door_day {v0 v1 v2 v3 v4 v5 v6 v7 : V} : (F_Door v0 v1 v2 v3 v4 v5 v6 v7).lookup ("day" : Str) = some v3 := ((lk_past ne_day_room).trans ((lk_past ne_day_zone).trans ((lk_past ne_day_key).trans lk_here)))
theorem put_Door_day {y v0 v1 v2 v3 v4 v5 v6 v7 : V} : putF "day" y (F_Door v0 v1 v2 v3 v4 v5 v6 v7) = F_Door v0 v1 v2 y v4 v5 v6 v7 := ((put_past ne_day_room).trans (congrArg _ ((put_past ne_day_zone).trans (congrArg _ ((put_past ne_day_key).trans (congrArg _ put_here))))))
theorem lk_Door_number {v0 v1 v2 v3 v4 v5 v6 v7 : V} : (F_Door v0 v1 v2 v3 v4 v5 v6 v7).lookup ("number" : Str) = some v4 := ((lk_past ne_number_room).trans ((lk_past ne_number_zone).trans ((lk_past ne_number_key).trans ((lk_past ne_number_day).trans lk_here))))
theorem put_Door_number {y v0 v1 v2 v3 v4 v5 v6 v7 : V} : putF "number" y (F_Door v0 v1 v2 v3 v4 v5 v6 v7) = F_Door v0 v1 v2 v3 y v5 v6 v7 := ((put_past ne_number_room).trans (congrArg _ ((put_past ne_number_zone).trans (congrArg _ ((put_past ne_number_key).trans (congrArg _ ((put_past ne_number_day).trans (congrArg _ put_here))))))))
theorem lk_Door_round {v0 v1 v2 v3 v4 v5 v6 v7 : V} : (F_Door v0 v1 v2 v3 v4 v5 v6 v7).lookup ("round" : Str) = some v5 := ((lk_past ne_round_room).trans ((lk_past ne_round_zone).trans ((lk_past ne_round_key).trans ((lk_past ne_round_day).trans ((lk_past ne_round_number).trans lk_here)))))
theorem put_Door_round {y v0 v1 v2 v3 v4 v5 v6 v7 : V} : putF "round" y (F_Door v0 v1 v2 v3 v4 v5 v6 v7) = F_Door v0 v1 v2 v3 v4 y v6 v7 := ((put_past ne_round_room).trans (congrArg _ ((put_past ne_round_zone).trans (congrArg _ ((put_past ne_round_key).trans (congrArg _ ((put_past ne_round_day).trans (congrArg _ ((put_past ne_round_number).trans (congrArg _ put_here))))))))))
theorem lk_Door_is_bolted {v0 v1 v2 v3 v4 v5 v6 v7 : V} : (F_Door v0 v1 v2 v3 v4 v5 v6 v7).lookup ("is_bolted" : Str) = some v6 := ((lk_past ne_is_bolted_room).trans ((lk_past ne_is_bolted_zone).trans ((lk_past ne_is_bolted_key).trans ((lk_past ne_is_bolted_day).trans ((lk_past ne_is_bolted_number).trans ((lk_past ne_is_bolted_round).trans lk_here))))))
theorem put_Door_is_bolted {y v0 v1 v2 v3 v4 v5 v6 v7 : V} : putF "is_bolted" y (F_Door v0 v1 v2 v3 v4 v5 v6 v7) = F_Door v0 v1 v2 v3 v4 v5 y v7 := ((put_past ne_is_bolted_room).trans (congrArg _ ((put_past ne_is_bolted_zone).trans (congrArg _ ((put_past ne_is_bolted_key).trans (congrArg _ ((put_past ne_is_bolted_day).trans (congrArg _ ((put_past ne_is_bolted_number).trans (congrArg _ ((put_past ne_is_bolted_round).trans (congrArg _ put_here))))))))))))
theorem lk_Door_book {v0 v1 v2 v3 v4 v5 v6 v7 : V} : (F_Door v0 v1 v2 v3 v4 v5 v6 v7).lookup ("book" : Str) = some v7 := ((lk_past ne_book_room).trans ((lk_past ne_book_zone).trans ((lk_past ne_book_key).trans ((lk_past ne_book_day).trans ((lk_past ne_book_number).trans ((lk_past ne_book_round).trans ((lk_past ne_book_is_bolted).trans lk_here)))))))
theorem put_Door_book {y v0 v1 v2 v3 v4 v5 v6 v7 : V} : putF "book" y (F_Door v0 v1 v2 v3 v4 v5 v6 v7) = F_Door v0 v1 v2 v3 v4 v5 v6 y := ((put_past ne_book_room).trans (congrArg _ ((put_past ne_book_zone).trans (congrArg _ ((put_past ne_book_key).trans (congrArg _ ((put_past ne_book_day).trans (congrArg _ ((put_past ne_book_number).trans (congrArg _ ((put_past ne_book_round).trans (congrArg _ ((put_past ne_book_is_bolted).trans (congrArg _ put_here))))))))))))))
theorem mk_Door_0 {v0 : V} : putF "room" v0 ([] : List (Str × V)) = ([("room", v0)] : List (Str × V)) := rfl
theorem mk_Door_1 {v0 v1 : V} : putF "zone" v1 ([("room", v0)] : List (Str × V)) = ([("room", v0), ("zone", v1)] : List (Str × V)) := ((put_past ne_zone_room).trans (congrArg _ rfl))
theorem mk_Door_2 {v0 v1 v2 : V} : putF "key" v2 ([("room", v0), ("zone", v1)] : List (Str × V)) = ([("room", v0), ("zone", v1), ("key", v2)] : List (Str × V)) := ((put_past ne_key_room).trans (congrArg _ ((put_past ne_key_zone).trans (congrArg _ rfl))))
theorem mk_Door_3 {v0 v1 v2 v3 : V} : putF "day" v3 ([("room", v0), ("zone", v1), ("key", v2)] : List (Str × V)) = ([("room", v0), ("zone", v1), ("key", v2), ("day", v3)] : List (Str × V)) := ((put_past ne_day_room).trans (congrArg _ ((put_past ne_day_zone).trans (congrArg _ ((put_past ne_day_key).trans (congrArg _ rfl))))))
theorem mk_Door_4 {v0 v1 v2 v3 v4 : V} : putF "number" v4 ([("room", v0), ("zone", v1), ("key", v2), ("day", v3)] : List (Str × V)) = ([("room", v0), ("zone", v1), ("key", v2), ("day", v3), ("number", v4)] : List (Str × V)) := ((put_past ne_number_room).trans (congrArg _ ((put_past ne_number_zone).trans (congrArg _ ((put_past ne_number_key).trans (congrArg _ ((put_past ne_number_day).trans (congrArg _ rfl))))))))
theorem mk_Door_5 {v0 v1 v2 v3 v4 v5 : V} : putF "round" v5 ([("room", v0), ("zone", v1), ("key", v2), ("day", v3), ("number", v4)] : List (Str × V)) = ([("room", v0), ("zone", v1), ("key", v2), ("day", v3), ("number", v4), ("round", v5)] : List (Str × V)) := ((put_past ne_round_room).trans (congrArg _ ((put_past ne_round_zone).trans (congrArg _ ((put_past ne_round_key).trans (congrArg _ ((put_past ne_round_day).trans (congrArg _ ((put_past ne_round_number).trans (congrArg _ rfl))))))))))
theorem mk_Door_6 {v0 v1 v2 v3 v4 v5 v6 : V} : putF "is_bolted" v6 ([("room", v0), ("zone", v1), ("key", v2), ("day", v3), ("number", v4), ("round", v5)] : List (Str × V)) = ([("room", v0), ("zone", v1), ("key", v2), ("day", v3), ("number", v4), ("round", v5), ("is_bolted", v6)] : List (Str × V)) := ((put_past ne_is_bolted_room).trans (congrArg _ ((put_past ne_is_bolted_zone).trans (congrArg _ ((put_past ne_is_bolted_key).trans (congrArg _ ((put_past ne_is_bolted_day).trans (congrArg _ ((put_past ne_is_bolted_number).trans (congrArg _ ((put_past ne_is_bolted_round).trans (congrArg _ rfl))))))))))))
theorem mk_Door_7 {v0 v1 v2 v3 v4 v5 v6 v7 : V} : putF "book" v7 ([("room", v0), ("zone", v1), ("key", v2), ("day", v3), ("number", v4), ("round", v5), ("is_bolted", v6)] : List (Str × V)) = ([("room", v0), ("zone", v1), ("key", v2), ("day", v3), ("number", v4), ("round", v5), ("is_bolted", v6), ("book", v7)] : List (Str × V)) := ((put_past ne_book_room).trans (congrArg _ ((put_past ne_book_zone).trans (congrArg _ ((put_past ne_book_key).trans (congrArg _ ((put_past ne_book_day).trans (congrArg _ ((put_past ne_book_number).trans (congrArg _ ((put_past ne_book_round).trans (congrArg _ ((put_past ne_book_is_bolted).trans (congrArg _ rfl))))))))))))))
theorem len_Door {v0 v1 v2 v3 v4 v5 v6 v7 : V} : (F_Door v0 v1 v2 v3 v4 v5 v6 v7).length = 8 := rfl
def F_Box (v0 : V) : List (Str × V) := [("door", v0)]
theorem lk_Box_door {v0 : V} : (F_Box v0).lookup ("door" : Str) = some v0 := lk_here
theorem put_Box_door {y v0 : V} : putF "door" y (F_Box v0) = F_Box y := put_here
theorem mk_Box_0 {v0 : V} : putF "door" v0 ([] : List (Str × V)) = ([("door", v0)] : List (Str × V)) := rfl
theorem len_Box {v0 : V} : (F_Box v0).length = 1 := rfl
def F_Tape (v0 v1 : V) : List (Str × V) := [("numbers", v0), ("at", v1)]
theorem lk_Tape_numbers {v0 v1 : V} : (F_Tape v0 v1).lookup ("numbers" : Str) = some v0 := lk_here
theorem put_Tape_numbers {y v0 v1 : V} : putF "numbers" y (F_Tape v0 v1) = F_Tape y v1 := put_here
theorem lk_Tape_at {v0 v1 : V} : (F_Tape v0 v1).lookup ("at" : Str) = some v1 := ((lk_past ne_at_numbers).trans lk_here)
theorem put_Tape_at {y v0 v1 : V} : putF "at" y (F_Tape v0 v1) = F_Tape v0 y := ((put_past ne_at_numbers).trans (congrArg _ put_here))
theorem no_Tape_is_done {v0 v1 : V} : (F_Tape v0 v1).lookup ("is_done" : Str) = none := ((lk_past ne_is_done_numbers).trans ((lk_past ne_is_done_at).trans rfl))
theorem no_Tape_take_many {v0 v1 : V} : (F_Tape v0 v1).lookup ("take_many" : Str) = none := ((lk_past ne_take_many_numbers).trans ((lk_past ne_take_many_at).trans rfl))
theorem no_Tape_take_row {v0 v1 : V} : (F_Tape v0 v1).lookup ("take_row" : Str) = none := ((lk_past ne_take_row_numbers).trans ((lk_past ne_take_row_at).trans rfl))
theorem mk_Tape_0 {v0 : V} : putF "numbers" v0 ([] : List (Str × V)) = ([("numbers", v0)] : List (Str × V)) := rfl
theorem mk_Tape_1 {v0 v1 : V} : putF "at" v1 ([("numbers", v0)] : List (Str × V)) = ([("numbers", v0), ("at", v1)] : List (Str × V)) := ((put_past ne_at_numbers).trans (congrArg _ rfl))
theorem len_Tape {v0 v1 : V} : (F_Tape v0 v1).length = 2 := rfl
end Ld
namespace Ld
open PySem PySem.Spec PyProof.Rows L2

/-! ### how things lie in the heap -/
/-- a whole number from nought -/
abbrev nv (n : Nat) : V := .int (n : Int)
def L (l : List Nat) : List V := l.map nv
theorem L_length (l : List Nat) : (L l).length = l.length := List.length_map ..
theorem L_append (l m : List Nat) : L (l ++ m) = L l ++ L m := List.map_append
theorem L_take (l : List Nat) (n : Nat) : (L l).take n = L (l.take n) := List.map_take.symm
theorem L_drop (l : List Nat) (n : Nat) : (L l).drop n = L (l.drop n) := List.map_drop.symm
theorem L_get {l : List Nat} {i n : Nat} (h : l[i]? = some n) : (L l)[i]? = some (nv n) := by
  unfold L
  rw [List.getElem?_map, h]
  rfl
theorem L_at {l : List Nat} {i : Nat} {v : V} (h : (L l)[i]? = some v) : ∃ n, l[i]? = some n ∧ v = nv n := by
  unfold L at h
  rw [List.getElem?_map] at h
  cases e : l[i]? with
  | none => rw [e] at h; cases h
  | some n => rw [e] at h; exact ⟨n, rfl, (Option.some.inj h).symm⟩
theorem L_I (l : List Nat) : (I l).map V.int = L l := by
  unfold I L
  rw [List.map_map]
  rfl
/-- all that was tracked, but what stands at t, is as it was -/
def Keep (H H' : Hp) (t : Addr) : Prop := ∀ b o, H b = some o → b ≠ t → H' b = some o
theorem Keep.refl (H : Hp) (t : Addr) : Keep H H t := fun _ _ h _ => h
theorem Keep.trans {H H1 H2 : Hp} {t : Addr} (a : Keep H H1 t) (b : Keep H1 H2 t) : Keep H H2 t := fun c o h n => b c o (a c o h n) n
theorem Keep.of {H H' : Hp} {t : Addr} (s : Same H H') : Keep H H' t := fun b o h _ => s b o h
theorem Keep.upd {H H1 : Hp} {t : Addr} {o : HO} (k : Keep H H1 t) : Keep H (L2.upd H1 t o) t := fun b u h n => by
  rw [upd_ne n]
  exact k b u h n
/-- t was new -/
theorem Keep.same {H H' : Hp} {t : Addr} (k : Keep H H' t) (n : H t = none) : Same H H' := fun b o h => k b o h (ne_of_none h n)
theorem Same.new {H H' : Hp} {p : Addr} {o : HO} (s : Same H H') (n : H' p = none) : Same H (upd H' p o) := fun b u h => by
  rw [upd_ne (ne_of_none (s b u h) n)]
  exact s b u h
theorem Same.upd0 {H : Hp} {p : Addr} {o : HO} (n : H p = none) : Same H (upd H p o) := Same.new (Same.refl H) n
/-- an object that H does not know may change -/
theorem Same.mut {H H' : Hp} {p : Addr} {o : HO} (s : Same H H') (n : H p = none) : Same H (upd H' p o) := fun b u h => by
  rw [upd_ne (ne_of_none h n)]
  exact s b u h
theorem Keep.new {H H1 : Hp} {t p : Addr} {o : HO} (k : Keep H H1 t) (n : H1 p = none) : Keep H (L2.upd H1 p o) t := fun b u h m => by
  rw [upd_ne (ne_of_none (k b u h m) n)]
  exact k b u h m
theorem Keep.free {H H' : Hp} {t p : Addr} {u : HO} (k : Keep H H' t) (ht : H' t = some u) (h : H' p = none) : H p = none := by
  cases e : H p with
  | none => rfl
  | some o =>
    by_cases q : p = t
    · rw [q, ht] at h; cases h
    · rw [k p o e q] at h; cases h
theorem Keep.seq {K : PySem.W.Frag} {H H' : Hp} {t q : Addr} {C dx : Addr} {fs : List (Str × V)} {xs : List V} (k : Keep H H' t) (ht : H t = some (.ins C dx fs)) (h : SqL K H q xs) : SqL K H' q xs := by
  rcases h with (h | ⟨o, h⟩) | h
  · exact .inl (.inl (k _ _ h (ne_of h ht (by intro z; cases z))))
  · exact .inl (.inr ⟨o, k _ _ h (ne_of h ht (by intro z; cases z))⟩)
  · exact .inr h
theorem ins_ne {H : Hp} {p q C dx C' dx' : Addr} {fs fs' : List (Str × V)} (h : H p = some (.ins C dx fs)) (h' : H q = some (.ins C' dx' fs')) (n : fs.length ≠ fs'.length) : p ≠ q := by
  intro e
  subst e
  rw [h] at h'
  cases h'
  exact n rfl
theorem lst_ins {H : Hp} {p q C dx : Addr} {fs : List (Str × V)} {xs : List V} (h : H p = some (.lst xs)) (h' : H q = some (.ins C dx fs)) : p ≠ q := ne_of h h' (by intro z; cases z)
def MixIn (a : Ad) (H : Hp) (p dx : Addr) (v : Ks345.Four) : Prop := H p = some (.ins a.A.c_Mixer dx (F_Mixer (nv v.a) (nv v.b) (nv v.c) (nv v.d)))
def MixAt (a : Ad) (H : Hp) (p : Addr) (v : Ks345.Four) : Prop := ∃ dx, MixIn a H p dx v
def CardIn (a : Ad) (H : Hp) (p dx : Addr) (c : Ks345.Card) : Prop := H p = some (.ins a.B.c_Card dx (F_Card (nv c.kind) (nv c.place) (nv c.number) (nv c.last) (nv c.serial)))
def CardAt (a : Ad) (H : Hp) (p : Addr) (c : Ks345.Card) : Prop := ∃ dx, CardIn a H p dx c
def EntAt (a : Ad) (H : Hp) (p : Addr) (e : Ks346.Entry) : Prop := ∃ dx, H p = some (.ins a.B.c_Entry dx (F_Entry (nv e.kind) (nv e.number) (nv e.serial) (nv e.day)))
def Ents (a : Ad) (H : Hp) : List Addr → List Ks346.Entry → Prop
  | [], [] => True
  | e :: es, b :: bs => EntAt a H e b ∧ Ents a H es bs
  | _, _ => False
structure DoorIn (a : Ad) (H : Hp) (d dx kk bb : Addr) (es : List Addr) (s : Ks346.Abs) : Prop where
  obj : H d = some (.ins a.B.c_Door dx (F_Door (nv s.room) (nv s.zone) (.ref kk) (nv s.day) (nv s.number) (nv s.epoch) (.bl s.bolted) (.ref bb)))
  key : H kk = some (.lst (L s.key))
  book : H bb = some (.lst (es.map V.ref))
  ents : Ents a H es s.book
  few : s.book.length ≤ 16
def DoorAt (a : Ad) (H : Hp) (d : Addr) (s : Ks346.Abs) : Prop := ∃ dx kk bb es, DoorIn a H d dx kk bb es s
/-- the same, and neither its key nor its book is the list at f -/
def DoorAv (a : Ad) (H : Hp) (f d : Addr) (s : Ks346.Abs) : Prop := ∃ dx kk bb es, DoorIn a H d dx kk bb es s ∧ kk ≠ f ∧ bb ≠ f
theorem DoorAv.at {a : Ad} {H : Hp} {f d : Addr} {s : Ks346.Abs} (h : DoorAv a H f d s) : DoorAt a H d s := by
  obtain ⟨dx, kk, bb, es, D, _⟩ := h
  exact ⟨dx, kk, bb, es, D⟩
/-- a list stands at f -/
def LstAt (H : Hp) (f : Addr) : Prop := ∃ xs, H f = some (.lst xs)
def doorV : Option Addr → V
  | none => .non
  | some d => .ref d
def BoxAt (a : Ad) (H : Hp) (b : Addr) (o : Option Addr) : Prop := ∃ dx, H b = some (.ins a.C.c_Box dx (F_Box (doorV o)))
structure TapeIn (a : Ad) (H : Hp) (t dx l : Addr) (ns : List Nat) (k : Nat) : Prop where
  obj : H t = some (.ins a.C.c_Tape dx (F_Tape (.ref l) (nv k)))
  lst : H l = some (.lst (L ns))
def TapeAt (a : Ad) (H : Hp) (t : Addr) (ns : List Nat) (k : Nat) : Prop := ∃ dx l, TapeIn a H t dx l ns k
/-- the box, its door at d (or none), in the state s -/
structure House (a : Ad) (H : Hp) (f box : Addr) (d : Option Addr) (s : Ks346.Abs) : Prop where
  box : BoxAt a H box d
  no : d = none → s = Ks346Neutral.start
  yes : ∀ x, d = some x → Keyed s ∧ DoorAv a H f x s
/-- what a deed may change: the box and its door -/
def Frame (H H' : Hp) (box : Addr) (d : Option Addr) : Prop := ∀ b o, H b = some o → b ≠ box → d ≠ some b → H' b = some o
theorem Frame.of {H H' : Hp} {box : Addr} {d : Option Addr} (s : Same H H') : Frame H H' box d := fun b o h _ _ => s b o h

/-! ### the promises -/
/-- the refusal by the number n is wished for -/
def Ref (a : Ad) (H : Hp) (n : Int) (E : XK) : Prop := ∀ (x : Addr) (H' : Hp), Same H H' → H' x = some (.xd [("number", .int n)]) → E (.ref a.C.c_Refused) (some x) H'
def sp_turned (_ : PySem.W.Frag) (_ : Ad) : Sp := fun vs H Q _ => ∃ (x n : Nat), vs = [nv x, nv n] ∧ n ≤ 32 ∧ Q (nv (Ks345.turn n x)) H
def sp_number_of (K : PySem.W.Frag) (_ : Ad) : Sp := fun vs H Q _ => ∃ (p : Addr) (l : List Nat), vs = [.ref p] ∧ SqL K H p (L l) ∧ Q (nv (Ks345.number l)) H
def sp_bytes_of (_ : PySem.W.Frag) (_ : Ad) : Sp := fun vs H Q _ => ∃ (n : Nat), vs = [nv n] ∧ ∀ (p : Addr) (H' : Hp), H p = none → Same H H' → H' p = some (.lst (L (Ks345.bytes 8 n))) → Q (.ref p) H'
def start4 (k l : Nat) : Ks345.Four := ⟨8317987319222330741 ^^^ k, 7237128888997146477 ^^^ l, 7816392313619706465 ^^^ k, 8387220255154660723 ^^^ l⟩
def sp_Mixer_init (_ : PySem.W.Frag) (a : Ad) : Sp := fun vs H Q _ => ∃ (p dx : Addr) (k l : Nat), vs = [.ref p, nv k, nv l] ∧ H p = some (.ins a.A.c_Mixer dx []) ∧ ∀ H', MixAt a H' p (start4 k l) → Keep H H' p → Q .non H'
def sp_Mixer_turn_once (_ : PySem.W.Frag) (a : Ad) : Sp := fun vs H Q _ => ∃ (p : Addr) (v : Ks345.Four), vs = [.ref p] ∧ MixAt a H p v ∧ ∀ H', MixAt a H' p (Ks345.round v) → Keep H H' p → Q .non H'
def sp_Mixer_rounds (_ : PySem.W.Frag) (a : Ad) : Sp := fun vs H Q _ => ∃ (p : Addr) (n : Nat) (v : Ks345.Four), vs = [.ref p, nv n] ∧ n ≤ 100 ∧ MixAt a H p v ∧ ∀ H', MixAt a H' p (Ks345.rounds n v) → Keep H H' p → Q .non H'
def sp_Mixer_take (_ : PySem.W.Frag) (a : Ad) : Sp := fun vs H Q _ => ∃ (p : Addr) (m : Nat) (v : Ks345.Four), vs = [.ref p, nv m] ∧ MixAt a H p v ∧ ∀ H', MixAt a H' p (Ks345.word v m) → Keep H H' p → Q .non H'
def sp_Mixer_result (_ : PySem.W.Frag) (a : Ad) : Sp := fun vs H Q _ => ∃ (p : Addr) (v : Ks345.Four), vs = [.ref p] ∧ MixAt a H p v ∧ ∀ H', Keep H H' p → Q (nv (fin v)) H'
def sp_tag_of (K : PySem.W.Frag) (_ : Ad) : Sp := fun vs H Q _ => ∃ (k m : Addr) (key msg : List Nat), vs = [.ref k, .ref m] ∧ SqL K H k (L key) ∧ SqL K H m (L msg) ∧ msg.length = 8 ∧
  ∀ (p : Addr) (H' : Hp), H p = none → Same H H' → H' p = some (.lst (L (Ks345.bytes 8 (Ks345.tag key msg)))) → Q (.ref p) H'
def sp_Card_init (K : PySem.W.Frag) (a : Ad) : Sp := fun vs H Q _ => ∃ (p dx r : Addr) (row : List Nat), vs = [.ref p, .ref r] ∧ H p = some (.ins a.B.c_Card dx []) ∧ SqL K H r (L row) ∧ row.length = 16 ∧ ∀ H', CardAt a H' p (Ks345.cardOf row) → Keep H H' p → Q .non H'
def sp_Entry_init (_ : PySem.W.Frag) (a : Ad) : Sp := fun vs H Q _ => ∃ (p dx : Addr) (k n s d : Nat), vs = [.ref p, nv k, nv n, nv s, nv d] ∧ H p = some (.ins a.B.c_Entry dx []) ∧ ∀ H', EntAt a H' p ⟨k, n, s, d⟩ → Keep H H' p → Q .non H'
def sp_Door_init (_ : PySem.W.Frag) (a : Ad) : Sp := fun vs H Q _ => ∃ (p dx kk : Addr) (r z : Nat) (key : List Nat), vs = [.ref p, nv r, nv z, .ref kk] ∧ H p = some (.ins a.B.c_Door dx []) ∧ H kk = some (.lst (L key)) ∧ ∀ H' bb, H bb = none → DoorIn a H' p dx kk bb [] { key := key, room := r, zone := z } → Keep H H' p → Q .non H'
def sp_is_place (_ : PySem.W.Frag) (_ : Ad) : Sp := fun vs H Q _ => ∃ (k p : Nat), vs = [nv k, nv p] ∧ ∀ H', Same H H' → Q (.bl (isPlace k p)) H'
def sp_card_of (_ : PySem.W.Frag) (a : Ad) : Sp := fun vs H Q _ => ∃ (d r : Addr) (s : Ks346.Abs) (row : List Nat), vs = [.ref d, .ref r] ∧ DoorAt a H d s ∧ H r = some (.lst (L row)) ∧
  (isCard s.key row = false → ∀ H', Same H H' → Q .non H') ∧ (isCard s.key row = true → ∀ (p : Addr) (H' : Hp), Same H H' → H p = none → CardAt a H' p (Ks345.cardOf row) → Q (.ref p) H')
def sp_is_room_card (_ : PySem.W.Frag) (a : Ad) : Sp := fun vs H Q _ => ∃ (p : Addr) (c : Ks345.Card), vs = [.ref p] ∧ CardAt a H p c ∧ ∀ H', Same H H' → Q (.bl (isRoom c)) H'
def sp_is_of_zone (_ : PySem.W.Frag) (a : Ad) : Sp := fun vs H Q _ => ∃ (p : Addr) (z : Nat) (c : Ks345.Card), vs = [.ref p, nv z] ∧ CardAt a H p c ∧ Q (.bl (decide (c.place / 2 ^ z % 2 = 1))) H
def sp_shown_room (_ : PySem.W.Frag) (a : Ad) : Sp := fun vs H Q _ => ∃ (d p : Addr) (s : Ks346.Abs) (c : Ks345.Card), vs = [.ref d, .ref p] ∧ DoorAt a H d s ∧ CardAt a H p c ∧ Q (.int (ansRoom s c)) H
def sp_shown_zone (_ : PySem.W.Frag) (a : Ad) : Sp := fun vs H Q _ => ∃ (d p : Addr) (s : Ks346.Abs) (c : Ks345.Card), vs = [.ref d, .ref p] ∧ DoorAt a H d s ∧ CardAt a H p c ∧ Q (.int (ansZone s c)) H
def sp_shown (_ : PySem.W.Frag) (a : Ad) : Sp := fun vs H Q _ => ∃ (d p : Addr) (s : Ks346.Abs) (c : Ks345.Card), vs = [.ref d, .ref p] ∧ DoorAt a H d s ∧ CardAt a H p c ∧ ∀ H', Same H H' → Q (.int (ans s c)) H'
def sp_learn (_ : PySem.W.Frag) (a : Ad) : Sp := fun vs H Q _ => ∃ (d p f : Addr) (s : Ks346.Abs) (c : Ks345.Card), vs = [.ref d, .ref p] ∧ DoorAv a H f d s ∧ CardAt a H p c ∧ LstAt H f ∧ ∀ H', DoorAv a H' f d (learned s c) → Keep H H' d → Q .non H'
def sp_Box_init (_ : PySem.W.Frag) (a : Ad) : Sp := fun vs H Q _ => ∃ (p dx : Addr), vs = [.ref p] ∧ H p = some (.ins a.C.c_Box dx []) ∧ ∀ H', BoxAt a H' p none → Keep H H' p → Q .non H'
def sp_Tape_init (K : PySem.W.Frag) (a : Ad) : Sp := fun vs H Q _ => ∃ (p dx r : Addr) (ns : List Nat), vs = [.ref p, .ref r] ∧ H p = some (.ins a.C.c_Tape dx []) ∧ SqL K H r (L ns) ∧ ∀ H', TapeAt a H' p ns 0 → Keep H H' p → Q .non H'
def sp_Tape_is_done (_ : PySem.W.Frag) (a : Ad) : Sp := fun vs H Q _ => ∃ (t : Addr) (ns : List Nat) (k : Nat), vs = [.ref t] ∧ TapeAt a H t ns k ∧ Q (.bl (decide (ns.length ≤ k))) H
def sp_Tape_take_many (_ : PySem.W.Frag) (a : Ad) : Sp := fun vs H Q _ => ∃ (t dx l : Addr) (m : Nat) (ns : List Nat) (k : Nat), vs = [.ref t, nv m] ∧ TapeIn a H t dx l ns k ∧ k + m ≤ ns.length ∧
  ∀ (p : Addr) (H' : Hp), H p = none → TapeIn a H' t dx l ns (k + m) → Keep H H' t → H' p = some (.lst (L ((ns.drop k).take m))) → Q (.ref p) H'
def sp_Tape_take_row (_ : PySem.W.Frag) (a : Ad) : Sp := fun vs H Q _ => ∃ (t dx l : Addr) (ns : List Nat) (k : Nat) (row rest : List Nat), vs = [.ref t] ∧ TapeIn a H t dx l ns k ∧ ns.drop k = row.length :: (row ++ rest) ∧
  ∀ (p : Addr) (H' : Hp), H p = none → TapeIn a H' t dx l ns (k + 1 + row.length) → Keep H H' t → H' p = some (.lst (L row)) → Q (.ref p) H'
def sp_ask (_ : PySem.W.Frag) (a : Ad) : Sp := fun vs H Q E => ∃ (g : Bool) (n : Int), vs = [.bl g, .int n] ∧ (g = true → Q .non H) ∧ (g = false → Ref a H n E)
def sp_door_of (_ : PySem.W.Frag) (a : Ad) : Sp := fun vs H Q E => ∃ (b : Addr) (o : Option Addr), vs = [.ref b] ∧ BoxAt a H b o ∧ (∀ d, o = some d → Q (.ref d) H) ∧ (o = none → Ref a H (-61) E)
def sp_card_in (_ : PySem.W.Frag) (a : Ad) : Sp := fun vs H Q E => ∃ (d r : Addr) (s : Ks346.Abs) (row : List Nat), vs = [.ref d, .ref r] ∧ DoorAt a H d s ∧ H r = some (.lst (L row)) ∧
  (isCard s.key row = true → ∀ (p : Addr) (H' : Hp), Same H H' → H p = none → CardAt a H' p (Ks345.cardOf row) → Q (.ref p) H') ∧ (isCard s.key row = false → Ref a H (-71) E)
/-- the i-th deed of DEEDS -/
def spDeed (a : Ad) (i : Nat) : Sp := fun vs H Q E => ∃ (f box nl rl : Addr) (d : Option Addr) (s : Ks346.Abs) (nums row : List Nat), vs = [.ref box, .ref nl, .ref rl] ∧ LstAt H f ∧ rl ≠ f ∧ House a H f box d s ∧ H nl = some (.lst (L nums)) ∧ H rl = some (.lst (L row)) ∧
  nums.length = manyOf i ∧ Fine row ∧
  (∀ (p : Addr) (d' : Option Addr) (H' : Hp), H p = none → House a H' f box d' (stepOf s i nums row).1 → Frame H H' box d → H' p = some (.lst ((stepOf s i nums row).2.map V.int)) → Q (.ref p) H') ∧
  (∀ n, stepOf s i nums row = (s, [n]) → Ref a H n E)
def sp_do_begin (_ : PySem.W.Frag) (a : Ad) : Sp := spDeed a 0
def sp_do_day (_ : PySem.W.Frag) (a : Ad) : Sp := spDeed a 1
def sp_do_open (_ : PySem.W.Frag) (a : Ad) : Sp := spDeed a 2
def sp_do_would (_ : PySem.W.Frag) (a : Ad) : Sp := spDeed a 3
def sp_do_bolt (_ : PySem.W.Frag) (a : Ad) : Sp := spDeed a 4
def sp_do_book (_ : PySem.W.Frag) (a : Ad) : Sp := spDeed a 5
def sp_do_state (_ : PySem.W.Frag) (a : Ad) : Sp := spDeed a 6
def deedAt (a : Ad) : Nat → Addr
  | 0 => a.C.f_do_begin
  | 1 => a.C.f_do_day
  | 2 => a.C.f_do_open
  | 3 => a.C.f_do_would
  | 4 => a.C.f_do_bolt
  | 5 => a.C.f_do_book
  | _ => a.C.f_do_state
/-- which promise a deed's address keeps -/
def Deeds (_ : PySem.W.Frag) (a : Ad) (f : Addr) (sp : Sp) : Prop := ∃ i, i < 7 ∧ f = deedAt a i ∧ sp = spDeed a i
def sp_answer (_ : PySem.W.Frag) (a : Ad) : Sp := fun vs H Q _ => ∃ (f box t dx l : Addr) (d : Option Addr) (s : Ks346.Abs) (ns : List Nat) (k i : Nat) (nums row rest : List Nat), vs = [.ref box, .ref t] ∧ LstAt H f ∧ House a H f box d s ∧ TapeIn a H t dx l ns k ∧ k ≤ ns.length ∧
  One (ns.drop k) i nums row rest ∧ Fine row ∧
  ∀ (p : Addr) (d' : Option Addr) (H' : Hp), H p = none → House a H' f box d' (stepOf s i nums row).1 → TapeIn a H' t dx l ns (ns.length - rest.length) → (∀ b o, H b = some o → b ≠ box → d ≠ some b → b ≠ t → H' b = some o) →
    H' p = some (.lst ((stepOf s i nums row).2.map V.int)) → Q (.ref p) H'
def spAns (K : PySem.W.Frag) : Sp := fun vs H Q _ => ∃ (q : Addr) (ns : List Int) (ms : List Nat) (raw : List (List (List Int))), vs = [.ref q] ∧ SqL K H q (ns.map V.int) ∧ Line ns ms raw ∧
  ∀ (H' : Hp) (p : Addr), H' p = some (.lst ((PyKs346.answers ns).map V.int)) → Q (.ref p) H'
def sp_answers (K : PySem.W.Frag) (_ : Ad) : Sp := spAns K
theorem len_deed {a : Ad} {i : Nat} {vs : List V} {H : Hp} {Q : VK} {E : XK} (h : spDeed a i vs H Q E) : vs.length = 3 := by
  obtain ⟨_, _, _, _, _, _, _, _, rfl, _⟩ := h
  rfl
theorem len_turned (K : PySem.W.Frag) (a : Ad) : ∀ vs H Q E, sp_turned K a vs H Q E → vs.length = 2 := by
  rintro vs H Q E ⟨_, _, rfl, _⟩
  rfl
theorem len_number_of (K : PySem.W.Frag) (a : Ad) : ∀ vs H Q E, sp_number_of K a vs H Q E → vs.length = 1 := by
  rintro vs H Q E ⟨_, _, rfl, _⟩
  rfl
theorem len_bytes_of (K : PySem.W.Frag) (a : Ad) : ∀ vs H Q E, sp_bytes_of K a vs H Q E → vs.length = 1 := by
  rintro vs H Q E ⟨_, rfl, _⟩
  rfl
theorem len_Mixer_init (K : PySem.W.Frag) (a : Ad) : ∀ vs H Q E, sp_Mixer_init K a vs H Q E → vs.length = 3 := by
  rintro vs H Q E ⟨_, _, _, _, rfl, _⟩
  rfl
theorem len_Mixer_turn_once (K : PySem.W.Frag) (a : Ad) : ∀ vs H Q E, sp_Mixer_turn_once K a vs H Q E → vs.length = 1 := by
  rintro vs H Q E ⟨_, _, rfl, _⟩
  rfl
theorem len_Mixer_rounds (K : PySem.W.Frag) (a : Ad) : ∀ vs H Q E, sp_Mixer_rounds K a vs H Q E → vs.length = 2 := by
  rintro vs H Q E ⟨_, _, _, rfl, _⟩
  rfl
theorem len_Mixer_take (K : PySem.W.Frag) (a : Ad) : ∀ vs H Q E, sp_Mixer_take K a vs H Q E → vs.length = 2 := by
  rintro vs H Q E ⟨_, _, _, rfl, _⟩
  rfl
theorem len_Mixer_result (K : PySem.W.Frag) (a : Ad) : ∀ vs H Q E, sp_Mixer_result K a vs H Q E → vs.length = 1 := by
  rintro vs H Q E ⟨_, _, rfl, _⟩
  rfl
theorem len_tag_of (K : PySem.W.Frag) (a : Ad) : ∀ vs H Q E, sp_tag_of K a vs H Q E → vs.length = 2 := by
  rintro vs H Q E ⟨_, _, _, _, rfl, _⟩
  rfl
theorem len_Card_init (K : PySem.W.Frag) (a : Ad) : ∀ vs H Q E, sp_Card_init K a vs H Q E → vs.length = 2 := by
  rintro vs H Q E ⟨_, _, _, _, rfl, _⟩
  rfl
theorem len_Entry_init (K : PySem.W.Frag) (a : Ad) : ∀ vs H Q E, sp_Entry_init K a vs H Q E → vs.length = 5 := by
  rintro vs H Q E ⟨_, _, _, _, _, _, rfl, _⟩
  rfl
theorem len_Door_init (K : PySem.W.Frag) (a : Ad) : ∀ vs H Q E, sp_Door_init K a vs H Q E → vs.length = 4 := by
  rintro vs H Q E ⟨_, _, _, _, _, _, rfl, _⟩
  rfl
theorem len_is_place (K : PySem.W.Frag) (a : Ad) : ∀ vs H Q E, sp_is_place K a vs H Q E → vs.length = 2 := by
  rintro vs H Q E ⟨_, _, rfl, _⟩
  rfl
theorem len_card_of (K : PySem.W.Frag) (a : Ad) : ∀ vs H Q E, sp_card_of K a vs H Q E → vs.length = 2 := by
  rintro vs H Q E ⟨_, _, _, _, rfl, _⟩
  rfl
theorem len_is_room_card (K : PySem.W.Frag) (a : Ad) : ∀ vs H Q E, sp_is_room_card K a vs H Q E → vs.length = 1 := by
  rintro vs H Q E ⟨_, _, rfl, _⟩
  rfl
theorem len_is_of_zone (K : PySem.W.Frag) (a : Ad) : ∀ vs H Q E, sp_is_of_zone K a vs H Q E → vs.length = 2 := by
  rintro vs H Q E ⟨_, _, _, rfl, _⟩
  rfl
theorem len_shown_room (K : PySem.W.Frag) (a : Ad) : ∀ vs H Q E, sp_shown_room K a vs H Q E → vs.length = 2 := by
  rintro vs H Q E ⟨_, _, _, _, rfl, _⟩
  rfl
theorem len_shown_zone (K : PySem.W.Frag) (a : Ad) : ∀ vs H Q E, sp_shown_zone K a vs H Q E → vs.length = 2 := by
  rintro vs H Q E ⟨_, _, _, _, rfl, _⟩
  rfl
theorem len_shown (K : PySem.W.Frag) (a : Ad) : ∀ vs H Q E, sp_shown K a vs H Q E → vs.length = 2 := by
  rintro vs H Q E ⟨_, _, _, _, rfl, _⟩
  rfl
theorem len_learn (K : PySem.W.Frag) (a : Ad) : ∀ vs H Q E, sp_learn K a vs H Q E → vs.length = 2 := by
  rintro vs H Q E ⟨_, _, _, _, _, rfl, _⟩
  rfl
theorem len_Box_init (K : PySem.W.Frag) (a : Ad) : ∀ vs H Q E, sp_Box_init K a vs H Q E → vs.length = 1 := by
  rintro vs H Q E ⟨_, _, rfl, _⟩
  rfl
theorem len_Tape_init (K : PySem.W.Frag) (a : Ad) : ∀ vs H Q E, sp_Tape_init K a vs H Q E → vs.length = 2 := by
  rintro vs H Q E ⟨_, _, _, _, rfl, _⟩
  rfl
theorem len_Tape_is_done (K : PySem.W.Frag) (a : Ad) : ∀ vs H Q E, sp_Tape_is_done K a vs H Q E → vs.length = 1 := by
  rintro vs H Q E ⟨_, _, _, rfl, _⟩
  rfl
theorem len_Tape_take_many (K : PySem.W.Frag) (a : Ad) : ∀ vs H Q E, sp_Tape_take_many K a vs H Q E → vs.length = 2 := by
  rintro vs H Q E ⟨_, _, _, _, _, _, rfl, _⟩
  rfl
theorem len_Tape_take_row (K : PySem.W.Frag) (a : Ad) : ∀ vs H Q E, sp_Tape_take_row K a vs H Q E → vs.length = 1 := by
  rintro vs H Q E ⟨_, _, _, _, _, _, _, rfl, _⟩
  rfl
theorem len_ask (K : PySem.W.Frag) (a : Ad) : ∀ vs H Q E, sp_ask K a vs H Q E → vs.length = 2 := by
  rintro vs H Q E ⟨_, _, rfl, _⟩
  rfl
theorem len_door_of (K : PySem.W.Frag) (a : Ad) : ∀ vs H Q E, sp_door_of K a vs H Q E → vs.length = 1 := by
  rintro vs H Q E ⟨_, _, rfl, _⟩
  rfl
theorem len_card_in (K : PySem.W.Frag) (a : Ad) : ∀ vs H Q E, sp_card_in K a vs H Q E → vs.length = 2 := by
  rintro vs H Q E ⟨_, _, _, _, rfl, _⟩
  rfl
theorem len_do_begin (K : PySem.W.Frag) (a : Ad) : ∀ vs H Q E, sp_do_begin K a vs H Q E → vs.length = 3 := fun _ _ _ _ h => len_deed h
theorem len_do_day (K : PySem.W.Frag) (a : Ad) : ∀ vs H Q E, sp_do_day K a vs H Q E → vs.length = 3 := fun _ _ _ _ h => len_deed h
theorem len_do_open (K : PySem.W.Frag) (a : Ad) : ∀ vs H Q E, sp_do_open K a vs H Q E → vs.length = 3 := fun _ _ _ _ h => len_deed h
theorem len_do_would (K : PySem.W.Frag) (a : Ad) : ∀ vs H Q E, sp_do_would K a vs H Q E → vs.length = 3 := fun _ _ _ _ h => len_deed h
theorem len_do_bolt (K : PySem.W.Frag) (a : Ad) : ∀ vs H Q E, sp_do_bolt K a vs H Q E → vs.length = 3 := fun _ _ _ _ h => len_deed h
theorem len_do_book (K : PySem.W.Frag) (a : Ad) : ∀ vs H Q E, sp_do_book K a vs H Q E → vs.length = 3 := fun _ _ _ _ h => len_deed h
theorem len_do_state (K : PySem.W.Frag) (a : Ad) : ∀ vs H Q E, sp_do_state K a vs H Q E → vs.length = 3 := fun _ _ _ _ h => len_deed h
theorem len_answer (K : PySem.W.Frag) (a : Ad) : ∀ vs H Q E, sp_answer K a vs H Q E → vs.length = 2 := by
  rintro vs H Q E ⟨_, _, _, _, _, _, _, _, _, _, _, _, _, rfl, _⟩
  rfl
theorem len_answers (K : PySem.W.Frag) (a : Ad) : ∀ vs H Q E, sp_answers K a vs H Q E → vs.length = 1 := by
  rintro vs H Q E ⟨_, _, _, _, rfl, _⟩
  rfl
end Ld
namespace Ld
open PySem PySem.Spec PyProof.Rows L2
/-! ### what an expression is worth, in numbers from nought -/
section
variable {K : PySem.W.Frag} {a : Ad} {σ : L2.St} {H : Hp} {ta tb te : TE} {x y : Nat} {v w : V}
theorem Val.is (h : Val te σ H v) (e : v = w) : Val te σ H w := e ▸ h
theorem val_lit {n : Nat} {i : Int} (e : i = (n : Int)) : Val (tC (.int i)) σ H (nv n) := fun Q q => by
  show Q (.int i) H
  rw [e]
  exact q
theorem val_add (ha : Val ta σ H (nv x)) (hb : Val tb σ H (nv y)) : Val (tOp rAddI ta tb) σ H (nv (x + y)) := val_op ha hb fun Q q => ⟨_, _, rfl, rfl, by
  have e : ((x + y : Nat) : Int) = (x : Int) + (y : Int) := by omega
  exact (congrArg (fun z : Int => Q (.int z) H) e).mp q⟩
theorem val_sub (ha : Val ta σ H (nv x)) (hb : Val tb σ H (nv y)) (h : y ≤ x) : Val (tOp rSubI ta tb) σ H (nv (x - y)) := val_op ha hb fun Q q => ⟨_, _, rfl, rfl, by
  have e : ((x - y : Nat) : Int) = (x : Int) - (y : Int) := by omega
  exact (congrArg (fun z : Int => Q (.int z) H) e).mp q⟩
theorem small64 {n : Nat} (h : n < 2 ^ 64) : -(2 ^ 64) < (n : Int) ∧ (n : Int) < 2 ^ 64 := by
  have e : ((2 ^ 64 : Nat) : Int) = (2 : Int) ^ 64 := Int.natCast_pow 2 64
  have h1 : (n : Int) < ((2 ^ 64 : Nat) : Int) := Int.ofNat_lt.mpr h
  rw [e] at h1
  have h2 : (0 : Int) ≤ (n : Int) := Int.natCast_nonneg n
  generalize (2 : Int) ^ 64 = z at h1 ⊢
  omega
theorem val_mul (ha : Val ta σ H (nv x)) (hb : Val tb σ H (nv y)) (h : x < 2 ^ 64 ∨ y < 2 ^ 64) : Val (tOp rMulI ta tb) σ H (nv (x * y)) := val_op ha hb fun Q q => ⟨_, _, rfl, rfl, h.imp small64 small64, by
  have e : ((x * y : Nat) : Int) = (x : Int) * (y : Int) := Int.natCast_mul x y
  exact (congrArg (fun z : Int => Q (.int z) H) e).mp q⟩
theorem val_mod (ha : Val ta σ H (nv x)) (hb : Val tb σ H (nv y)) (h : 0 < y) : Val (tOp rModI ta tb) σ H (nv (x % y)) := val_op ha hb fun Q q => ⟨_, _, rfl, rfl, Int.natCast_pos.mpr h, by
  have e : ((x % y : Nat) : Int) = (x : Int) % (y : Int) := Int.natCast_emod x y
  exact (congrArg (fun z : Int => Q (.int z) H) e).mp q⟩
theorem val_div (ha : Val ta σ H (nv x)) (hb : Val tb σ H (nv y)) (h : 0 < y) (h2 : y < 1073741824) : Val (tOp rDivI ta tb) σ H (nv (x / y)) := val_op ha hb fun Q q => ⟨_, _, rfl, rfl, ⟨Int.natCast_pos.mpr h, by omega⟩, by
  have e : ((x / y : Nat) : Int) = (x : Int) / (y : Int) := Int.natCast_ediv x y
  exact (congrArg (fun z : Int => Q (.int z) H) e).mp q⟩
theorem val_shl (ha : Val ta σ H (nv x)) (hb : Val tb σ H (nv y)) (h : x < 2 ^ 64) (h2 : y ≤ 1000000) : Val (tOp rShlI ta tb) σ H (nv (x * 2 ^ y)) := val_op ha hb fun Q q => ⟨_, _, rfl, rfl, ⟨Int.natCast_nonneg y, by omega, by rw [Int.natAbs_natCast]; exact h⟩, by
  have e : ((x * 2 ^ y : Nat) : Int) = (x : Int) * 2 ^ (y : Int).toNat := by rw [Int.natCast_mul, Int.natCast_pow, Int.toNat_natCast] <;> rfl
  exact (congrArg (fun z : Int => Q (.int z) H) e).mp q⟩
theorem val_shr (ha : Val ta σ H (nv x)) (hb : Val tb σ H (nv y)) : Val (tOp rShrI ta tb) σ H (nv (x / 2 ^ y)) := val_op ha hb fun Q q => ⟨_, _, rfl, rfl, Int.natCast_nonneg y, by
  have e : ((x / 2 ^ y : Nat) : Int) = (x : Int) / 2 ^ (y : Int).toNat := by rw [Int.natCast_ediv, Int.natCast_pow, Int.toNat_natCast] <;> rfl
  exact (congrArg (fun z : Int => Q (.int z) H) e).mp q⟩
theorem val_xor (ha : Val ta σ H (nv x)) (hb : Val tb σ H (nv y)) : Val (tOp rXorI ta tb) σ H (nv (x ^^^ y)) := val_op ha hb fun Q q => ⟨_, _, rfl, rfl, by
  exact (congrArg (fun z : Int => Q (.int z) H) (xor_nat x y).symm).mp q⟩
theorem val_and (ha : Val ta σ H (nv x)) (hb : Val tb σ H (nv y)) : Val (tOp rAndI ta tb) σ H (nv (x &&& y)) := val_op ha hb fun Q q => ⟨_, _, rfl, rfl, by
  exact (congrArg (fun z : Int => Q (.int z) H) (PySem.W.os_band x y).symm).mp q⟩
theorem val_bl {P P' : Prop} [Decidable P] [Decidable P'] {r : R2} (ha : Val ta σ H v) (hb : Val tb σ H w) (hr : ∀ Q : VK, Q (.bl (decide P)) H → r v w H Q) (e : P ↔ P') : Val (tOp r ta tb) σ H (.bl (decide P')) := val_op ha hb fun Q q => hr Q (by
  rw [decide_eq_decide.mpr e]
  exact q)
theorem val_lt (ha : Val ta σ H (nv x)) (hb : Val tb σ H (nv y)) : Val (tOp rLtI ta tb) σ H (.bl (decide (x < y))) := val_bl (P := (x : Int) < (y : Int)) ha hb (fun _ q => ⟨_, _, rfl, rfl, q⟩) (by omega)
theorem val_le (ha : Val ta σ H (nv x)) (hb : Val tb σ H (nv y)) : Val (tOp rLeI ta tb) σ H (.bl (decide (x ≤ y))) := val_bl (P := (x : Int) ≤ (y : Int)) ha hb (fun _ q => ⟨_, _, rfl, rfl, q⟩) (by omega)
theorem val_ge (ha : Val ta σ H (nv x)) (hb : Val tb σ H (nv y)) : Val (tOp rGeI ta tb) σ H (.bl (decide (y ≤ x))) := val_bl (P := (y : Int) ≤ (x : Int)) ha hb (fun _ q => ⟨_, _, rfl, rfl, q⟩) (by omega)
theorem nv_inj : nv x = nv y ↔ x = y := ⟨fun e => by
  have := V.int.inj e
  omega, fun e => by rw [e]⟩
theorem val_eq (ha : Val ta σ H (nv x)) (hb : Val tb σ H (nv y)) : Val (tOp rEq ta tb) σ H (.bl (decide (x = y))) := val_bl (P := nv x = nv y) ha hb (fun _ q => ⟨rfl, q⟩) nv_inj
theorem val_ne (ha : Val ta σ H (nv x)) (hb : Val tb σ H (nv y)) : Val (tOp rNe ta tb) σ H (.bl (!decide (x = y))) := val_op ha hb fun Q q => ⟨rfl, by
  rw [decide_eq_decide.mpr (nv_inj (x := x) (y := y))]
  exact q⟩
theorem val_ixL {p : Addr} {xs : List V} {i : Nat} (ha : Val ta σ H (.ref p)) (hb : Val tb σ H (nv i)) (hs : SqL K H p xs) (h : xs[i]? = some v) : Val (tOp (rIxL K) ta tb) σ H v := val_op ha hb fun Q q => ⟨p, xs, _, v, rfl, rfl, hs, atI_nat h, q⟩
theorem val_ixT {p : Addr} {xs : List V} {i : Nat} (ha : Val ta σ H (.ref p)) (hb : Val tb σ H (nv i)) (hs : SqT K H p xs) (h : xs[i]? = some v) : Val (tOp (rIxT K) ta tb) σ H v := val_op ha hb fun Q q => ⟨p, xs, _, v, rfl, rfl, hs, atI_nat h, q⟩
theorem val_len {p : Addr} {xs : List V} (ha : Val ta σ H (.ref p)) (hs : SqL K H p xs) : Val (tCB (rLen K) (tCons ta tNil)) σ H (nv xs.length) := fun Q q => ha _ ⟨p, xs, rfl, .inl hs, q⟩
/-! a call that changes nothing -/
def ValA (t : TA) (σ : L2.St) (H : Hp) (vs : List V) : Prop := ∀ Q : List V → Hp → Prop, Q vs H → t σ H Q
theorem va_nil : ValA tNil σ H [] := fun _ q => q
theorem va_cons {t : TA} {vs : List V} (h : Val te σ H v) (hr : ValA t σ H vs) : ValA (tCons te t) σ H (v :: vs) := fun Q q => h _ (hr _ q)
theorem val_call {sp : Sp} {E : XK} {t : TA} {vs : List V} (h : ValA t σ H vs) (hs : ∀ Q : VK, Q v H → sp vs H Q E) : Val (tCall sp [] E t) σ H v := fun Q q => h _ (by
  show sp (vs ++ []) H Q E
  rw [List.append_nil]
  exact hs Q q)
theorem call_go {sp : Sp} {E : XK} {t : TA} {vs : List V} {Q : VK} (h : ValA t σ H vs) (hs : sp vs H Q E) : tCall sp [] E t σ H Q := h _ (by
  show sp (vs ++ []) H Q E
  rw [List.append_nil]
  exact hs)
theorem callS_go {sp : Sp} {E : L2.St → XK} {t : TA} {vs : List V} {Q : VK} (h : ValA t σ H vs) (hs : sp vs H Q (E σ)) : tCallS sp E t σ H Q := h _ hs
theorem meth_go {sp : Sp} {E : XK} {t : TA} {vs : List V} {Q : VK} {C p dx : Addr} {m : Str} {fs : List (Str × V)} (ho : Val te σ H (.ref p)) (hp : H p = some (.ins C dx fs)) (hl : fs.lookup m = none) (h : ValA t σ H vs) (hs : sp (.ref p :: vs) H Q E) :
    tMeth C m sp [] E te t σ H Q := ho _ ⟨p, dx, fs, rfl, hp, hl, h _ (by
  show sp (.ref p :: (vs ++ [])) H Q E
  rw [List.append_nil]
  exact hs)⟩
theorem make_go {sp : Sp} {E : XK} {t : TA} {vs : List V} {Q : VK} {C : Addr} (h : ValA t σ H vs) (hs : ∀ x dx, H x = none → H dx = none → dx ≠ x → sp (.ref x :: vs) (L2.upd (L2.upd H dx (.own x)) x (.ins C dx [])) (fun v H2 => v = .non ∧ Q (.ref x) H2) E) :
    tMake C sp [] E t σ H Q := h _ fun x dx nx nd ne => by
  show sp (.ref x :: (vs ++ [])) _ _ E
  rw [List.append_nil]
  exact hs x dx nx nd ne
/-- behind a new instance -/
theorem made_same {H1 : Hp} {x dx C : Addr} (nx : H x = none) (nd : H dx = none) (k : Keep (L2.upd (L2.upd H dx (.own x)) x (.ins C dx [])) H1 x) : Same H H1 := L2.Same.made nx nd k
theorem fld_go {C dx p : Addr} {f : Str} {fs : List (Str × V)} {D : Ends} (hp : H p = some (.ins C dx fs)) (ho : Val ta σ H (.ref p)) (hv : Val te σ H v) (hc : Cls K C) (hn : NoAttr K C f) (hl : fs.length < 1000)
    (q : D.nx σ (L2.upd H p (.ins C dx (putF f v fs)))) : sFld K ta te f D σ H := hv _ (ho _ ⟨p, C, dx, fs, rfl, hp, hc, hn, hl, q⟩)
/-! the mixer's four numbers -/
theorem val_addW (ha : Val ta σ H (nv x)) (hb : Val tb σ H (nv y)) : Val (tOp rModI (tOp rAddI ta tb) (tC (.int 18446744073709551616))) σ H (nv (Ks345.add x y)) := val_mod (val_add ha hb) (val_lit (n := Ks345.W) rfl) (by decide)
theorem val_turned {n : Nat} {i : Int} {E : XK} (e : i = (n : Int)) (hn : n ≤ 32) (ha : Val ta σ H (nv x)) : Val (tCall (sp_turned K a) [] E (tCons ta (tCons (tC (.int i)) tNil))) σ H (nv (Ks345.turn n x)) := val_call (va_cons ha (va_cons (val_lit e) va_nil)) fun Q q => ⟨x, n, rfl, hn, q⟩
def MixC (a : Ad) (H : Hp) (p dx : Addr) (x y z w : Nat) : Prop := H p = some (.ins a.A.c_Mixer dx (F_Mixer (nv x) (nv y) (nv z) (nv w)))
theorem MixC.at {p dx : Addr} {x y z w : Nat} {v : Ks345.Four} (M : MixC a H p dx x y z w) (e : (⟨x, y, z, w⟩ : Ks345.Four) = v) : MixAt a H p v := by
  subst e
  exact ⟨dx, M⟩
end
section
variable {K : PySem.W.Frag} {mg : Str → Option Value} {a : Ad} {σ : L2.St} {H H0 : Hp} {te to : TE} {p dx : Addr} {n x y z w : Nat} {D : Ends}
theorem val_a (T : Txt K mg a) (M : MixC a H p dx x y z w) (ho : Val to σ H (.ref p)) : Val (tFld K to "a") σ H (nv x) := val_fld ho M T.A.cl_Mixer T.A.n_Mixer_a lk_Mixer_a
theorem val_b (T : Txt K mg a) (M : MixC a H p dx x y z w) (ho : Val to σ H (.ref p)) : Val (tFld K to "b") σ H (nv y) := val_fld ho M T.A.cl_Mixer T.A.n_Mixer_b lk_Mixer_b
theorem val_cc (T : Txt K mg a) (M : MixC a H p dx x y z w) (ho : Val to σ H (.ref p)) : Val (tFld K to "c") σ H (nv z) := val_fld ho M T.A.cl_Mixer T.A.n_Mixer_c lk_Mixer_c
theorem val_d (T : Txt K mg a) (M : MixC a H p dx x y z w) (ho : Val to σ H (.ref p)) : Val (tFld K to "d") σ H (nv w) := val_fld ho M T.A.cl_Mixer T.A.n_Mixer_d lk_Mixer_d
theorem mix_a (T : Txt K mg a) (M : MixC a H p dx x y z w) (kp : Keep H0 H p) (ho : Val to σ H (.ref p)) (hv : Val te σ H (nv n)) (q : ∀ n' H', n' = n → MixC a H' p dx n' y z w → Keep H0 H' p → D.nx σ H') : sFld K to te "a" D σ H :=
  fld_go M ho hv T.A.cl_Mixer T.A.n_Mixer_a (by show 4 < 1000; decide) (by
    rw [put_Mixer_a]
    exact q n _ rfl upd_same kp.upd)
theorem mix_b (T : Txt K mg a) (M : MixC a H p dx x y z w) (kp : Keep H0 H p) (ho : Val to σ H (.ref p)) (hv : Val te σ H (nv n)) (q : ∀ n' H', n' = n → MixC a H' p dx x n' z w → Keep H0 H' p → D.nx σ H') : sFld K to te "b" D σ H :=
  fld_go M ho hv T.A.cl_Mixer T.A.n_Mixer_b (by show 4 < 1000; decide) (by
    rw [put_Mixer_b]
    exact q n _ rfl upd_same kp.upd)
theorem mix_c (T : Txt K mg a) (M : MixC a H p dx x y z w) (kp : Keep H0 H p) (ho : Val to σ H (.ref p)) (hv : Val te σ H (nv n)) (q : ∀ n' H', n' = n → MixC a H' p dx x y n' w → Keep H0 H' p → D.nx σ H') : sFld K to te "c" D σ H :=
  fld_go M ho hv T.A.cl_Mixer T.A.n_Mixer_c (by show 4 < 1000; decide) (by
    rw [put_Mixer_c]
    exact q n _ rfl upd_same kp.upd)
theorem mix_d (T : Txt K mg a) (M : MixC a H p dx x y z w) (kp : Keep H0 H p) (ho : Val to σ H (.ref p)) (hv : Val te σ H (nv n)) (q : ∀ n' H', n' = n → MixC a H' p dx x y z n' → Keep H0 H' p → D.nx σ H') : sFld K to te "d" D σ H :=
  fld_go M ho hv T.A.cl_Mixer T.A.n_Mixer_d (by show 4 < 1000; decide) (by
    rw [put_Mixer_d]
    exact q n _ rfl upd_same kp.upd)
/-- a store into a new object whose attributes are told one by one -/
theorem fld_mk {C : Addr} {f : Str} {fs fs' : List (Str × V)} {v : V} (hp : H p = some (.ins C dx fs)) (kp : Keep H0 H p) (ho : Val to σ H (.ref p)) (hv : Val te σ H v) (hc : Cls K C) (hn : NoAttr K C f) (hl : fs.length < 1000) (e : putF f v fs = fs')
    (q : ∀ H', H' p = some (.ins C dx fs') → Keep H0 H' p → D.nx σ H') : sFld K to te f D σ H := fld_go hp ho hv hc hn hl (by
    rw [e]
    exact q _ upd_same kp.upd)
/-- the same, what is stored leaves something behind that was new -/
theorem fld_mkS {C : Addr} {f : Str} {fs fs' : List (Str × V)} {v : V} (hp : H p = some (.ins C dx fs)) (kp : Keep H0 H p) (ho : ∀ H1, Val to σ H1 (.ref p)) (hv : ∀ Q : VK, (∀ H1, Same H H1 → Q v H1) → te σ H Q) (hc : Cls K C) (hn : NoAttr K C f) (hl : fs.length < 1000) (e : putF f v fs = fs')
    (q : ∀ H', H' p = some (.ins C dx fs') → Keep H0 H' p → D.nx σ H') : sFld K to te f D σ H := hv _ fun H1 s => ho H1 _ ⟨p, C, dx, fs, rfl, s _ _ hp, hc, hn, hl, by
    rw [e]
    exact q _ upd_same (kp.trans (Keep.of s)).upd⟩
end
/-! ### slices -/
theorem cut_most {xs : List V} {n : Nat} : cutV xs none (some (n : Int)) = xs.take n := by
  unfold cutV
  rw [HT.sIx_none, HT.sIx_nat, Nat.sub_zero, List.drop_zero]
  by_cases h : n ≤ xs.length
  · rw [Nat.min_eq_left h]
  · rw [Nat.min_eq_right (by omega), List.take_of_length_le (Nat.le_refl _), List.take_of_length_le (by omega)]
theorem cut_to {l : List Nat} {n : Nat} : cutV (L l) none (some (n : Int)) = L (l.take n) := by
  unfold cutV
  rw [HT.sIx_none, HT.sIx_nat, Nat.sub_zero, List.drop_zero, L_length, L_take]
  by_cases h : n ≤ l.length
  · rw [Nat.min_eq_left h]
  · rw [Nat.min_eq_right (by omega), List.take_of_length_le (Nat.le_refl _), List.take_of_length_le (by omega)]
theorem getD_some {l : List Nat} {i : Nat} (h : i < l.length) : l[i]? = some (l.getD i 0) := by
  rw [List.getD_eq_getElem?_getD, List.getElem?_eq_getElem h]
  rfl
theorem cut_from {l : List Nat} {n : Nat} : cutV (L l) (some (n : Int)) none = L (l.drop n) := by
  unfold cutV
  rw [HT.sIx_none, HT.sIx_nat, L_length, L_drop, L_take]
  by_cases h : n ≤ l.length
  · rw [Nat.min_eq_left h, List.take_of_length_le (by rw [List.length_drop]; omega)]
  · rw [Nat.min_eq_right (by omega), List.drop_length, List.drop_eq_nil_of_le (by omega), List.take_nil]
theorem cut_mid {l : List Nat} {i j : Nat} (h : i ≤ l.length) (h2 : j ≤ l.length) : cutV (L l) (some (i : Int)) (some (j : Int)) = L ((l.drop i).take (j - i)) := by
  unfold cutV
  rw [HT.sIx_nat, HT.sIx_nat, L_length, Nat.min_eq_left h, Nat.min_eq_left h2, L_drop, L_take]
section
variable {K : PySem.W.Frag} {σ : L2.St} {H : Hp} {te tl th : TE} {p : Addr} {l : List Nat} {Q : VK}
theorem sl_to {n : Nat} {i : Int} (e : i = (n : Int)) (hx : Val te σ H (.ref p)) (hs : SqL K H p (L l)) (q : ∀ r, H r = none → Q (.ref r) (L2.upd H r (.lst (L (l.take n))))) : tSl (rSlL K) te tNoPart (tPart (tC (.int i))) σ H Q :=
  hx _ ⟨i, rfl, p, L l, rfl, hs, fun r nr => by
    rw [e, cut_to]
    exact q r nr⟩
theorem sl_from {n : Nat} (hx : Val te σ H (.ref p)) (hl : Val tl σ H (nv n)) (hs : SqL K H p (L l)) (q : ∀ r, H r = none → Q (.ref r) (L2.upd H r (.lst (L (l.drop n))))) : tSl (rSlL K) te (tPart tl) tNoPart σ H Q :=
  hx _ (hl _ ⟨_, rfl, p, L l, rfl, hs, fun r nr => by
    rw [cut_from]
    exact q r nr⟩)
theorem sl_mid {i j : Nat} (hx : Val te σ H (.ref p)) (hl : Val tl σ H (nv i)) (hh : Val th σ H (nv j)) (hs : SqL K H p (L l)) (h : i ≤ l.length) (h2 : j ≤ l.length) (q : ∀ r, H r = none → Q (.ref r) (L2.upd H r (.lst (L ((l.drop i).take (j - i)))))) : tSl (rSlL K) te (tPart tl) (tPart th) σ H Q :=
  hx _ (hl _ ⟨_, rfl, hh _ ⟨_, rfl, p, L l, rfl, hs, fun r nr => by
    rw [cut_mid h h2]
    exact q r nr⟩⟩)
end
/-! ### how a door stands -/
section
variable {a : Ad} {H H' : Hp}
theorem EntAt.same {p : Addr} {e : Ks346.Entry} (h : EntAt a H p e) (s : Same H H') : EntAt a H' p e := by
  obtain ⟨dx, h⟩ := h
  exact ⟨dx, s _ _ h⟩
theorem Ents.imp : ∀ {es : List Addr} {bs : List Ks346.Entry}, (∀ p e, EntAt a H p e → EntAt a H' p e) → Ents a H es bs → Ents a H' es bs
  | [], [], _, h => h
  | _ :: _, _ :: _, f, h => ⟨f _ _ h.1, Ents.imp f h.2⟩
  | [], _ :: _, _, h => h.elim
  | _ :: _, [], _, h => h.elim
theorem Ents.length : ∀ {es : List Addr} {bs : List Ks346.Entry}, Ents a H es bs → es.length = bs.length
  | [], [], _ => rfl
  | _ :: es, _ :: bs, h => congrArg (· + 1) (Ents.length (es := es) (bs := bs) h.2)
  | [], _ :: _, h => h.elim
  | _ :: _, [], h => h.elim
theorem Ents.take : ∀ {es : List Addr} {bs : List Ks346.Entry} (n : Nat), Ents a H es bs → Ents a H (es.take n) (bs.take n)
  | _, _, 0, _ => trivial
  | [], [], _ + 1, h => h
  | _ :: es, _ :: bs, n + 1, h => ⟨h.1, Ents.take (es := es) (bs := bs) n h.2⟩
  | [], _ :: _, _ + 1, h => h.elim
  | _ :: _, [], _ + 1, h => h.elim
theorem Ents.get : ∀ {es : List Addr} {bs : List Ks346.Entry} {i : Nat} {b : Ks346.Entry}, Ents a H es bs → bs[i]? = some b → ∃ e, es[i]? = some e ∧ EntAt a H e b
  | [], [], _, _, _, q => by simp at q
  | e :: es, b :: bs, 0, _, h, q => by
    have : b = _ := Option.some.inj q
    subst this
    exact ⟨e, rfl, h.1⟩
  | _ :: es, _ :: bs, i + 1, b, h, q => by
    obtain ⟨e, h1, h2⟩ := Ents.get (es := es) (bs := bs) (i := i) (b := b) h.2 q
    exact ⟨e, h1, h2⟩
  | [], _ :: _, _, _, h, _ => h.elim
  | _ :: _, [], _, _, h, _ => h.elim
variable {d dx kk bb : Addr} {es : List Addr} {s : Ks346.Abs}
theorem DoorIn.same (D : DoorIn a H d dx kk bb es s) (e : Same H H') : DoorIn a H' d dx kk bb es s := ⟨e _ _ D.obj, e _ _ D.key, e _ _ D.book, Ents.imp (fun _ _ h => h.same e) D.ents, D.few⟩
theorem DoorAt.same (D : DoorAt a H d s) (e : Same H H') : DoorAt a H' d s := by
  obtain ⟨dx, kk, bb, es, D⟩ := D
  exact ⟨dx, kk, bb, es, D.same e⟩
theorem EntAt.keep {p t C dt : Addr} {fs : List (Str × V)} {e : Ks346.Entry} (h : EntAt a H p e) (k : Keep H H' t) (ht : H t = some (.ins C dt fs)) (hl : fs.length ≠ 4) : EntAt a H' p e := by
  obtain ⟨dx, h⟩ := h
  exact ⟨dx, k _ _ h (ins_ne h ht fun z => hl (z.symm.trans len_Entry))⟩
/-- another object than a door or an entry is changed -/
theorem DoorIn.keep {t C dt : Addr} {fs : List (Str × V)} (D : DoorIn a H d dx kk bb es s) (k : Keep H H' t) (ht : H t = some (.ins C dt fs)) (h8 : fs.length ≠ 8) (h4 : fs.length ≠ 4) : DoorIn a H' d dx kk bb es s :=
  ⟨k _ _ D.obj (ins_ne D.obj ht fun z => h8 (z.symm.trans len_Door)), k _ _ D.key (lst_ins D.key ht), k _ _ D.book (lst_ins D.book ht), Ents.imp (fun _ _ h => h.keep k ht h4) D.ents, D.few⟩
theorem DoorAt.keep {t C dt : Addr} {fs : List (Str × V)} (D : DoorAt a H d s) (k : Keep H H' t) (ht : H t = some (.ins C dt fs)) (h8 : fs.length ≠ 8) (h4 : fs.length ≠ 4) : DoorAt a H' d s := by
  obtain ⟨dx, kk, bb, es, D⟩ := D
  exact ⟨dx, kk, bb, es, D.keep k ht h8 h4⟩
/-- the door itself is changed, its key and its book stand -/
theorem DoorIn.put {s' : Ks346.Abs} (D : DoorIn a H d dx kk bb es s) (e1 : s'.key = s.key) (e2 : s'.book = s.book) :
    DoorIn a (L2.upd H d (.ins a.B.c_Door dx (F_Door (nv s'.room) (nv s'.zone) (.ref kk) (nv s'.day) (nv s'.number) (nv s'.epoch) (.bl s'.bolted) (.ref bb)))) d dx kk bb es s' := by
  have k : Keep H (L2.upd H d (.ins a.B.c_Door dx (F_Door (nv s'.room) (nv s'.zone) (.ref kk) (nv s'.day) (nv s'.number) (nv s'.epoch) (.bl s'.bolted) (.ref bb)))) d := (Keep.refl H d).upd
  refine ⟨upd_same, ?_, k _ _ D.book (lst_ins D.book D.obj), ?_, ?_⟩
  · rw [e1]
    exact k _ _ D.key (lst_ins D.key D.obj)
  · rw [e2]
    exact Ents.imp (fun _ _ h => h.keep k D.obj (by rw [len_Door]; decide)) D.ents
  · rw [e2]
    exact D.few
theorem CardAt.same {p : Addr} {c : Ks345.Card} (h : CardAt a H p c) (s : Same H H') : CardAt a H' p c := by
  obtain ⟨dx, h⟩ := h
  exact ⟨dx, s _ _ h⟩
theorem CardIn.keep {t C dt p dx : Addr} {fs : List (Str × V)} {c : Ks345.Card} (h : CardIn a H p dx c) (k : Keep H H' t) (ht : H t = some (.ins C dt fs)) (hl : fs.length ≠ 5) : CardIn a H' p dx c := k _ _ h (ins_ne h ht fun z => hl (z.symm.trans len_Card))
end
/-! ### a kind among two -/
theorem in13 {k : Nat} : inV (nv k) [.int 1, .int 3] = (decide (k = 1) || decide (k = 3)) := by
  have e : ∀ i : Nat, eqV (.int (i : Int)) (nv k) = decide (k = i) := fun i => by
    by_cases h : k = i
    · subst h
      rw [decide_eq_true rfl]
      simp [eqV]
    · rw [decide_eq_false h]
      simp [eqV]
      omega
  show (eqV (.int ((1 : Nat) : Int)) (nv k) || (eqV (.int ((3 : Nat) : Int)) (nv k) || false)) = _
  rw [e, e, Bool.or_false]
section
variable {K : PySem.W.Frag} {σ : L2.St} {H : Hp} {te : TE} {k : Nat} {Q : VK}
theorem in_kinds (h : Val te σ H (nv k)) (q : ∀ H', Same H H' → Q (.bl (decide (k = 1) || decide (k = 3))) H') : tOp (rIn K false) te (tTup (tCons (tC (.int 1)) (tCons (tC (.int 3)) tNil))) σ H Q :=
  h _ ⟨by show 2 ≤ sizeLine; decide, fun p np => ⟨p, _, rfl, .inr (SqT.of upd_same), rfl, rfl, by
    show Q (.bl (inV (nv k) [.int 1, .int 3])) _
    rw [in13]
    exact q _ (Same.upd0 np)⟩⟩
end
/-! ### two lists of numbers compared -/
def dN (l : List Nat) : List PyData := l.map fun (n : Nat) => PyData.int (n : Int)
theorem dp_all {K : PySem.W.Frag} {H : Hp} : ∀ l : List Nat, DpAll K H (L l) (dN l)
  | [] => .nil
  | n :: r => .cons (.int (n : Int)) (dp_all r)
theorem dp_nats {K : PySem.W.Frag} {H : Hp} {p : Addr} {l : List Nat} (h : SqL K H p (L l)) : Dp K H (.ref p) (.list (dN l)) := .lst h (dp_all l)
theorem can_nats : ∀ l : List Nat, PyData.canLayAll0 (dN l) = true
  | [] => by
    show PyData.canLayAll0 [] = true
    rw [PyData.canLayAll0]
  | n :: r => by
    show PyData.canLayAll0 (PyData.int (n : Int) :: dN r) = true
    rw [PyData.canLayAll0, can_nats r, PyData.canLay0, Bool.and_self]
theorem depth_nats : ∀ l : List Nat, PyData.depthAll (dN l) ≤ 1
  | [] => by
    show PyData.depthAll [] ≤ 1
    rw [PyData.depthAll]
    decide
  | n :: r => by
    show PyData.depthAll (PyData.int (n : Int) :: dN r) ≤ 1
    rw [PyData.depthAll]
    refine Nat.max_le.mpr ⟨?_, depth_nats r⟩
    simp [PyData.depth]
theorem shaped_nats (l : List Nat) : SeqAt.shaped (.list (dN l)) = true := by
  unfold SeqAt.shaped
  rw [PyData.canLay0, can_nats, PyData.depth, Bool.true_and]
  have := depth_nats l
  exact decide_eq_true (by omega)
theorem eqv_all : ∀ l m : List Nat, PyData.eqvAll (dN l) (dN m) = decide (l = m)
  | [], [] => by
    show PyData.eqvAll [] [] = _
    rw [PyData.eqvAll]
    rfl
  | [], m :: r => by
    show PyData.eqvAll [] (PyData.int (m : Int) :: dN r) = _
    rw [PyData.eqvAll, decide_eq_false (by simp)]
  | n :: r, [] => by
    show PyData.eqvAll (PyData.int (n : Int) :: dN r) [] = _
    rw [PyData.eqvAll, decide_eq_false (by simp)]
  | n :: r, m :: q => by
    show PyData.eqvAll (PyData.int (n : Int) :: dN r) (PyData.int (m : Int) :: dN q) = _
    rw [PyData.eqvAll, eqv_all r q, PyData.eqv]
    by_cases h : n = m
    · subst h
      rw [beq_self_eq_true, Bool.true_and]
      exact decide_eq_decide.mpr ⟨fun e => by rw [e], fun e => (List.cons.inj e).2⟩
    · rw [beq_eq_false_iff_ne.mpr (fun e => h (by omega)), Bool.false_and, decide_eq_false fun e => h (List.cons.inj e).1]
theorem eqv_nats (l m : List Nat) : PyData.eqv (.list (dN l)) (.list (dN m)) = decide (l = m) := by
  rw [PyData.eqv, eqv_all]
/-! ### tests -/
section
variable {σ : L2.St} {H : Hp} {te : TE} {c c2 : TT} {b b2 : Bool} {t u : TS} {D : Ends} {Q : Bool → Hp → Prop}
theorem ans_test (h : Val te σ H (.bl b)) : Ans (tTest te) σ H b := fun _ q => h _ ⟨b, rfl, q⟩
theorem ans_or2 (h1 : Ans c σ H b) (h2 : Ans c2 σ H b2) : Ans (tOr c c2) σ H (b || b2) := by
  cases b with
  | true => exact ans_or1 h1
  | false => exact ans_or h1 h2
theorem if_ans (h : Ans c σ H b) (h1 : b = true → t D σ H) (h2 : b = false → u D σ H) : tIfS c t u D σ H := by
  cases b with
  | true => exact st_yes h (h1 rfl)
  | false => exact st_no h (h2 rfl)
/-- an if whose test may leave something new behind -/
theorem if_anS (h : ∀ Q : Bool → Hp → Prop, (∀ H', Same H H' → Q b H') → c σ H Q) (h1 : b = true → ∀ H', Same H H' → t D σ H') (h2 : b = false → ∀ H', Same H H' → u D σ H') : tIfS c t u D σ H := h _ fun H' s => by
  cases b with
  | true =>
    rw [if_pos rfl]
    exact h1 rfl H' s
  | false =>
    rw [if_neg Bool.false_ne_true]
    exact h2 rfl H' s
theorem val_andV {ta tb : TE} (h1 : Val ta σ H (.bl b)) (h2 : Val tb σ H (.bl b2)) : Val (tAndV ta tb) σ H (.bl (b && b2)) := fun Q q => h1 _ ⟨b, rfl, by
  cases b with
  | true => exact iteT (h2 Q q)
  | false => exact iteF q⟩
end
/-! ### one step into a reading -/
section
variable {K : PySem.W.Frag} {σ : L2.St} {H : Hp} {te ta tb : TE} {c : TT} {t u r : TS} {D : Ends} {Q : VK} {i : Nat} {f : Str}
theorem asg_go (h : te σ H fun x H1 => u D (σ.set i (some x)) H1) : tSeq (tAsg te (gName i)) u D σ H := h
theorem asg1_go (h : te σ H fun x H1 => D.nx (σ.set i (some x)) H1) : tAsg te (gName i) D σ H := h
theorem drop_go (h : te σ H fun _ H1 => u D σ H1) : tSeq (tDrop te) u D σ H := h
theorem drop1_go (h : te σ H fun _ H1 => D.nx σ H1) : tDrop te D σ H := h
theorem ret_go (h : te σ H D.rt) : tRet te D σ H := h
theorem next_go (h : D.nx σ H) : tNext D σ H := h
theorem if_go (h : c σ H fun b H1 => if b = true then t { D with nx := r D } σ H1 else u { D with nx := r D } σ H1) : tSeq (tIfS c t u) r D σ H := h
theorem if1_go (h : c σ H fun b H1 => if b = true then t D σ H1 else u D σ H1) : tIfS c t u D σ H := h
theorem test_go {Q : Bool → Hp → Prop} (h : te σ H fun x H1 => ∃ k, x = .bl k ∧ Q k H1) : tTest te σ H Q := h
theorem op_go {r : R2} (h : ta σ H fun x H1 => tb σ H1 fun y H2 => r x y H2 Q) : tOp r ta tb σ H Q := h
theorem fldc_go (h : te σ H fun y H1 => ta σ H1 fun x H2 => ∃ p C dx fs, x = .ref p ∧ H2 p = some (.ins C dx fs) ∧ Cls K C ∧ NoAttr K C f ∧ fs.length < 1000 ∧ D.nx σ (L2.upd H2 p (.ins C dx (putF f y fs)))) : sFld K ta te f D σ H := h
theorem seq_go (h : t { D with nx := u D } σ H) : tSeq t u D σ H := h
theorem arg1_go {sp : Sp} {E : XK} (h : ta σ H fun x H1 => sp [x] H1 Q E) : tCall sp [] E (tCons ta tNil) σ H Q := h
theorem arg2_go {sp : Sp} {E : XK} (h : ta σ H fun x H1 => tb σ H1 fun y H2 => sp [x, y] H2 Q E) : tCall sp [] E (tCons ta (tCons tb tNil)) σ H Q := h
end
/-! ### lists made, chains -/
section
variable {K : PySem.W.Frag} {σ : L2.St} {H : Hp} {te ta tb tc : TE} {t : TA} {Q : VK} {vs : List V} {x y z : Nat}
theorem lst_go (h : ValA t σ H vs) (hl : vs.length ≤ sizeLine) (q : ∀ p, H p = none → Q (.ref p) (L2.upd H p (.lst vs))) : tLst t σ H Q := h _ ⟨hl, q⟩
theorem lst1_go (h : te σ H fun v H1 => ∀ p, H1 p = none → Q (.ref p) (L2.upd H1 p (.lst [v]))) (mono : ∀ Q Q' : VK, (∀ v H1, Q v H1 → Q' v H1) → te σ H Q → te σ H Q') : tLst (tCons te tNil) σ H Q :=
  mono _ _ (fun _ _ q => ⟨(by decide : 1 ≤ sizeLine), q⟩) h
theorem lst1_raw (h : te σ H fun v H1 => [v].length ≤ sizeLine ∧ ∀ p, H1 p = none → Q (.ref p) (L2.upd H1 p (.lst [v]))) : tLst (tCons te tNil) σ H Q := h
theorem one_line (v : V) : [v].length ≤ sizeLine := (by decide : 1 ≤ sizeLine)
theorem val_chain (ha : Val ta σ H (nv x)) (hb : Val tb σ H (nv y)) (hc : Val tc σ H (nv z)) : Val (tChain rLeI rLeI ta tb tc) σ H (.bl (decide (x ≤ y) && decide (y ≤ z))) := fun Q q => ha _ (hb _ ⟨_, _, rfl, rfl, _, rfl, by
  have e1 : decide ((x : Int) ≤ (y : Int)) = decide (x ≤ y) := decide_eq_decide.mpr (by omega)
  have e2 : decide ((y : Int) ≤ (z : Int)) = decide (y ≤ z) := decide_eq_decide.mpr (by omega)
  rw [e1]
  by_cases h : x ≤ y
  · rw [decide_eq_true h] at q ⊢
    refine iteT (hc _ ⟨_, _, rfl, rfl, ?_⟩)
    show Q (.bl (decide ((y : Int) ≤ (z : Int)))) H
    rw [e2]
    exact q
  · rw [decide_eq_false h] at q ⊢
    exact iteF q⟩)
end
/-! ### the house -/
section
variable {a : Ad} {H H1 H2 : Hp} {f box x : Addr} {d : Option Addr} {s s' : Ks346.Abs}
theorem BoxAt.same (h : BoxAt a H box d) (e : Same H H1) : BoxAt a H1 box d := by
  obtain ⟨dx, h⟩ := h
  exact ⟨dx, e _ _ h⟩
theorem DoorAv.same (h : DoorAv a H f x s) (e : Same H H1) : DoorAv a H1 f x s := by
  obtain ⟨dx, kk, bb, es, D, n⟩ := h
  exact ⟨dx, kk, bb, es, D.same e, n⟩
theorem DoorAv.keep {t C dt : Addr} {fs : List (Str × V)} (h : DoorAv a H f x s) (k : Keep H H1 t) (ht : H t = some (.ins C dt fs)) (h8 : fs.length ≠ 8) (h4 : fs.length ≠ 4) : DoorAv a H1 f x s := by
  obtain ⟨dx, kk, bb, es, D, n⟩ := h
  exact ⟨dx, kk, bb, es, D.keep k ht h8 h4, n⟩
theorem LstAt.same (h : LstAt H f) (e : Same H H1) : LstAt H1 f := by
  obtain ⟨xs, h⟩ := h
  exact ⟨xs, e _ _ h⟩
theorem LstAt.ne {p : Addr} (h : LstAt H f) (n : H p = none) : p ≠ f := by
  obtain ⟨xs, h⟩ := h
  exact Ne.symm (ne_of_none h n)
theorem LstAt.keep {t C dt : Addr} {fs : List (Str × V)} (h : LstAt H f) (k : Keep H H1 t) (ht : H t = some (.ins C dt fs)) : LstAt H1 f := by
  obtain ⟨xs, h⟩ := h
  exact ⟨xs, k _ _ h (lst_ins h ht)⟩
theorem House.same (h : House a H f box d s) (e : Same H H1) : House a H1 f box d s := ⟨h.box.same e, h.no, fun y hy => ⟨(h.yes y hy).1, (h.yes y hy).2.same e⟩⟩
theorem House.put (h : House a H f box (some x) s) (k : Keep H H1 x) (D : DoorAv a H1 f x s') (hk : Keyed s') : House a H1 f box (some x) s' := by
  obtain ⟨db, hb⟩ := h.box
  obtain ⟨_, dx, kk, bb, es, I, _⟩ := h.yes x rfl
  refine ⟨⟨db, k _ _ hb (ins_ne hb I.obj (by rw [len_Box, len_Door]; decide))⟩, fun q => by (cases q), fun y hy => ?_⟩
  cases hy
  exact ⟨hk, D⟩
/-- another object than the box, a door, an entry is changed -/
theorem House.keep {t C dt : Addr} {fs : List (Str × V)} (h : House a H f box d s) (k : Keep H H1 t) (ht : H t = some (.ins C dt fs)) (h1 : fs.length ≠ 1) (h8 : fs.length ≠ 8) (h4 : fs.length ≠ 4) : House a H1 f box d s := by
  obtain ⟨db, hb⟩ := h.box
  exact ⟨⟨db, k _ _ hb (ins_ne hb ht fun z => h1 (z.symm.trans len_Box))⟩, h.no, fun y hy => ⟨(h.yes y hy).1, (h.yes y hy).2.keep k ht h8 h4⟩⟩
/-- the list at f is changed -/
theorem House.lst {xs : List V} (h : House a H f box d s) (k : Keep H H1 f) (hf : H f = some (.lst xs)) : House a H1 f box d s := by
  obtain ⟨db, hb⟩ := h.box
  refine ⟨⟨db, k _ _ hb (Ne.symm (lst_ins hf hb))⟩, h.no, fun y hy => ⟨(h.yes y hy).1, ?_⟩⟩
  obtain ⟨_, dx, kk, bb, es, D, n1, n2⟩ := h.yes y hy
  refine ⟨dx, kk, bb, es, ⟨k _ _ D.obj (Ne.symm (lst_ins hf D.obj)), k _ _ D.key n1, k _ _ D.book n2, Ents.imp (fun p e ⟨de, he⟩ => ⟨de, k _ _ he (Ne.symm (lst_ins hf he))⟩) D.ents, D.few⟩, n1, n2⟩
theorem frame_put (k : Keep H H1 x) (e : Same H1 H2) : Frame H H2 box (some x) := fun b o h _ n => e _ _ (k b o h fun z => n (by rw [z]))
theorem nums1 {l : List Nat} (h : l.length = 1) : ∃ n, l = [n] := match l, h with
  | [n], _ => ⟨n, rfl⟩
theorem nums2 {l : List Nat} (h : l.length = 2) : ∃ n m, l = [n, m] := match l, h with
  | [n, m], _ => ⟨n, m, rfl⟩
end
end Ld
namespace Ld
open PySem PySem.Spec PyProof.Rows L2
def t_turned (K : PySem.W.Frag) (a : Ad) : TS :=
  (tRet (tOp rAddI (tOp rModI (tOp rMulI (tVar 0) (tOp rShlI (tC (.int 1)) (tVar 1))) (tC (.int 18446744073709551616))) (tOp rShrI (tVar 0) (tOp rSubI (tC (.int 64)) (tVar 1)))))
section
variable {P : Program} {w : World} {K : PySem.W.Frag} {mg : Str → Option Value} {base : Heap} {a : Ad}
theorem pure_turned (T : Txt K mg a) (vs : List V) (H : Hp) (Q : VK) (E : XK) (h : sp_turned K a vs H Q E) : t_turned K a { nx := fun _ H' => Q .non H', rt := Q } (start ["number", "places"] vs) H := by
  obtain ⟨x, n, rfl, hn, q⟩ := h
  unfold t_turned
  have hp : 1 * 2 ^ n < 2 ^ 64 := by
    rw [Nat.one_mul]
    exact Nat.pow_lt_pow_right (by decide) (by omega)
  refine st_ret (v := nv (Ks345.turn n x)) (Val.is (val_add (val_mod (val_mul (val_var rfl) (val_shl (val_lit (n := 1) rfl) (val_var rfl) (by decide) (by omega)) (.inr hp)) (val_lit (n := Ks345.W) rfl) (by decide)) (val_shr (val_var rfl) (val_sub (val_lit (n := 64) rfl) (val_var rfl) (by omega)))) ?_) q
  rw [Nat.one_mul]
  rfl
theorem G_turned (T : Txt K mg a) : Def P w K mg base CX0 1 a.A.f_turned ["number", "places"] (sp_turned K a) := by
  obtain ⟨fd, F, b⟩ := T.A.d_turned
  refine ⟨⟨fd, F.ok sc_turned (len_turned K a) (fun cdv A outer s H vs Q E hr h => ⟨t_turned K a, ?_, pure_turned T vs H Q E h⟩), b⟩, F.kp⟩
  exact (pss_one (ps_ret (by exact (pe_op op_add (pe_op op_mod (pe_op op_mul (pv 0) (pe_op op_shl pe_int (pv 1))) (pe_gint T.A.c_WHOLE)) (pe_op op_shr (pv 0) (pe_op op_sub pe_int (pv 1)))))))
end
def t_number_of (K : PySem.W.Frag) (a : Ad) : TS :=
  (tSeq (tAsg (tC (.int 0)) (gName 1))
    (tSeq (tFor (iRev K (tCons (tVar 0) tNil)) (gName 2) (tAsg (tOp rAddI (tOp rMulI (tC (.int 256)) (tVar 1)) (tVar 2)) (gName 1)))
    (tRet (tVar 1))))
section
variable {P : Program} {w : World} {K : PySem.W.Frag} {mg : Str → Option Value} {base : Heap} {a : Ad}
theorem pure_number_of (T : Txt K mg a) (vs : List V) (H : Hp) (Q : VK) (E : XK) (h : sp_number_of K a vs H Q E) : t_number_of K a { nx := fun _ H' => Q .non H', rt := Q } (start ["row", "found", "byte"] vs) H := by
  obtain ⟨p, l, rfl, hs, q⟩ := h
  refine ⟨_, rfl, p, L l, rfl, hs, RT.for_Itv (fun i σ H' => H' = H ∧ ∃ v, σ = [some (.ref p), some (nv (Ks345.number (l.drop (l.length - i)))), v]) ⟨rfl, none, ?_⟩ ?_ ?_ ?_⟩
  · rw [Nat.sub_zero, List.drop_length]
    rfl
  · rintro i σ H' ⟨rfl, _⟩
    exact hs
  · rintro i x σ H' hi hx ⟨rfl, v, rfl⟩
    obtain ⟨b, hb, rfl⟩ := L_at hx
    rw [L_length] at hb hi
    refine (val_add (val_mul (val_lit (n := 256) rfl) (val_var rfl) (.inl (by decide))) (val_var rfl)) _ ⟨rfl, some (nv b), ?_⟩
    have e : 256 * Ks345.number (l.drop (l.length - i)) + b = Ks345.number (l.drop (l.length - (i + 1))) := by
      have e1 : l.length - i = l.length - (i + 1) + 1 := by omega
      rw [e1]
      exact number_drop (by rw [show l.length - (i + 1) = l.length - 1 - i by omega]; exact hb)
    rw [← e]
    rfl
  · rintro σ H' ⟨rfl, v, rfl⟩
    refine ⟨_, rfl, ?_⟩
    rw [L_length, Nat.sub_self, List.drop_zero]
    exact q
theorem G_number_of (T : Txt K mg a) : Def P w K mg base CX0 1 a.A.f_number_of ["row"] (sp_number_of K a) := by
  obtain ⟨fd, F, b⟩ := T.A.d_number_of
  refine ⟨⟨fd, F.ok sc_number_of (len_number_of K a) (fun cdv A outer s H vs Q E hr h => ⟨t_number_of K a, ?_, pure_number_of T vs H Q E h⟩), b⟩, F.kp⟩
  exact (pss_cons (ps_set (i := 1) sc_number_of.nd rfl (Or.inl rfl) (by exact pe_int))
    (pss_cons (ps_for PassesOwn.never rfl (pi_reversed (by rfl) T.A.n_reversed (pa_cons (pv 0) pa_nil)) (pg_name (i := 2) sc_number_of.nd rfl (Or.inl rfl)) (pss_one (ps_set (i := 1) sc_number_of.nd rfl (Or.inl rfl) (by exact (pe_op op_add (pe_op op_mul pe_int (pv 1)) (pv 2))))))
    (pss_one (ps_ret (by exact (pv 1))))))
end
def t_bytes_of (K : PySem.W.Frag) (a : Ad) : TS :=
  (tSeq (tAsg (tLst tNil) (gName 1))
    (tSeq (tFor (iRng1 (tCons (tC (.int 8)) tNil)) (gName 2) (tSeq (tDrop (tBM K "list" rAppend (tVar 1) (tCons (tOp rModI (tVar 0) (tC (.int 256))) tNil)))
    (tAsg (tOp rDivI (tVar 0) (tC (.int 256))) (gName 0))))
    (tRet (tVar 1))))
section
variable {P : Program} {w : World} {K : PySem.W.Frag} {mg : Str → Option Value} {base : Heap} {a : Ad}
theorem pure_bytes_of (T : Txt K mg a) (vs : List V) (H : Hp) (Q : VK) (E : XK) (h : sp_bytes_of K a vs H Q E) : t_bytes_of K a { nx := fun _ H' => Q .non H', rt := Q } (start ["number", "found", "k"] vs) H := by
  obtain ⟨n, rfl, q⟩ := h
  refine ⟨Nat.zero_le _, fun p np => ?_⟩
  refine ⟨8, rfl, by decide, by decide, for_range (n := 8) (fun i σ H' => ∃ v, σ = [some (nv (n / 256 ^ i)), some (.ref p), v] ∧ Same H H' ∧ H' p = some (.lst (L (Ks345.bytes i n)))) ⟨none, ?_, Same.upd0 np, upd_same⟩ ?_ ?_⟩
  · rw [Nat.pow_zero, Nat.div_one]
    rfl
  · rintro i σ H' hi ⟨v, rfl, sm, hp⟩
    refine ⟨_, rfl, .inl ⟨rfl, _, .inl (.inl hp)⟩, ?_⟩
    refine (val_mod (val_var rfl) (val_lit (n := 256) rfl) (by decide)) _ ?_
    refine ⟨p, _, _, rfl, rfl, hp, small1000 (by rw [L_length, bytes_length]; omega), ?_⟩
    refine (val_div (val_var rfl) (val_lit (n := 256) rfl) (by decide) (by decide)) _ ⟨some (.int (0 + (i : Nat))), ?_, Same.mut sm np, ?_⟩
    · rw [Nat.pow_succ, ← Nat.div_div_eq_div_mul]
      rfl
    · rw [bytes_succ, L_append]
      exact upd_same
  · rintro σ H' ⟨v, rfl, sm, hp⟩
    exact ⟨_, rfl, q p H' np sm hp⟩
theorem G_bytes_of (T : Txt K mg a) : Def P w K mg base CX0 1 a.A.f_bytes_of ["number"] (sp_bytes_of K a) := by
  obtain ⟨fd, F, b⟩ := T.A.d_bytes_of
  refine ⟨⟨fd, F.ok sc_bytes_of (len_bytes_of K a) (fun cdv A outer s H vs Q E hr h => ⟨t_bytes_of K a, ?_, pure_bytes_of T vs H Q E h⟩), b⟩, F.kp⟩
  exact (pss_cons (ps_set (i := 1) sc_bytes_of.nd rfl (Or.inl rfl) (by exact (pe_lst pa_nil)))
    (pss_cons (ps_for PassesOwn.never rfl (pi_range1 (by rfl) T.A.n_range (pa_cons (pe_gint T.A.c_WORD) pa_nil)) (pg_name (i := 2) sc_bytes_of.nd rfl (Or.inl rfl)) (pss_cons (ps_expr (by exact (pe_bm PySem.F.plainAttrs_list PySem.F.slot_list_append PySem.F.type_list_append mt_append (pv 1) (pa_cons (pe_op op_mod (pv 0) pe_int) pa_nil))))
    (pss_one (ps_set (i := 0) sc_bytes_of.nd rfl (Or.inl rfl) (by exact (pe_op op_fdiv (pv 0) pe_int))))))
    (pss_one (ps_ret (by exact (pv 1))))))
end
def t_Mixer_init (K : PySem.W.Frag) (a : Ad) : TS :=
  (tSeq (sFld K (tVar 0) (tOp rXorI (tOp (rIxT K) (tC (.ref a.A.x_STARTS)) (tC (.int 0))) (tVar 1)) "a")
    (tSeq (sFld K (tVar 0) (tOp rXorI (tOp (rIxT K) (tC (.ref a.A.x_STARTS)) (tC (.int 1))) (tVar 2)) "b")
    (tSeq (sFld K (tVar 0) (tOp rXorI (tOp (rIxT K) (tC (.ref a.A.x_STARTS)) (tC (.int 2))) (tVar 1)) "c")
    (sFld K (tVar 0) (tOp rXorI (tOp (rIxT K) (tC (.ref a.A.x_STARTS)) (tC (.int 3))) (tVar 2)) "d"))))
section
variable {P : Program} {w : World} {K : PySem.W.Frag} {mg : Str → Option Value} {base : Heap} {a : Ad}
theorem pure_Mixer_init (T : Txt K mg a) (vs : List V) (H : Hp) (Q : VK) (E : XK) (h : sp_Mixer_init K a vs H Q E) : t_Mixer_init K a { nx := fun _ H' => Q .non H', rt := Q } (start ["self", "k", "l"] vs) H := by
  obtain ⟨p, dx, k, l, rfl, hp, q⟩ := h
  refine fld_mk hp (Keep.refl H p) (val_var rfl) (val_xor (val_ixT val_c (val_lit (n := 0) rfl) (T.A.t_STARTS _) rfl : Val _ _ _ (nv 8317987319222330741)) (val_var rfl)) T.A.cl_Mixer T.A.n_Mixer_a (by show 0 < 1000; decide) mk_Mixer_0 fun H1 h1 k1 => ?_
  refine fld_mk h1 k1 (val_var rfl) (val_xor (val_ixT val_c (val_lit (n := 1) rfl) (T.A.t_STARTS _) rfl : Val _ _ _ (nv 7237128888997146477)) (val_var rfl)) T.A.cl_Mixer T.A.n_Mixer_b (by show 1 < 1000; decide) mk_Mixer_1 fun H2 h2 k2 => ?_
  refine fld_mk h2 k2 (val_var rfl) (val_xor (val_ixT val_c (val_lit (n := 2) rfl) (T.A.t_STARTS _) rfl : Val _ _ _ (nv 7816392313619706465)) (val_var rfl)) T.A.cl_Mixer T.A.n_Mixer_c (by show 2 < 1000; decide) mk_Mixer_2 fun H3 h3 k3 => ?_
  refine fld_mk h3 k3 (val_var rfl) (val_xor (val_ixT val_c (val_lit (n := 3) rfl) (T.A.t_STARTS _) rfl : Val _ _ _ (nv 8387220255154660723)) (val_var rfl)) T.A.cl_Mixer T.A.n_Mixer_d (by show 3 < 1000; decide) mk_Mixer_3 fun H4 h4 k4 => ?_
  exact q H4 ⟨dx, h4⟩ k4
theorem G_Mixer_init (T : Txt K mg a) : Def P w K mg base CX0 1 a.A.f_Mixer_init ["self", "k", "l"] (sp_Mixer_init K a) := by
  obtain ⟨fd, F, b⟩ := T.A.d_Mixer_init
  refine ⟨⟨fd, F.ok sc_Mixer_init (len_Mixer_init K a) (fun cdv A outer s H vs Q E hr h => ⟨t_Mixer_init K a, ?_, pure_Mixer_init T vs H Q E h⟩), b⟩, F.kp⟩
  exact (pss_cons (ps_fld (pv 0) (by exact (pe_op op_xor (pe_ix ix_tup (pe_glob rfl T.A.g_STARTS rfl) pe_int (fun _ _ => rfl)) (pv 1))) rfl)
    (pss_cons (ps_fld (pv 0) (by exact (pe_op op_xor (pe_ix ix_tup (pe_glob rfl T.A.g_STARTS rfl) pe_int (fun _ _ => rfl)) (pv 2))) rfl)
    (pss_cons (ps_fld (pv 0) (by exact (pe_op op_xor (pe_ix ix_tup (pe_glob rfl T.A.g_STARTS rfl) pe_int (fun _ _ => rfl)) (pv 1))) rfl)
    (pss_one (ps_fld (pv 0) (by exact (pe_op op_xor (pe_ix ix_tup (pe_glob rfl T.A.g_STARTS rfl) pe_int (fun _ _ => rfl)) (pv 2))) rfl)))))
end
def t_Mixer_turn_once (K : PySem.W.Frag) (a : Ad) : TS :=
  (tSeq (sFld K (tVar 0) (tOp rModI (tOp rAddI (tFld K (tVar 0) "a") (tFld K (tVar 0) "b")) (tC (.int 18446744073709551616))) "a")
    (tSeq (sFld K (tVar 0) (tOp rXorI (tCall (sp_turned K a) [] E0 (tCons (tFld K (tVar 0) "b") (tCons (tC (.int 13)) tNil))) (tFld K (tVar 0) "a")) "b")
    (tSeq (sFld K (tVar 0) (tCall (sp_turned K a) [] E0 (tCons (tFld K (tVar 0) "a") (tCons (tC (.int 32)) tNil))) "a")
    (tSeq (sFld K (tVar 0) (tOp rModI (tOp rAddI (tFld K (tVar 0) "c") (tFld K (tVar 0) "d")) (tC (.int 18446744073709551616))) "c")
    (tSeq (sFld K (tVar 0) (tOp rXorI (tCall (sp_turned K a) [] E0 (tCons (tFld K (tVar 0) "d") (tCons (tC (.int 16)) tNil))) (tFld K (tVar 0) "c")) "d")
    (tSeq (sFld K (tVar 0) (tOp rModI (tOp rAddI (tFld K (tVar 0) "a") (tFld K (tVar 0) "d")) (tC (.int 18446744073709551616))) "a")
    (tSeq (sFld K (tVar 0) (tOp rXorI (tCall (sp_turned K a) [] E0 (tCons (tFld K (tVar 0) "d") (tCons (tC (.int 21)) tNil))) (tFld K (tVar 0) "a")) "d")
    (tSeq (sFld K (tVar 0) (tOp rModI (tOp rAddI (tFld K (tVar 0) "c") (tFld K (tVar 0) "b")) (tC (.int 18446744073709551616))) "c")
    (tSeq (sFld K (tVar 0) (tOp rXorI (tCall (sp_turned K a) [] E0 (tCons (tFld K (tVar 0) "b") (tCons (tC (.int 17)) tNil))) (tFld K (tVar 0) "c")) "b")
    (sFld K (tVar 0) (tCall (sp_turned K a) [] E0 (tCons (tFld K (tVar 0) "c") (tCons (tC (.int 32)) tNil))) "c"))))))))))
section
variable {P : Program} {w : World} {K : PySem.W.Frag} {mg : Str → Option Value} {base : Heap} {a : Ad}
theorem round_of {v : Ks345.Four} {a1 b1 a2 c1 d1 a3 d2 c2 b2 c3 : Nat} (h1 : a1 = Ks345.add v.a v.b) (h2 : b1 = Ks345.turn 13 v.b ^^^ a1) (h3 : a2 = Ks345.turn 32 a1) (h4 : c1 = Ks345.add v.c v.d) (h5 : d1 = Ks345.turn 16 v.d ^^^ c1)
    (h6 : a3 = Ks345.add a2 d1) (h7 : d2 = Ks345.turn 21 d1 ^^^ a3) (h8 : c2 = Ks345.add c1 b1) (h9 : b2 = Ks345.turn 17 b1 ^^^ c2) (h10 : c3 = Ks345.turn 32 c2) : (⟨a3, b2, c3, d2⟩ : Ks345.Four) = Ks345.round v := by
  subst h1 h2 h3 h4 h5 h6 h7 h8 h9 h10
  rfl
theorem pure_Mixer_turn_once (T : Txt K mg a) (vs : List V) (H : Hp) (Q : VK) (E : XK) (h : sp_Mixer_turn_once K a vs H Q E) : t_Mixer_turn_once K a { nx := fun _ H' => Q .non H', rt := Q } (start ["self"] vs) H := by
  obtain ⟨p, v, rfl, ⟨dx, M⟩, q⟩ := h
  have M0 : MixC a H p dx v.a v.b v.c v.d := M
  refine mix_a T M0 (Keep.refl H p) (val_var rfl) (val_addW (val_a T M0 (val_var rfl)) (val_b T M0 (val_var rfl))) fun a1 H1 e1 M1 k1 => ?_
  refine mix_b T M1 k1 (val_var rfl) (val_xor (val_turned (n := 13) rfl (by decide) (val_b T M1 (val_var rfl))) (val_a T M1 (val_var rfl))) fun b1 H2 e2 M2 k2 => ?_
  refine mix_a T M2 k2 (val_var rfl) (val_turned (n := 32) rfl (by decide) (val_a T M2 (val_var rfl))) fun a2 H3 e3 M3 k3 => ?_
  refine mix_c T M3 k3 (val_var rfl) (val_addW (val_cc T M3 (val_var rfl)) (val_d T M3 (val_var rfl))) fun c1 H4 e4 M4 k4 => ?_
  refine mix_d T M4 k4 (val_var rfl) (val_xor (val_turned (n := 16) rfl (by decide) (val_d T M4 (val_var rfl))) (val_cc T M4 (val_var rfl))) fun d1 H5 e5 M5 k5 => ?_
  refine mix_a T M5 k5 (val_var rfl) (val_addW (val_a T M5 (val_var rfl)) (val_d T M5 (val_var rfl))) fun a3 H6 e6 M6 k6 => ?_
  refine mix_d T M6 k6 (val_var rfl) (val_xor (val_turned (n := 21) rfl (by decide) (val_d T M6 (val_var rfl))) (val_a T M6 (val_var rfl))) fun d2 H7 e7 M7 k7 => ?_
  refine mix_c T M7 k7 (val_var rfl) (val_addW (val_cc T M7 (val_var rfl)) (val_b T M7 (val_var rfl))) fun c2 H8 e8 M8 k8 => ?_
  refine mix_b T M8 k8 (val_var rfl) (val_xor (val_turned (n := 17) rfl (by decide) (val_b T M8 (val_var rfl))) (val_cc T M8 (val_var rfl))) fun b2 H9 e9 M9 k9 => ?_
  refine mix_c T M9 k9 (val_var rfl) (val_turned (n := 32) rfl (by decide) (val_cc T M9 (val_var rfl))) fun c3 H10 e10 M10 k10 => ?_
  exact q H10 (M10.at (round_of e1 e2 e3 e4 e5 e6 e7 e8 e9 e10)) k10
theorem G_Mixer_turn_once (T : Txt K mg a) : Def P w K mg base CX0 2 a.A.f_Mixer_turn_once ["self"] (sp_Mixer_turn_once K a) := by
  obtain ⟨fd, F, b⟩ := T.A.d_Mixer_turn_once
  have G_turned := G_turned (P := P) (w := w) (base := base) T
  refine ⟨⟨fd, F.ok sc_Mixer_turn_once (len_Mixer_turn_once K a) (fun cdv A outer s H vs Q E hr h => ⟨t_Mixer_turn_once K a, ?_, pure_Mixer_turn_once T vs H Q E h⟩), b⟩, F.kp⟩
  exact (pss_cons (ps_fld (pv 0) (by exact (pe_op op_mod (pe_op op_add (pe_fld (pv 0) rfl) (pe_fld (pv 0) rfl)) (pe_gint T.A.c_WHOLE))) rfl)
    (pss_cons (ps_fld (pv 0) (by exact (pe_op op_xor (pe_callD G_turned (hr.mono (by decide)) rfl T.A.g_turned pass0 (pa_cons (pe_fld (pv 0) rfl) (pa_cons pe_int pa_nil))) (pe_fld (pv 0) rfl))) rfl)
    (pss_cons (ps_fld (pv 0) (by exact (pe_callD G_turned (hr.mono (by decide)) rfl T.A.g_turned pass0 (pa_cons (pe_fld (pv 0) rfl) (pa_cons pe_int pa_nil)))) rfl)
    (pss_cons (ps_fld (pv 0) (by exact (pe_op op_mod (pe_op op_add (pe_fld (pv 0) rfl) (pe_fld (pv 0) rfl)) (pe_gint T.A.c_WHOLE))) rfl)
    (pss_cons (ps_fld (pv 0) (by exact (pe_op op_xor (pe_callD G_turned (hr.mono (by decide)) rfl T.A.g_turned pass0 (pa_cons (pe_fld (pv 0) rfl) (pa_cons pe_int pa_nil))) (pe_fld (pv 0) rfl))) rfl)
    (pss_cons (ps_fld (pv 0) (by exact (pe_op op_mod (pe_op op_add (pe_fld (pv 0) rfl) (pe_fld (pv 0) rfl)) (pe_gint T.A.c_WHOLE))) rfl)
    (pss_cons (ps_fld (pv 0) (by exact (pe_op op_xor (pe_callD G_turned (hr.mono (by decide)) rfl T.A.g_turned pass0 (pa_cons (pe_fld (pv 0) rfl) (pa_cons pe_int pa_nil))) (pe_fld (pv 0) rfl))) rfl)
    (pss_cons (ps_fld (pv 0) (by exact (pe_op op_mod (pe_op op_add (pe_fld (pv 0) rfl) (pe_fld (pv 0) rfl)) (pe_gint T.A.c_WHOLE))) rfl)
    (pss_cons (ps_fld (pv 0) (by exact (pe_op op_xor (pe_callD G_turned (hr.mono (by decide)) rfl T.A.g_turned pass0 (pa_cons (pe_fld (pv 0) rfl) (pa_cons pe_int pa_nil))) (pe_fld (pv 0) rfl))) rfl)
    (pss_one (ps_fld (pv 0) (by exact (pe_callD G_turned (hr.mono (by decide)) rfl T.A.g_turned pass0 (pa_cons (pe_fld (pv 0) rfl) (pa_cons pe_int pa_nil)))) rfl)))))))))))
end
def t_Mixer_rounds (K : PySem.W.Frag) (a : Ad) : TS :=
  (tFor (iRng1 (tCons (tVar 1) tNil)) (gName 2) (tDrop (tMeth a.A.c_Mixer "turn_once" (sp_Mixer_turn_once K a) [] E0 (tVar 0) tNil)))
section
variable {P : Program} {w : World} {K : PySem.W.Frag} {mg : Str → Option Value} {base : Heap} {a : Ad}
theorem pure_Mixer_rounds (T : Txt K mg a) (vs : List V) (H : Hp) (Q : VK) (E : XK) (h : sp_Mixer_rounds K a vs H Q E) : t_Mixer_rounds K a { nx := fun _ H' => Q .non H', rt := Q } (start ["self", "many", "k"] vs) H := by
  obtain ⟨p, n, v, rfl, hn, M, q⟩ := h
  refine ⟨_, rfl, (n : Int), rfl, by omega, by omega, for_range (n := n) (fun i σ H' => ∃ u, σ = [some (.ref p), some (nv n), u] ∧ MixAt a H' p (Ks345.rounds i v) ∧ Keep H H' p) ⟨none, rfl, ?_, Keep.refl H p⟩ ?_ ?_⟩
  · rw [rounds_zero]
    exact M
  · rintro i σ H' hi ⟨u, rfl, ⟨dx, M1⟩, k1⟩
    refine meth_go (val_var rfl) M1 no_Mixer_turn_once va_nil ⟨p, _, rfl, ⟨dx, M1⟩, fun H2 M2 k2 => ⟨some (.int (0 + (i : Nat))), rfl, ?_, k1.trans k2⟩⟩
    rw [rounds_succ]
    exact M2
  · rintro σ H' ⟨u, rfl, M1, k1⟩
    exact q H' M1 k1
theorem G_Mixer_rounds (T : Txt K mg a) : Def P w K mg base CX0 3 a.A.f_Mixer_rounds ["self", "many"] (sp_Mixer_rounds K a) := by
  obtain ⟨fd, F, b⟩ := T.A.d_Mixer_rounds
  have G_Mixer_turn_once := G_Mixer_turn_once (P := P) (w := w) (base := base) T
  refine ⟨⟨fd, F.ok sc_Mixer_rounds (len_Mixer_rounds K a) (fun cdv A outer s H vs Q E hr h => ⟨t_Mixer_rounds K a, ?_, pure_Mixer_rounds T vs H Q E h⟩), b⟩, F.kp⟩
  exact (pss_one (ps_for PassesOwn.never rfl (pi_range1 (by rfl) T.A.n_range (pa_cons (pv 1) pa_nil)) (pg_name (i := 2) sc_Mixer_rounds.nd rfl (Or.inl rfl)) (pss_one (ps_expr (by exact (pe_meth0D (pv 0) T.A.cl_Mixer T.A.m_Mixer_turn_once G_Mixer_turn_once (hr.mono (by decide)) pass0))))))
end
def t_Mixer_take (K : PySem.W.Frag) (a : Ad) : TS :=
  (tSeq (sFld K (tVar 0) (tOp rXorI (tFld K (tVar 0) "d") (tVar 1)) "d")
    (tSeq (tDrop (tMeth a.A.c_Mixer "rounds" (sp_Mixer_rounds K a) [] E0 (tVar 0) (tCons (tC (.int 2)) tNil)))
    (sFld K (tVar 0) (tOp rXorI (tFld K (tVar 0) "a") (tVar 1)) "a")))
section
variable {P : Program} {w : World} {K : PySem.W.Frag} {mg : Str → Option Value} {base : Heap} {a : Ad}
theorem pure_Mixer_take (T : Txt K mg a) (vs : List V) (H : Hp) (Q : VK) (E : XK) (h : sp_Mixer_take K a vs H Q E) : t_Mixer_take K a { nx := fun _ H' => Q .non H', rt := Q } (start ["self", "word"] vs) H := by
  obtain ⟨p, m, v, rfl, ⟨dx, M⟩, q⟩ := h
  have M0 : MixC a H p dx v.a v.b v.c v.d := M
  refine mix_d T M0 (Keep.refl H p) (val_var rfl) (val_xor (val_d T M0 (val_var rfl)) (val_var rfl)) fun d1 H1 e1 M1 k1 => ?_
  refine meth_go (val_var rfl) M1 no_Mixer_rounds (va_cons (val_lit (n := 2) rfl) va_nil) ⟨p, 2, ⟨v.a, v.b, v.c, v.d ^^^ m⟩, rfl, by decide, M1.at (by rw [e1]), fun H2 ⟨dx2, M2⟩ k2 => ?_⟩
  have w := word_eq v m
  generalize Ks345.rounds 2 ⟨v.a, v.b, v.c, v.d ^^^ m⟩ = r at w M2
  have M2' : MixC a H2 p dx2 r.a r.b r.c r.d := M2
  refine mix_a T M2' (k1.trans k2) (val_var rfl) (val_xor (val_a T M2' (val_var rfl)) (val_var rfl)) fun a3 H3 e3 M3 k3 => ?_
  exact q H3 (M3.at (by rw [w, e3])) k3
theorem G_Mixer_take (T : Txt K mg a) : Def P w K mg base CX0 4 a.A.f_Mixer_take ["self", "word"] (sp_Mixer_take K a) := by
  obtain ⟨fd, F, b⟩ := T.A.d_Mixer_take
  have G_Mixer_rounds := G_Mixer_rounds (P := P) (w := w) (base := base) T
  refine ⟨⟨fd, F.ok sc_Mixer_take (len_Mixer_take K a) (fun cdv A outer s H vs Q E hr h => ⟨t_Mixer_take K a, ?_, pure_Mixer_take T vs H Q E h⟩), b⟩, F.kp⟩
  exact (pss_cons (ps_fld (pv 0) (by exact (pe_op op_xor (pe_fld (pv 0) rfl) (pv 1))) rfl)
    (pss_cons (ps_expr (by exact (pe_methD (pv 0) T.A.cl_Mixer T.A.m_Mixer_rounds G_Mixer_rounds (hr.mono (by decide)) pass0 (pa_cons pe_int pa_nil))))
    (pss_one (ps_fld (pv 0) (by exact (pe_op op_xor (pe_fld (pv 0) rfl) (pv 1))) rfl))))
end
def t_Mixer_result (K : PySem.W.Frag) (a : Ad) : TS :=
  (tSeq (sFld K (tVar 0) (tOp rXorI (tFld K (tVar 0) "c") (tC (.int 255))) "c")
    (tSeq (tDrop (tMeth a.A.c_Mixer "rounds" (sp_Mixer_rounds K a) [] E0 (tVar 0) (tCons (tC (.int 4)) tNil)))
    (tRet (tOp rXorI (tOp rXorI (tOp rXorI (tFld K (tVar 0) "a") (tFld K (tVar 0) "b")) (tFld K (tVar 0) "c")) (tFld K (tVar 0) "d")))))
section
variable {P : Program} {w : World} {K : PySem.W.Frag} {mg : Str → Option Value} {base : Heap} {a : Ad}
theorem fin_eq (v : Ks345.Four) : fin v = fold4 (Ks345.rounds 4 ⟨v.a, v.b, v.c ^^^ 255, v.d⟩) := by rw [fin]
theorem fold4_eq (w : Ks345.Four) : fold4 w = w.a ^^^ w.b ^^^ w.c ^^^ w.d := by rw [fold4]
theorem result_end {T : Txt K mg a} {H : Hp} {p dx : Addr} {v r : Ks345.Four} {σ : L2.St} {to : TE} (M : MixC a H p dx r.a r.b r.c r.d) (w : fin v = fold4 r) (ho : Val to σ H (.ref p)) :
    Val (tOp rXorI (tOp rXorI (tOp rXorI (tFld K to "a") (tFld K to "b")) (tFld K to "c")) (tFld K to "d")) σ H (nv (fin v)) := by
  rw [w, fold4_eq]
  exact val_xor (val_xor (val_xor (val_a T M ho) (val_b T M ho)) (val_cc T M ho)) (val_d T M ho)
theorem pure_Mixer_result (T : Txt K mg a) (vs : List V) (H : Hp) (Q : VK) (E : XK) (h : sp_Mixer_result K a vs H Q E) : t_Mixer_result K a { nx := fun _ H' => Q .non H', rt := Q } (start ["self"] vs) H := by
  obtain ⟨p, v, rfl, ⟨dx, M⟩, q⟩ := h
  have M0 : MixC a H p dx v.a v.b v.c v.d := M
  refine mix_c T M0 (Keep.refl H p) (val_var rfl) (val_xor (val_cc T M0 (val_var rfl)) (val_lit (n := 255) rfl)) fun c1 H1 e1 M1 k1 => ?_
  refine meth_go (val_var rfl) M1 no_Mixer_rounds (va_cons (val_lit (n := 4) rfl) va_nil) ⟨p, 4, ⟨v.a, v.b, v.c ^^^ 255, v.d⟩, rfl, by decide, M1.at (by rw [e1]), fun H2 ⟨dx2, M2⟩ k2 => ?_⟩
  have w := fin_eq v
  generalize Ks345.rounds 4 ⟨v.a, v.b, v.c ^^^ 255, v.d⟩ = r at w M2
  have M2' : MixC a H2 p dx2 r.a r.b r.c r.d := M2
  exact result_end (T := T) M2' w (val_var rfl) _ (q H2 (k1.trans k2))
theorem G_Mixer_result (T : Txt K mg a) : Def P w K mg base CX0 4 a.A.f_Mixer_result ["self"] (sp_Mixer_result K a) := by
  obtain ⟨fd, F, b⟩ := T.A.d_Mixer_result
  have G_Mixer_rounds := G_Mixer_rounds (P := P) (w := w) (base := base) T
  refine ⟨⟨fd, F.ok sc_Mixer_result (len_Mixer_result K a) (fun cdv A outer s H vs Q E hr h => ⟨t_Mixer_result K a, ?_, pure_Mixer_result T vs H Q E h⟩), b⟩, F.kp⟩
  exact (pss_cons (ps_fld (pv 0) (by exact (pe_op op_xor (pe_fld (pv 0) rfl) (pe_gint T.A.c_LAST_MARK))) rfl)
    (pss_cons (ps_expr (by exact (pe_methD (pv 0) T.A.cl_Mixer T.A.m_Mixer_rounds G_Mixer_rounds (hr.mono (by decide)) pass0 (pa_cons pe_int pa_nil))))
    (pss_one (ps_ret (by exact (pe_op op_xor (pe_op op_xor (pe_op op_xor (pe_fld (pv 0) rfl) (pe_fld (pv 0) rfl)) (pe_fld (pv 0) rfl)) (pe_fld (pv 0) rfl)))))))
end
def t_tag_of (K : PySem.W.Frag) (a : Ad) : TS :=
  (tSeq (tAsg (tMake a.A.c_Mixer (sp_Mixer_init K a) [] E0 (tCons (tCall (sp_number_of K a) [] E0 (tCons (tSl (rSlL K) (tVar 0) tNoPart (tPart (tC (.int 8)))) tNil)) (tCons (tCall (sp_number_of K a) [] E0 (tCons (tSl (rSlL K) (tVar 0) (tPart (tC (.int 8))) tNoPart) tNil)) tNil))) (gName 2))
    (tSeq (tAsg (tOp rMulI (tOp rDivI (tCB (rLen K) (tCons (tVar 1) tNil)) (tC (.int 8))) (tC (.int 8))) (gName 3))
    (tSeq (tFor (iRng3 (tCons (tC (.int 0)) (tCons (tVar 3) (tCons (tC (.int 8)) tNil)))) (gName 4) (tDrop (tMeth a.A.c_Mixer "take" (sp_Mixer_take K a) [] E0 (tVar 2) (tCons (tCall (sp_number_of K a) [] E0 (tCons (tSl (rSlL K) (tVar 1) (tPart (tVar 4)) (tPart (tOp rAddI (tVar 4) (tC (.int 8))))) tNil)) tNil))))
    (tSeq (tAsg (tSl (rSlL K) (tVar 1) (tPart (tVar 3)) tNoPart) (gName 5))
    (tSeq (tAsg (tOp rCat (tOp rCat (tVar 5) (tOp rRep (tLst (tCons (tC (.int 0)) tNil)) (tOp rSubI (tOp rSubI (tC (.int 8)) (tC (.int 1))) (tCB (rLen K) (tCons (tVar 5) tNil))))) (tLst (tCons (tOp rModI (tCB (rLen K) (tCons (tVar 1) tNil)) (tC (.int 256))) tNil))) (gName 6))
    (tSeq (tDrop (tMeth a.A.c_Mixer "take" (sp_Mixer_take K a) [] E0 (tVar 2) (tCons (tCall (sp_number_of K a) [] E0 (tCons (tVar 6) tNil)) tNil)))
    (tRet (tCall (sp_bytes_of K a) [] E0 (tCons (tMeth a.A.c_Mixer "result" (sp_Mixer_result K a) [] E0 (tVar 2) tNil) tNil)))))))))
section
variable {P : Program} {w : World} {K : PySem.W.Frag} {mg : Str → Option Value} {base : Heap} {a : Ad}
theorem same_keep {H H1 H2 : Hp} {x : Addr} (s : Same H H1) (k : Keep H1 H2 x) (n : H x = none) : Same H H2 := fun b o h => k b o (s b o h) (ne_of_none h n)
theorem begun_start (key : List Nat) : start4 (Ks345.number (key.take 8)) (Ks345.number (key.drop 8)) = Ks345.begun key := by
  unfold start4 Ks345.begun
  dsimp only
  rw [Nat.xor_comm (Ks345.number (key.take 8)), Nat.xor_comm (Ks345.number (key.drop 8)), Nat.xor_comm (Ks345.number (key.take 8)), Nat.xor_comm (Ks345.number (key.drop 8))]
theorem last_number : Ks345.number [0, 0, 0, 0, 0, 0, 0, 8] = lastWord := by decide +kernel
theorem rg8 : RgC 0 8 8 1 := ⟨by decide, by decide, by decide +kernel, by decide +kernel⟩
theorem pure_tag_of (T : Txt K mg a) (vs : List V) (H : Hp) (Q : VK) (E : XK) (h : sp_tag_of K a vs H Q E) : t_tag_of K a { nx := fun _ H' => Q .non H', rt := Q } (start ["key", "message", "mixer", "whole", "at", "rest", "last"] vs) H := by
  obtain ⟨k, m, key, msg, rfl, hk, hm, hlen, q⟩ := h
  -- mixer = Mixer(number_of(key[:8]), number_of(key[8:]))
  refine sl_to (n := 8) rfl (val_var rfl) hk fun r1 n1 => ⟨r1, key.take 8, rfl, SqL.of upd_same, ?_⟩
  have s1 : Same H _ := Same.upd0 (o := .lst (L (key.take 8))) n1
  refine sl_from (n := 8) (val_var rfl) (val_lit rfl) (s1.seq hk) fun r2 n2 => ⟨r2, key.drop 8, rfl, SqL.of upd_same, ?_⟩
  have s2 := Same.new (o := .lst (L (key.drop 8))) s1 n2
  intro x dx nx nd ne
  refine ⟨x, dx, _, _, rfl, upd_same, fun H3 M3 k3 => ⟨rfl, ?_⟩⟩
  have nx0 : H x = none := s2.free nx
  have s3 : Same H H3 := s2.trans (made_same nx nd k3)
  rw [begun_start] at M3
  clear k3 nx nd ne n2
  generalize hb : Ks345.begun key = v0 at M3
  -- whole = 8
  refine (Val.is (val_mul (val_div (val_len (val_var rfl) (s3.seq hm)) (val_lit (n := 8) rfl) (by decide) (by decide)) (val_lit (n := 8) rfl) (.inr (by decide))) (by rw [L_length, hlen]) : Val _ _ _ (nv 8)) _ ?_
  refine ⟨_, rfl, 0, 8, 8, 1, rfl, rg8, for_rangeC (n := 1) (fun i σ' H' => ∃ (u : Option V) (v : Ks345.Four), σ' = [some (.ref k), some (.ref m), some (.ref x), some (nv 8), u, none, none] ∧ Same H H' ∧ MixAt a H' x v ∧ (i = 0 → v = v0) ∧ (i = 1 → v = Ks345.word v0 (Ks345.number msg)))
    ⟨none, v0, rfl, s3, M3, fun _ => rfl, fun q => by cases q⟩ ?_ ?_⟩
  · rintro i σ' H' hi ⟨u, v, rfl, s4, ⟨dx4, M4⟩, e4, _⟩
    have e0 : i = 0 := by omega
    subst e0
    have e4 := e4 rfl
    subst e4
    refine ⟨_, rfl, x, dx4, _, rfl, M4, no_Mixer_take, ?_⟩
    refine sl_mid (i := 0) (j := 0 + 8) (val_var rfl) (val_var rfl) (val_add (val_var rfl) (val_lit rfl)) (s4.seq hm) (Nat.zero_le _) (by omega) fun r5 n5 => ⟨r5, _, rfl, SqL.of upd_same, ?_⟩
    refine ⟨x, _, v, rfl, ⟨dx4, (Same.upd0 n5) _ _ M4⟩, fun H6 M6 k6 => ⟨_, Ks345.word v (Ks345.number msg), rfl, same_keep (Same.new s4 n5) k6 nx0, ?_, fun q => (by cases q), fun _ => rfl⟩⟩
    have em : (msg.drop 0).take (0 + 8 - 0) = msg := by rw [List.drop_zero, List.take_of_length_le (by omega)]
    rw [em] at M6
    exact M6
  · rintro σ' H' ⟨u, v, rfl, s4, ⟨dx4, M4⟩, _, e4⟩
    have e4 := e4 rfl
    -- rest = []
    refine sl_from (n := 8) (val_var rfl) (val_var rfl) (s4.seq hm) fun r5 n5 => ?_
    have em : msg.drop 8 = [] := List.drop_eq_nil_of_le (by omega)
    rw [em]
    have s5 := Same.new (o := .lst (L [])) s4 n5
    have h5 : L2.upd H' r5 (.lst (L [])) r5 = some (.lst (L [])) := upd_same
    have M5 : MixIn a (L2.upd H' r5 (.lst (L []))) x dx4 v := (Same.upd0 n5) _ _ M4
    generalize L2.upd H' r5 (.lst (L [])) = H5 at s5 h5 M5
    -- last = [] + [0] * 7 + [8]
    refine ⟨_, rfl, by show 1 ≤ sizeLine; decide, fun p6 n6 => ?_⟩
    have s6 := Same.new (o := .lst [.int 0]) s5 n6
    have h6 : L2.upd H5 p6 (.lst [.int 0]) p6 = some (.lst [.int 0]) := upd_same
    have h56 := (Same.upd0 (o := .lst [.int 0]) n6) _ _ h5
    have M6 : MixIn a (L2.upd H5 p6 (.lst [.int 0])) x dx4 v := (Same.upd0 n6) _ _ M5
    generalize L2.upd H5 p6 (.lst [.int 0]) = H6 at s6 h6 h56 M6
    refine (val_sub (val_sub (val_lit (n := 8) rfl) (val_lit (n := 1) rfl) (by decide)) (val_len (val_var rfl) (SqL.of h56)) (by show 0 ≤ 7; decide)) _ ?_
    refine ⟨p6, 7, _, rfl, rfl, h6, by decide, by decide, by show 1 * 7 ≤ sizeLine; decide, fun p7 n7 => ?_⟩
    have s7 := Same.new (o := .lst (List.replicate (Int.toNat 7) [V.int 0]).flatten) s6 n7
    have h7 : L2.upd H6 p7 (.lst (List.replicate (Int.toNat 7) [V.int 0]).flatten) p7 = some (.lst (L [0, 0, 0, 0, 0, 0, 0])) := upd_same
    have h57 := (Same.upd0 (o := .lst (List.replicate (Int.toNat 7) [V.int 0]).flatten) n7) _ _ h56
    have M7 : MixIn a (L2.upd H6 p7 (.lst (List.replicate (Int.toNat 7) [V.int 0]).flatten)) x dx4 v := (Same.upd0 n7) _ _ M6
    generalize L2.upd H6 p7 (.lst (List.replicate (Int.toNat 7) [V.int 0]).flatten) = H7 at s7 h7 h57 M7
    refine ⟨r5, p7, _, _, rfl, rfl, h57, h7, by show 7 ≤ sizeLine; decide, fun p8 n8 => ?_⟩
    have s8 := Same.new (o := .lst (L [] ++ L [0, 0, 0, 0, 0, 0, 0])) s7 n8
    have h8 : L2.upd H7 p8 (.lst (L [] ++ L [0, 0, 0, 0, 0, 0, 0])) p8 = some (.lst (L [0, 0, 0, 0, 0, 0, 0])) := upd_same
    have M8 : MixIn a (L2.upd H7 p8 (.lst (L [] ++ L [0, 0, 0, 0, 0, 0, 0]))) x dx4 v := (Same.upd0 n8) _ _ M7
    generalize L2.upd H7 p8 (.lst (L [] ++ L [0, 0, 0, 0, 0, 0, 0])) = H8 at s8 h8 M8
    refine (Val.is (val_mod (val_len (val_var rfl) (s8.seq hm)) (val_lit (n := 256) rfl) (by decide)) (by rw [L_length, hlen]) : Val _ _ _ (nv 8)) _ ⟨by show 1 ≤ sizeLine; decide, fun p9 n9 => ?_⟩
    have s9 := Same.new (o := .lst [nv 8]) s8 n9
    have h9 : L2.upd H8 p9 (.lst [nv 8]) p9 = some (.lst (L [8])) := upd_same
    have h89 := (Same.upd0 (o := .lst [nv 8]) n9) _ _ h8
    have M9 : MixIn a (L2.upd H8 p9 (.lst [nv 8])) x dx4 v := (Same.upd0 n9) _ _ M8
    generalize L2.upd H8 p9 (.lst [nv 8]) = H9 at s9 h9 h89 M9
    refine ⟨p8, p9, _, _, rfl, rfl, h89, h9, by show 8 ≤ sizeLine; decide, fun p10 n10 => ?_⟩
    have s10 := Same.new (o := .lst (L [0, 0, 0, 0, 0, 0, 0] ++ L [8])) s9 n10
    have h10 : L2.upd H9 p10 (.lst (L [0, 0, 0, 0, 0, 0, 0] ++ L [8])) p10 = some (.lst (L [0, 0, 0, 0, 0, 0, 0, 8])) := upd_same
    have M10 : MixIn a (L2.upd H9 p10 (.lst (L [0, 0, 0, 0, 0, 0, 0] ++ L [8]))) x dx4 v := (Same.upd0 n10) _ _ M9
    generalize L2.upd H9 p10 (.lst (L [0, 0, 0, 0, 0, 0, 0] ++ L [8])) = H10 at s10 h10 M10
    -- mixer.take(number_of(last))
    refine meth_go (val_var rfl) M10 no_Mixer_take (va_cons (val_call (va_cons (val_var rfl) va_nil) fun Q q => ⟨p10, _, rfl, SqL.of h10, q⟩) va_nil) ⟨x, _, v, rfl, ⟨dx4, M10⟩, fun H11 ⟨dx11, M11⟩ k11 => ?_⟩
    have s11 := same_keep s10 k11 nx0
    -- return bytes_of(mixer.result())
    refine meth_go (val_var rfl) M11 no_Mixer_result va_nil ⟨x, _, rfl, ⟨dx11, M11⟩, fun H12 k12 => ?_⟩
    have s12 := same_keep s11 k12 nx0
    refine ⟨_, rfl, fun p H13 n13 s13 h13 => ?_⟩
    refine q p H13 (s12.free n13) (s12.trans s13) ?_
    rw [tag_eq hlen, hb, ← e4, ← last_number]
    exact h13
theorem G_tag_of (T : Txt K mg a) : Def P w K mg base CX0 5 a.A.f_tag_of ["key", "message"] (sp_tag_of K a) := by
  obtain ⟨fd, F, b⟩ := T.A.d_tag_of
  have G_Mixer_init := G_Mixer_init (P := P) (w := w) (base := base) T
  have G_Mixer_result := G_Mixer_result (P := P) (w := w) (base := base) T
  have G_Mixer_take := G_Mixer_take (P := P) (w := w) (base := base) T
  have G_bytes_of := G_bytes_of (P := P) (w := w) (base := base) T
  have G_number_of := G_number_of (P := P) (w := w) (base := base) T
  refine ⟨⟨fd, F.ok sc_tag_of (len_tag_of K a) (fun cdv A outer s H vs Q E hr h => ⟨t_tag_of K a, ?_, pure_tag_of T vs H Q E h⟩), b⟩, F.kp⟩
  exact (pss_cons (ps_set (i := 2) sc_tag_of.nd rfl (Or.inl rfl) (by exact (pe_makeD T.A.mk_Mixer G_Mixer_init (hr.mono (by decide)) rfl T.A.g_Mixer pass0 (pa_cons (pe_callD G_number_of (hr.mono (by decide)) rfl T.A.g_number_of pass0 (pa_cons (pe_slice sl_list (pv 0) po_none (po_some (pe_gint T.A.c_WORD))) pa_nil)) (pa_cons (pe_callD G_number_of (hr.mono (by decide)) rfl T.A.g_number_of pass0 (pa_cons (pe_slice sl_list (pv 0) (po_some (pe_gint T.A.c_WORD)) po_none) pa_nil)) pa_nil)))))
    (pss_cons (ps_set (i := 3) sc_tag_of.nd rfl (Or.inl rfl) (by exact (pe_op op_mul (pe_op op_fdiv (pe_callB call_len_seq (by rfl) T.A.n_len PySem.boot_len (pa_cons (pv 1) pa_nil)) (pe_gint T.A.c_WORD)) (pe_gint T.A.c_WORD))))
    (pss_cons (ps_for PassesOwn.never rfl (pi_range3 (by rfl) T.A.n_range (pa_cons pe_int (pa_cons (pv 3) (pa_cons (pe_gint T.A.c_WORD) pa_nil)))) (pg_name (i := 4) sc_tag_of.nd rfl (Or.inl rfl)) (pss_one (ps_expr (by exact (pe_methD (pv 2) T.A.cl_Mixer T.A.m_Mixer_take G_Mixer_take (hr.mono (by decide)) pass0 (pa_cons (pe_callD G_number_of (hr.mono (by decide)) rfl T.A.g_number_of pass0 (pa_cons (pe_slice sl_list (pv 1) (po_some (pv 4)) (po_some (pe_op op_add (pv 4) (pe_gint T.A.c_WORD)))) pa_nil)) pa_nil))))))
    (pss_cons (ps_set (i := 5) sc_tag_of.nd rfl (Or.inl rfl) (by exact (pe_slice sl_list (pv 1) (po_some (pv 3)) po_none)))
    (pss_cons (ps_set (i := 6) sc_tag_of.nd rfl (Or.inl rfl) (by exact (pe_op op_cat (pe_op op_cat (pv 5) (pe_op op_rep (pe_lst (pa_cons pe_int pa_nil)) (pe_op op_sub (pe_op op_sub (pe_gint T.A.c_WORD) pe_int) (pe_callB call_len_seq (by rfl) T.A.n_len PySem.boot_len (pa_cons (pv 5) pa_nil))))) (pe_lst (pa_cons (pe_op op_mod (pe_callB call_len_seq (by rfl) T.A.n_len PySem.boot_len (pa_cons (pv 1) pa_nil)) pe_int) pa_nil)))))
    (pss_cons (ps_expr (by exact (pe_methD (pv 2) T.A.cl_Mixer T.A.m_Mixer_take G_Mixer_take (hr.mono (by decide)) pass0 (pa_cons (pe_callD G_number_of (hr.mono (by decide)) rfl T.A.g_number_of pass0 (pa_cons (pv 6) pa_nil)) pa_nil))))
    (pss_one (ps_ret (by exact (pe_callD G_bytes_of (hr.mono (by decide)) rfl T.A.g_bytes_of pass0 (pa_cons (pe_meth0D (pv 2) T.A.cl_Mixer T.A.m_Mixer_result G_Mixer_result (hr.mono (by decide)) pass0) pa_nil)))))))))))
end
def t_Card_init (K : PySem.W.Frag) (a : Ad) : TS :=
  (tSeq (sFld K (tVar 0) (tOp (rIxL K) (tVar 1) (tC (.int 0))) "kind")
    (tSeq (sFld K (tVar 0) (tOp (rIxL K) (tVar 1) (tC (.int 1))) "place")
    (tSeq (sFld K (tVar 0) (tCall (sp_number_of K a) [] E0 (tCons (tSl (rSlL K) (tVar 1) (tPart (tC (.int 2))) (tPart (tC (.int 4)))) tNil)) "number")
    (tSeq (sFld K (tVar 0) (tCall (sp_number_of K a) [] E0 (tCons (tSl (rSlL K) (tVar 1) (tPart (tC (.int 4))) (tPart (tC (.int 6)))) tNil)) "last")
    (sFld K (tVar 0) (tCall (sp_number_of K a) [] E0 (tCons (tSl (rSlL K) (tVar 1) (tPart (tC (.int 6))) (tPart (tC (.int 8)))) tNil)) "serial")))))
section
variable {P : Program} {w : World} {K : PySem.W.Frag} {mg : Str → Option Value} {base : Heap} {a : Ad}
theorem pure_Card_init (T : Txt K mg a) (vs : List V) (H : Hp) (Q : VK) (E : XK) (h : sp_Card_init K a vs H Q E) : t_Card_init K a { nx := fun _ H' => Q .non H', rt := Q } (start ["self", "row"] vs) H := by
  obtain ⟨p, dx, r, row, rfl, hp, hr, hl, q⟩ := h
  have num : ∀ {H1 : Hp} {σ : L2.St} {ro : V} {i j : Nat} {x y : Int}, x = (i : Int) → y = (j : Int) → σ[1]? = some (some (.ref r)) → SqL K H1 r (L row) → i ≤ 16 → j ≤ 16 → ∀ Q : VK, (∀ H2, Same H1 H2 → Q (nv (Ks345.number ((row.drop i).take (j - i)))) H2) →
      tCall (sp_number_of K a) [] E0 (tCons (tSl (rSlL K) (tVar 1) (tPart (tC (.int x))) (tPart (tC (.int y)))) tNil) σ H1 Q := fun ex ey hσ hs hi hj Q q => sl_mid (val_var hσ) (val_lit ex) (val_lit ey) hs (by omega) (by omega) fun r5 n5 => ⟨r5, _, rfl, SqL.of upd_same, q _ (Same.upd0 n5)⟩
  refine fld_mk hp (Keep.refl H p) (val_var rfl) (val_ixL (val_var rfl) (val_lit (n := 0) rfl) hr (L_get (getD_some (by omega)))) T.B.cl_Card T.B.n_Card_kind (by show 0 < 1000; decide) mk_Card_0 fun H1 h1 k1 => ?_
  refine fld_mk h1 k1 (val_var rfl) (val_ixL (val_var rfl) (val_lit (n := 1) rfl) (k1.seq hp hr) (L_get (getD_some (by omega)))) T.B.cl_Card T.B.n_Card_place (by show 1 < 1000; decide) mk_Card_1 fun H2 h2 k2 => ?_
  refine fld_mkS h2 k2 (fun _ => val_var rfl) (num (i := 2) (j := 4) (ro := .non) rfl rfl rfl (k2.seq hp hr) (by decide) (by decide)) T.B.cl_Card T.B.n_Card_number (by show 2 < 1000; decide) mk_Card_2 fun H3 h3 k3 => ?_
  refine fld_mkS h3 k3 (fun _ => val_var rfl) (num (i := 4) (j := 6) (ro := .non) rfl rfl rfl (k3.seq hp hr) (by decide) (by decide)) T.B.cl_Card T.B.n_Card_last (by show 3 < 1000; decide) mk_Card_3 fun H4 h4 k4 => ?_
  refine fld_mkS h4 k4 (fun _ => val_var rfl) (num (i := 6) (j := 8) (ro := .non) rfl rfl rfl (k4.seq hp hr) (by decide) (by decide)) T.B.cl_Card T.B.n_Card_serial (by show 4 < 1000; decide) mk_Card_4 fun H5 h5 k5 => ?_
  exact q H5 ⟨dx, h5⟩ k5
theorem G_Card_init (T : Txt K mg a) : Def P w K mg base CX0 2 a.B.f_Card_init ["self", "row"] (sp_Card_init K a) := by
  obtain ⟨fd, F, b⟩ := T.B.d_Card_init
  have G_number_of := G_number_of (P := P) (w := w) (base := base) T
  refine ⟨⟨fd, F.ok sc_Card_init (len_Card_init K a) (fun cdv A outer s H vs Q E hr h => ⟨t_Card_init K a, ?_, pure_Card_init T vs H Q E h⟩), b⟩, F.kp⟩
  exact (pss_cons (ps_fld (pv 0) (by exact (pe_ix ix_list (pv 1) pe_int (fun _ _ => rfl))) rfl)
    (pss_cons (ps_fld (pv 0) (by exact (pe_ix ix_list (pv 1) pe_int (fun _ _ => rfl))) rfl)
    (pss_cons (ps_fld (pv 0) (by exact (pe_callD G_number_of (hr.mono (by decide)) rfl T.A.g_number_of pass0 (pa_cons (pe_slice sl_list (pv 1) (po_some pe_int) (po_some pe_int)) pa_nil))) rfl)
    (pss_cons (ps_fld (pv 0) (by exact (pe_callD G_number_of (hr.mono (by decide)) rfl T.A.g_number_of pass0 (pa_cons (pe_slice sl_list (pv 1) (po_some pe_int) (po_some pe_int)) pa_nil))) rfl)
    (pss_one (ps_fld (pv 0) (by exact (pe_callD G_number_of (hr.mono (by decide)) rfl T.A.g_number_of pass0 (pa_cons (pe_slice sl_list (pv 1) (po_some pe_int) (po_some pe_int)) pa_nil))) rfl))))))
end
def t_Entry_init (K : PySem.W.Frag) (a : Ad) : TS :=
  (tSeq (sFld K (tVar 0) (tVar 1) "kind")
    (tSeq (sFld K (tVar 0) (tVar 2) "number")
    (tSeq (sFld K (tVar 0) (tVar 3) "serial")
    (sFld K (tVar 0) (tVar 4) "day"))))
section
variable {P : Program} {w : World} {K : PySem.W.Frag} {mg : Str → Option Value} {base : Heap} {a : Ad}
theorem pure_Entry_init (T : Txt K mg a) (vs : List V) (H : Hp) (Q : VK) (E : XK) (h : sp_Entry_init K a vs H Q E) : t_Entry_init K a { nx := fun _ H' => Q .non H', rt := Q } (start ["self", "kind", "number", "serial", "day"] vs) H := by
  obtain ⟨p, dx, k, n, s, d, rfl, hp, q⟩ := h
  refine fld_mk hp (Keep.refl H p) (val_var rfl) (val_var rfl) T.B.cl_Entry T.B.n_Entry_kind (by show 0 < 1000; decide) mk_Entry_0 fun H1 h1 k1 => ?_
  refine fld_mk h1 k1 (val_var rfl) (val_var rfl) T.B.cl_Entry T.B.n_Entry_number (by show 1 < 1000; decide) mk_Entry_1 fun H2 h2 k2 => ?_
  refine fld_mk h2 k2 (val_var rfl) (val_var rfl) T.B.cl_Entry T.B.n_Entry_serial (by show 2 < 1000; decide) mk_Entry_2 fun H3 h3 k3 => ?_
  refine fld_mk h3 k3 (val_var rfl) (val_var rfl) T.B.cl_Entry T.B.n_Entry_day (by show 3 < 1000; decide) mk_Entry_3 fun H4 h4 k4 => ?_
  exact q H4 ⟨dx, h4⟩ k4
theorem G_Entry_init (T : Txt K mg a) : Def P w K mg base CX0 1 a.B.f_Entry_init ["self", "kind", "number", "serial", "day"] (sp_Entry_init K a) := by
  obtain ⟨fd, F, b⟩ := T.B.d_Entry_init
  refine ⟨⟨fd, F.ok sc_Entry_init (len_Entry_init K a) (fun cdv A outer s H vs Q E hr h => ⟨t_Entry_init K a, ?_, pure_Entry_init T vs H Q E h⟩), b⟩, F.kp⟩
  exact (pss_cons (ps_fld (pv 0) (by exact (pv 1)) rfl)
    (pss_cons (ps_fld (pv 0) (by exact (pv 2)) rfl)
    (pss_cons (ps_fld (pv 0) (by exact (pv 3)) rfl)
    (pss_one (ps_fld (pv 0) (by exact (pv 4)) rfl)))))
end
def t_Door_init (K : PySem.W.Frag) (a : Ad) : TS :=
  (tSeq (sFld K (tVar 0) (tVar 1) "room")
    (tSeq (sFld K (tVar 0) (tVar 2) "zone")
    (tSeq (sFld K (tVar 0) (tVar 3) "key")
    (tSeq (sFld K (tVar 0) (tC (.int 0)) "day")
    (tSeq (sFld K (tVar 0) (tC (.int 0)) "number")
    (tSeq (sFld K (tVar 0) (tC (.int 0)) "round")
    (tSeq (sFld K (tVar 0) (tC (.bl false)) "is_bolted")
    (sFld K (tVar 0) (tLst tNil) "book"))))))))
section
variable {P : Program} {w : World} {K : PySem.W.Frag} {mg : Str → Option Value} {base : Heap} {a : Ad}
theorem pure_Door_init (T : Txt K mg a) (vs : List V) (H : Hp) (Q : VK) (E : XK) (h : sp_Door_init K a vs H Q E) : t_Door_init K a { nx := fun _ H' => Q .non H', rt := Q } (start ["self", "room", "zone", "key"] vs) H := by
  obtain ⟨p, dx, kk, r, z, key, rfl, hp, hk, q⟩ := h
  refine fld_mk hp (Keep.refl H p) (val_var rfl) (val_var rfl) T.B.cl_Door T.B.n_Door_room (by show 0 < 1000; decide) mk_Door_0 fun H1 h1 k1 => ?_
  refine fld_mk h1 k1 (val_var rfl) (val_var rfl) T.B.cl_Door T.B.n_Door_zone (by show 1 < 1000; decide) mk_Door_1 fun H2 h2 k2 => ?_
  refine fld_mk h2 k2 (val_var rfl) (val_var rfl) T.B.cl_Door T.B.n_Door_key (by show 2 < 1000; decide) mk_Door_2 fun H3 h3 k3 => ?_
  refine fld_mk h3 k3 (val_var rfl) (val_lit (n := 0) rfl) T.B.cl_Door T.B.n_Door_day (by show 3 < 1000; decide) mk_Door_3 fun H4 h4 k4 => ?_
  refine fld_mk h4 k4 (val_var rfl) (val_lit (n := 0) rfl) T.B.cl_Door T.B.n_Door_number (by show 4 < 1000; decide) mk_Door_4 fun H5 h5 k5 => ?_
  refine fld_mk h5 k5 (val_var rfl) (val_lit (n := 0) rfl) T.B.cl_Door T.B.n_Door_round (by show 5 < 1000; decide) mk_Door_5 fun H6 h6 k6 => ?_
  refine fld_mk h6 k6 (val_var rfl) val_c T.B.cl_Door T.B.n_Door_is_bolted (by show 6 < 1000; decide) mk_Door_6 fun H7 h7 k7 => ?_
  refine ⟨Nat.zero_le _, fun bb nb => ?_⟩
  have s8 : Same H7 (L2.upd H7 bb (.lst [])) := Same.upd0 nb
  have h8 := s8 _ _ h7
  have hb : L2.upd H7 bb (.lst []) bb = some (.lst []) := upd_same
  refine fld_mk h8 (Keep.refl _ p) (te := tC (.ref bb)) (val_var rfl) val_c T.B.cl_Door T.B.n_Door_book (by show 7 < 1000; decide) mk_Door_7 fun H9 h9 k9 => ?_
  have k10 : Keep H H9 p := (k7.trans (Keep.of s8)).trans k9
  exact q H9 bb (k7.free h7 nb) ⟨h9, k10 _ _ hk (lst_ins hk hp), k9 _ _ hb (lst_ins hb h8), trivial, Nat.zero_le _⟩ k10
theorem G_Door_init (T : Txt K mg a) : Def P w K mg base CX0 1 a.B.f_Door_init ["self", "room", "zone", "key"] (sp_Door_init K a) := by
  obtain ⟨fd, F, b⟩ := T.B.d_Door_init
  refine ⟨⟨fd, F.ok sc_Door_init (len_Door_init K a) (fun cdv A outer s H vs Q E hr h => ⟨t_Door_init K a, ?_, pure_Door_init T vs H Q E h⟩), b⟩, F.kp⟩
  exact (pss_cons (ps_fld (pv 0) (by exact (pv 1)) rfl)
    (pss_cons (ps_fld (pv 0) (by exact (pv 2)) rfl)
    (pss_cons (ps_fld (pv 0) (by exact (pv 3)) rfl)
    (pss_cons (ps_fld (pv 0) (by exact pe_int) rfl)
    (pss_cons (ps_fld (pv 0) (by exact pe_int) rfl)
    (pss_cons (ps_fld (pv 0) (by exact pe_int) rfl)
    (pss_cons (ps_fld (pv 0) (by exact pe_bl) rfl)
    (pss_one (ps_fld (pv 0) (by exact (pe_lst pa_nil)) rfl)))))))))
end
def t_is_place (K : PySem.W.Frag) (a : Ad) : TS :=
  (tSeq (tIfS (tTest (tOp (rIn K false) (tVar 0) (tTup (tCons (tC (.int 1)) (tCons (tC (.int 3)) tNil))))) (tRet (tOp rLeI (tVar 1) (tC (.int 63)))) tNext)
    (tSeq (tIfS (tTest (tOp rEq (tVar 0) (tC (.int 2)))) (tRet (tOp rGeI (tVar 1) (tC (.int 1)))) tNext)
    (tRet (tAndV (tOp rEq (tVar 0) (tC (.int 4))) (tOp rEq (tVar 1) (tC (.int 255)))))))
section
variable {P : Program} {w : World} {K : PySem.W.Frag} {mg : Str → Option Value} {base : Heap} {a : Ad}
theorem pure_is_place (T : Txt K mg a) (vs : List V) (H : Hp) (Q : VK) (E : XK) (h : sp_is_place K a vs H Q E) : t_is_place K a { nx := fun _ H' => Q .non H', rt := Q } (start ["kind", "place"] vs) H := by
  obtain ⟨k, p, rfl, q⟩ := h
  refine in_kinds (val_var rfl) fun H1 s1 => ⟨_, rfl, ?_⟩
  by_cases c : k = 1 ∨ k = 3
  · have e : isPlace k p = decide (p ≤ 63) := if_pos c
    have q1 := q H1 s1
    rw [e] at q1
    have e2 : (decide (k = 1) || decide (k = 3)) = true := by simpa using c
    rw [e2]
    refine iteT ?_
    exact val_le (val_var rfl) (val_lit (n := 63) rfl) _ q1
  · have e : isPlace k p = if k = 2 then decide (1 ≤ p) else decide (k = 4) && decide (p = 255) := if_neg c
    have q1 := q H1 s1
    rw [e] at q1
    have e2 : (decide (k = 1) || decide (k = 3)) = false := by
      cases z : (decide (k = 1) || decide (k = 3)) with
      | false => rfl
      | true => exact absurd (by simpa using z) c
    rw [e2]
    refine iteF ?_
    refine if_ans (ans_test (val_eq (val_var rfl) (val_lit (n := 2) rfl))) (fun c2 => ?_) fun c2 => ?_
    · rw [if_pos (of_decide_eq_true c2)] at q1
      exact val_ge (val_var rfl) (val_lit (n := 1) rfl) _ q1
    · rw [if_neg (of_decide_eq_false c2)] at q1
      exact val_andV (val_eq (val_var rfl) (val_lit (n := 4) rfl)) (val_eq (val_var rfl) (val_lit (n := 255) rfl)) _ q1
theorem G_is_place (T : Txt K mg a) : Def P w K mg base CX0 1 a.B.f_is_place ["kind", "place"] (sp_is_place K a) := by
  obtain ⟨fd, F, b⟩ := T.B.d_is_place
  refine ⟨⟨fd, F.ok sc_is_place (len_is_place K a) (fun cdv A outer s H vs Q E hr h => ⟨t_is_place K a, ?_, pure_is_place T vs H Q E h⟩), b⟩, F.kp⟩
  exact (pss_cons (ps_if (by exact (pt_cmpR op_in_seq (pv 0) (pe_tup (pa_cons (pe_gint T.B.c_GUEST) (pa_cons (pe_gint T.B.c_SHUTS) pa_nil))) (by rfl))) (pss_one (ps_ret (by exact (pe_cmpR op_le (pv 1) (pe_gint T.B.c_MOST_ROOM) (nomark _))))) pss_nil)
    (pss_cons (ps_if (by exact (pt_cmpR op_eq (pv 0) (pe_gint T.B.c_STAFF) (nomark _))) (pss_one (ps_ret (by exact (pe_cmpR op_ge (pv 1) pe_int (nomark _))))) pss_nil)
    (pss_one (ps_ret (by exact (pe_and (pe_cmpR op_eq (pv 0) (pe_gint T.B.c_EMERGENCY) (nomark _)) (pe_one (pe_cmpR op_eq (pv 1) (pe_gint T.B.c_EMERGENCY_PLACE) (nomark _)))))))))
end
def t_is_room_card (K : PySem.W.Frag) (a : Ad) : TS :=
  (tRet (tOp (rIn K false) (tFld K (tVar 0) "kind") (tTup (tCons (tC (.int 1)) (tCons (tC (.int 3)) tNil)))))
section
variable {P : Program} {w : World} {K : PySem.W.Frag} {mg : Str → Option Value} {base : Heap} {a : Ad}
theorem pure_is_room_card (T : Txt K mg a) (vs : List V) (H : Hp) (Q : VK) (E : XK) (h : sp_is_room_card K a vs H Q E) : t_is_room_card K a { nx := fun _ H' => Q .non H', rt := Q } (start ["card"] vs) H := by
  obtain ⟨p, c, rfl, ⟨dx, C⟩, q⟩ := h
  exact in_kinds (val_fld (val_var rfl) C T.B.cl_Card T.B.n_Card_kind lk_Card_kind) q
theorem G_is_room_card (T : Txt K mg a) : Def P w K mg base CX0 1 a.B.f_is_room_card ["card"] (sp_is_room_card K a) := by
  obtain ⟨fd, F, b⟩ := T.B.d_is_room_card
  refine ⟨⟨fd, F.ok sc_is_room_card (len_is_room_card K a) (fun cdv A outer s H vs Q E hr h => ⟨t_is_room_card K a, ?_, pure_is_room_card T vs H Q E h⟩), b⟩, F.kp⟩
  exact (pss_one (ps_ret (by exact (pe_cmpR op_in_seq (pe_fld (pv 0) rfl) (pe_tup (pa_cons (pe_gint T.B.c_GUEST) (pa_cons (pe_gint T.B.c_SHUTS) pa_nil))) (by rfl)))))
end
def t_is_of_zone (K : PySem.W.Frag) (a : Ad) : TS :=
  (tRet (tOp rEq (tOp rAndI (tOp rShrI (tFld K (tVar 0) "place") (tVar 1)) (tC (.int 1))) (tC (.int 1))))
section
variable {P : Program} {w : World} {K : PySem.W.Frag} {mg : Str → Option Value} {base : Heap} {a : Ad}
theorem pure_is_of_zone (T : Txt K mg a) (vs : List V) (H : Hp) (Q : VK) (E : XK) (h : sp_is_of_zone K a vs H Q E) : t_is_of_zone K a { nx := fun _ H' => Q .non H', rt := Q } (start ["card", "zone"] vs) H := by
  obtain ⟨p, z, c, rfl, ⟨dx, C⟩, q⟩ := h
  refine (Val.is (val_eq (val_and (val_shr (val_fld (val_var rfl) C T.B.cl_Card T.B.n_Card_place lk_Card_place) (val_var rfl)) (val_lit (n := 1) rfl)) (val_lit (n := 1) rfl)) ?_ : Val _ _ _ (.bl (decide (c.place / 2 ^ z % 2 = 1)))) _ q
  rw [Nat.and_one_is_mod]
theorem G_is_of_zone (T : Txt K mg a) : Def P w K mg base CX0 1 a.B.f_is_of_zone ["card", "zone"] (sp_is_of_zone K a) := by
  obtain ⟨fd, F, b⟩ := T.B.d_is_of_zone
  refine ⟨⟨fd, F.ok sc_is_of_zone (len_is_of_zone K a) (fun cdv A outer s H vs Q E hr h => ⟨t_is_of_zone K a, ?_, pure_is_of_zone T vs H Q E h⟩), b⟩, F.kp⟩
  exact (pss_one (ps_ret (by exact (pe_cmpR op_eq (pe_op op_and (pe_op op_shr (pe_fld (pv 0) rfl) (pv 1)) pe_int) pe_int (nomark _)))))
end
def t_shown_room (K : PySem.W.Frag) (a : Ad) : TS :=
  (tSeq (tIfS (tTest (tOp rNe (tFld K (tVar 1) "place") (tFld K (tVar 0) "room"))) (tRet (tC (.int (-13)))) tNext)
    (tSeq (tIfS (tTest (tOp rLtI (tFld K (tVar 1) "last") (tFld K (tVar 0) "day"))) (tRet (tC (.int (-34)))) tNext)
    (tSeq (tIfS (tTest (tOp rLtI (tFld K (tVar 1) "number") (tFld K (tVar 0) "number"))) (tRet (tC (.int (-17)))) tNext)
    (tSeq (tIfS (tAnd (tTest (tOp rEq (tFld K (tVar 1) "kind") (tC (.int 1)))) (tB (tFld K (tVar 0) "is_bolted"))) (tRet (tC (.int (-15)))) tNext)
    (tRet (tFld K (tVar 1) "kind"))))))
section
variable {P : Program} {w : World} {K : PySem.W.Frag} {mg : Str → Option Value} {base : Heap} {a : Ad}
theorem pure_shown_room (T : Txt K mg a) (vs : List V) (H : Hp) (Q : VK) (E : XK) (h : sp_shown_room K a vs H Q E) : t_shown_room K a { nx := fun _ H' => Q .non H', rt := Q } (start ["door", "card"] vs) H := by
  obtain ⟨d, p, s, c, rfl, ⟨dx, kk, bb, es, D⟩, ⟨dc, C⟩, q⟩ := h
  have vk : Val (tFld K (tVar 1) "kind") [some (.ref d), some (.ref p)] H (nv c.kind) := val_fld (val_var rfl) C T.B.cl_Card T.B.n_Card_kind lk_Card_kind
  have vp : Val (tFld K (tVar 1) "place") [some (.ref d), some (.ref p)] H (nv c.place) := val_fld (val_var rfl) C T.B.cl_Card T.B.n_Card_place lk_Card_place
  have vn : Val (tFld K (tVar 1) "number") [some (.ref d), some (.ref p)] H (nv c.number) := val_fld (val_var rfl) C T.B.cl_Card T.B.n_Card_number lk_Card_number
  have vl : Val (tFld K (tVar 1) "last") [some (.ref d), some (.ref p)] H (nv c.last) := val_fld (val_var rfl) C T.B.cl_Card T.B.n_Card_last lk_Card_last
  have dr : Val (tFld K (tVar 0) "room") [some (.ref d), some (.ref p)] H (nv s.room) := val_fld (val_var rfl) D.obj T.B.cl_Door T.B.n_Door_room lk_Door_room
  have dd : Val (tFld K (tVar 0) "day") [some (.ref d), some (.ref p)] H (nv s.day) := val_fld (val_var rfl) D.obj T.B.cl_Door T.B.n_Door_day lk_Door_day
  have dn : Val (tFld K (tVar 0) "number") [some (.ref d), some (.ref p)] H (nv s.number) := val_fld (val_var rfl) D.obj T.B.cl_Door T.B.n_Door_number lk_Door_number
  have db : Val (tFld K (tVar 0) "is_bolted") [some (.ref d), some (.ref p)] H (.bl s.bolted) := val_fld (val_var rfl) D.obj T.B.cl_Door T.B.n_Door_is_bolted lk_Door_is_bolted
  unfold ansRoom at q
  refine if_ans (ans_test (val_ne vp dr)) (fun c1 => ?_) fun c1 => ?_
  · rw [if_pos (by simpa using c1)] at q
    exact q
  rw [if_neg (by simpa using c1)] at q
  refine if_ans (ans_test (val_lt vl dd)) (fun c2 => ?_) fun c2 => ?_
  · rw [if_pos (of_decide_eq_true c2)] at q
    exact q
  rw [if_neg (of_decide_eq_false c2)] at q
  refine if_ans (ans_test (val_lt vn dn)) (fun c3 => ?_) fun c3 => ?_
  · rw [if_pos (of_decide_eq_true c3)] at q
    exact q
  rw [if_neg (of_decide_eq_false c3)] at q
  refine if_ans (ans_and2 (ans_test (val_eq vk (val_lit (n := 1) rfl))) (ans_val db)) (fun c4 => ?_) fun c4 => ?_
  · rw [if_pos (by simpa using c4)] at q
    exact q
  rw [if_neg (by simpa using c4)] at q
  exact vk _ q
theorem G_shown_room (T : Txt K mg a) : Def P w K mg base CX0 1 a.B.f_shown_room ["door", "card"] (sp_shown_room K a) := by
  obtain ⟨fd, F, b⟩ := T.B.d_shown_room
  refine ⟨⟨fd, F.ok sc_shown_room (len_shown_room K a) (fun cdv A outer s H vs Q E hr h => ⟨t_shown_room K a, ?_, pure_shown_room T vs H Q E h⟩), b⟩, F.kp⟩
  exact (pss_cons (ps_if (by exact (pt_cmpR op_ne (pe_fld (pv 1) rfl) (pe_fld (pv 0) rfl) (nomark _))) (pss_one (ps_ret (by exact (pe_gint T.B.c_OTHER_PLACE)))) pss_nil)
    (pss_cons (ps_if (by exact (pt_cmpR op_lt (pe_fld (pv 1) rfl) (pe_fld (pv 0) rfl) (nomark _))) (pss_one (ps_ret (by exact (pe_gint T.B.c_OVER)))) pss_nil)
    (pss_cons (ps_if (by exact (pt_cmpR op_lt (pe_fld (pv 1) rfl) (pe_fld (pv 0) rfl) (nomark _))) (pss_one (ps_ret (by exact (pe_gint T.B.c_TOO_OLD)))) pss_nil)
    (pss_cons (ps_if (by exact (PW.pt (pw_and (pt_cmpR op_eq (pe_fld (pv 1) rfl) (pe_gint T.B.c_GUEST) (nomark _)) (pw_and1 (pt_val (pe_fld (pv 0) rfl)))))) (pss_one (ps_ret (by exact (pe_gint T.B.c_BOLTED)))) pss_nil)
    (pss_one (ps_ret (by exact (pe_fld (pv 1) rfl))))))))
end
def t_shown_zone (K : PySem.W.Frag) (a : Ad) : TS :=
  (tSeq (tIfS (tAnd (tTest (tOp rEq (tFld K (tVar 1) "kind") (tC (.int 2)))) (tNot (tB (tCall (sp_is_of_zone K a) [] E0 (tCons (tVar 1) (tCons (tFld K (tVar 0) "zone") tNil)))))) (tRet (tC (.int (-13)))) tNext)
    (tSeq (tIfS (tTest (tOp rLtI (tFld K (tVar 1) "last") (tFld K (tVar 0) "day"))) (tRet (tC (.int (-34)))) tNext)
    (tSeq (tIfS (tTest (tOp rLtI (tFld K (tVar 1) "number") (tFld K (tVar 0) "round"))) (tRet (tC (.int (-17)))) tNext)
    (tSeq (tIfS (tAnd (tTest (tOp rEq (tFld K (tVar 1) "kind") (tC (.int 2)))) (tB (tFld K (tVar 0) "is_bolted"))) (tRet (tC (.int (-15)))) tNext)
    (tRet (tFld K (tVar 1) "kind"))))))
section
variable {P : Program} {w : World} {K : PySem.W.Frag} {mg : Str → Option Value} {base : Heap} {a : Ad}
theorem pure_shown_zone (T : Txt K mg a) (vs : List V) (H : Hp) (Q : VK) (E : XK) (h : sp_shown_zone K a vs H Q E) : t_shown_zone K a { nx := fun _ H' => Q .non H', rt := Q } (start ["door", "card"] vs) H := by
  obtain ⟨d, p, s, c, rfl, ⟨dx, kk, bb, es, D⟩, ⟨dc, C⟩, q⟩ := h
  have vk : Val (tFld K (tVar 1) "kind") [some (.ref d), some (.ref p)] H (nv c.kind) := val_fld (val_var rfl) C T.B.cl_Card T.B.n_Card_kind lk_Card_kind
  have vn : Val (tFld K (tVar 1) "number") [some (.ref d), some (.ref p)] H (nv c.number) := val_fld (val_var rfl) C T.B.cl_Card T.B.n_Card_number lk_Card_number
  have vl : Val (tFld K (tVar 1) "last") [some (.ref d), some (.ref p)] H (nv c.last) := val_fld (val_var rfl) C T.B.cl_Card T.B.n_Card_last lk_Card_last
  have dz : Val (tFld K (tVar 0) "zone") [some (.ref d), some (.ref p)] H (nv s.zone) := val_fld (val_var rfl) D.obj T.B.cl_Door T.B.n_Door_zone lk_Door_zone
  have dd : Val (tFld K (tVar 0) "day") [some (.ref d), some (.ref p)] H (nv s.day) := val_fld (val_var rfl) D.obj T.B.cl_Door T.B.n_Door_day lk_Door_day
  have dn : Val (tFld K (tVar 0) "round") [some (.ref d), some (.ref p)] H (nv s.epoch) := val_fld (val_var rfl) D.obj T.B.cl_Door T.B.n_Door_round lk_Door_round
  have db : Val (tFld K (tVar 0) "is_bolted") [some (.ref d), some (.ref p)] H (.bl s.bolted) := val_fld (val_var rfl) D.obj T.B.cl_Door T.B.n_Door_is_bolted lk_Door_is_bolted
  have vz : Val (tCall (sp_is_of_zone K a) [] E0 (tCons (tVar 1) (tCons (tFld K (tVar 0) "zone") tNil))) [some (.ref d), some (.ref p)] H (.bl (decide (c.place / 2 ^ s.zone % 2 = 1))) := val_call (va_cons (val_var rfl) (va_cons dz va_nil)) fun Q q => ⟨p, s.zone, c, rfl, ⟨dc, C⟩, q⟩
  unfold ansZone at q
  refine if_ans (ans_and2 (ans_test (val_eq vk (val_lit (n := 2) rfl))) (ans_not (ans_val vz))) (fun c1 => ?_) fun c1 => ?_
  · rw [if_pos (by simpa using c1)] at q
    exact q
  rw [if_neg (by simpa using c1)] at q
  refine if_ans (ans_test (val_lt vl dd)) (fun c2 => ?_) fun c2 => ?_
  · rw [if_pos (of_decide_eq_true c2)] at q
    exact q
  rw [if_neg (of_decide_eq_false c2)] at q
  refine if_ans (ans_test (val_lt vn dn)) (fun c3 => ?_) fun c3 => ?_
  · rw [if_pos (of_decide_eq_true c3)] at q
    exact q
  rw [if_neg (of_decide_eq_false c3)] at q
  refine if_ans (ans_and2 (ans_test (val_eq vk (val_lit (n := 2) rfl))) (ans_val db)) (fun c4 => ?_) fun c4 => ?_
  · rw [if_pos (by simpa using c4)] at q
    exact q
  rw [if_neg (by simpa using c4)] at q
  exact vk _ q
theorem G_shown_zone (T : Txt K mg a) : Def P w K mg base CX0 2 a.B.f_shown_zone ["door", "card"] (sp_shown_zone K a) := by
  obtain ⟨fd, F, b⟩ := T.B.d_shown_zone
  have G_is_of_zone := G_is_of_zone (P := P) (w := w) (base := base) T
  refine ⟨⟨fd, F.ok sc_shown_zone (len_shown_zone K a) (fun cdv A outer s H vs Q E hr h => ⟨t_shown_zone K a, ?_, pure_shown_zone T vs H Q E h⟩), b⟩, F.kp⟩
  exact (pss_cons (ps_if (by exact (PW.pt (pw_and (pt_cmpR op_eq (pe_fld (pv 1) rfl) (pe_gint T.B.c_STAFF) (nomark _)) (pw_and1 (pt_not (pt_val (pe_callD G_is_of_zone (hr.mono (by decide)) rfl T.B.g_is_of_zone pass0 (pa_cons (pv 1) (pa_cons (pe_fld (pv 0) rfl) pa_nil))))))))) (pss_one (ps_ret (by exact (pe_gint T.B.c_OTHER_PLACE)))) pss_nil)
    (pss_cons (ps_if (by exact (pt_cmpR op_lt (pe_fld (pv 1) rfl) (pe_fld (pv 0) rfl) (nomark _))) (pss_one (ps_ret (by exact (pe_gint T.B.c_OVER)))) pss_nil)
    (pss_cons (ps_if (by exact (pt_cmpR op_lt (pe_fld (pv 1) rfl) (pe_fld (pv 0) rfl) (nomark _))) (pss_one (ps_ret (by exact (pe_gint T.B.c_TOO_OLD)))) pss_nil)
    (pss_cons (ps_if (by exact (PW.pt (pw_and (pt_cmpR op_eq (pe_fld (pv 1) rfl) (pe_gint T.B.c_STAFF) (nomark _)) (pw_and1 (pt_val (pe_fld (pv 0) rfl)))))) (pss_one (ps_ret (by exact (pe_gint T.B.c_BOLTED)))) pss_nil)
    (pss_one (ps_ret (by exact (pe_fld (pv 1) rfl))))))))
end
def t_shown (K : PySem.W.Frag) (a : Ad) : TS :=
  (tSeq (tIfS (tB (tCall (sp_is_room_card K a) [] E0 (tCons (tVar 1) tNil))) (tRet (tCall (sp_shown_room K a) [] E0 (tCons (tVar 0) (tCons (tVar 1) tNil)))) tNext)
    (tRet (tCall (sp_shown_zone K a) [] E0 (tCons (tVar 0) (tCons (tVar 1) tNil)))))
section
variable {P : Program} {w : World} {K : PySem.W.Frag} {mg : Str → Option Value} {base : Heap} {a : Ad}
theorem pure_shown (T : Txt K mg a) (vs : List V) (H : Hp) (Q : VK) (E : XK) (h : sp_shown K a vs H Q E) : t_shown K a { nx := fun _ H' => Q .non H', rt := Q } (start ["door", "card"] vs) H := by
  obtain ⟨d, p, s, c, rfl, D, C, q⟩ := h
  unfold ans at q
  refine call_go (va_cons (val_var rfl) va_nil) ⟨p, c, rfl, C, fun H1 s1 => ⟨_, rfl, ?_⟩⟩
  have q1 := q H1 s1
  by_cases hr : isRoom c = true
  · rw [if_pos hr] at q1
    rw [hr]
    refine iteT ?_
    exact call_go (va_cons (val_var rfl) (va_cons (val_var rfl) va_nil)) ⟨d, p, s, c, rfl, D.same s1, C.same s1, q1⟩
  · rw [if_neg hr] at q1
    rw [Bool.eq_false_iff.mpr hr]
    refine iteF ?_
    exact call_go (va_cons (val_var rfl) (va_cons (val_var rfl) va_nil)) ⟨d, p, s, c, rfl, D.same s1, C.same s1, q1⟩
theorem G_shown (T : Txt K mg a) : Def P w K mg base CX0 3 a.B.f_shown ["door", "card"] (sp_shown K a) := by
  obtain ⟨fd, F, b⟩ := T.B.d_shown
  have G_is_room_card := G_is_room_card (P := P) (w := w) (base := base) T
  have G_shown_room := G_shown_room (P := P) (w := w) (base := base) T
  have G_shown_zone := G_shown_zone (P := P) (w := w) (base := base) T
  refine ⟨⟨fd, F.ok sc_shown (len_shown K a) (fun cdv A outer s H vs Q E hr h => ⟨t_shown K a, ?_, pure_shown T vs H Q E h⟩), b⟩, F.kp⟩
  exact (pss_cons (ps_if (by exact (pt_val (pe_callD G_is_room_card (hr.mono (by decide)) rfl T.B.g_is_room_card pass0 (pa_cons (pv 1) pa_nil)))) (pss_one (ps_ret (by exact (pe_callD G_shown_room (hr.mono (by decide)) rfl T.B.g_shown_room pass0 (pa_cons (pv 0) (pa_cons (pv 1) pa_nil)))))) pss_nil)
    (pss_one (ps_ret (by exact (pe_callD G_shown_zone (hr.mono (by decide)) rfl T.B.g_shown_zone pass0 (pa_cons (pv 0) (pa_cons (pv 1) pa_nil)))))))
end
def t_learn (K : PySem.W.Frag) (a : Ad) : TS :=
  (tSeq (tIfS (tB (tCall (sp_is_room_card K a) [] E0 (tCons (tVar 1) tNil))) (sFld K (tVar 0) (tFld K (tVar 1) "number") "number") (sFld K (tVar 0) (tFld K (tVar 1) "number") "round"))
    (tSeq (tIfS (tTest (tOp rEq (tFld K (tVar 1) "kind") (tC (.int 4)))) (sFld K (tVar 0) (tC (.bl false)) "is_bolted") tNext)
    (tSeq (tAsg (tMake a.B.c_Entry (sp_Entry_init K a) [] E0 (tCons (tFld K (tVar 1) "kind") (tCons (tFld K (tVar 1) "number") (tCons (tFld K (tVar 1) "serial") (tCons (tFld K (tVar 0) "day") tNil))))) (gName 2))
    (sFld K (tVar 0) (tSl (rSlL K) (tOp rCat (tLst (tCons (tVar 2) tNil)) (tFld K (tVar 0) "book")) tNoPart (tPart (tC (.int 16)))) "book"))))
section
variable {P : Program} {w : World} {K : PySem.W.Frag} {mg : Str → Option Value} {base : Heap} {a : Ad}
theorem ents_new {a : Ad} {H : Hp} {e : Addr} {es : List Addr} {b : Ks346.Entry} {bs : List Ks346.Entry} (h : EntAt a H e b) (hs : Ents a H es bs) : Ents a H ((e :: es).take 16) ((b :: bs).take 16) := Ents.take 16 (es := e :: es) (bs := b :: bs) ⟨h, hs⟩
theorem door_num {K : PySem.W.Frag} {mg : Str → Option Value} {a : Ad} {H H0 : Hp} {d dx kk bb : Addr} {es : List Addr} {s : Ks346.Abs} {σ : L2.St} {to te : TE} {n : Nat} {D : Ends} (T : Txt K mg a) (I : DoorIn a H d dx kk bb es s) (k : Keep H0 H d) (ho : Val to σ H (.ref d)) (hv : Val te σ H (nv n))
    (q : ∀ H', DoorIn a H' d dx kk bb es { s with number := n } → Keep H0 H' d → D.nx σ H') : sFld K to te "number" D σ H := fld_go I.obj ho hv T.B.cl_Door T.B.n_Door_number (by show 8 < 1000; decide) (by
  rw [put_Door_number]
  exact q _ (DoorIn.put (s' := { s with number := n }) I rfl rfl) k.upd)
theorem door_round {K : PySem.W.Frag} {mg : Str → Option Value} {a : Ad} {H H0 : Hp} {d dx kk bb : Addr} {es : List Addr} {s : Ks346.Abs} {σ : L2.St} {to te : TE} {n : Nat} {D : Ends} (T : Txt K mg a) (I : DoorIn a H d dx kk bb es s) (k : Keep H0 H d) (ho : Val to σ H (.ref d)) (hv : Val te σ H (nv n))
    (q : ∀ H', DoorIn a H' d dx kk bb es { s with epoch := n } → Keep H0 H' d → D.nx σ H') : sFld K to te "round" D σ H := fld_go I.obj ho hv T.B.cl_Door T.B.n_Door_round (by show 8 < 1000; decide) (by
  rw [put_Door_round]
  exact q _ (DoorIn.put (s' := { s with epoch := n }) I rfl rfl) k.upd)
theorem door_bolted {K : PySem.W.Frag} {mg : Str → Option Value} {a : Ad} {H H0 : Hp} {d dx kk bb : Addr} {es : List Addr} {s : Ks346.Abs} {σ : L2.St} {to te : TE} {n : Bool} {D : Ends} (T : Txt K mg a) (I : DoorIn a H d dx kk bb es s) (k : Keep H0 H d) (ho : Val to σ H (.ref d)) (hv : Val te σ H (.bl n))
    (q : ∀ H', DoorIn a H' d dx kk bb es { s with bolted := n } → Keep H0 H' d → D.nx σ H') : sFld K to te "is_bolted" D σ H := fld_go I.obj ho hv T.B.cl_Door T.B.n_Door_is_bolted (by show 8 < 1000; decide) (by
  rw [put_Door_is_bolted]
  exact q _ (DoorIn.put (s' := { s with bolted := n }) I rfl rfl) k.upd)
/-- the last two statements: the entry, the book -/
theorem learn_end {K : PySem.W.Frag} {mg : Str → Option Value} {a : Ad} {H H0 : Hp} {f d dx kk bb p dc : Addr} {es : List Addr} {s : Ks346.Abs} {c : Ks345.Card} {Q : VK} (T : Txt K mg a) (I : DoorIn a H d dx kk bb es s) (C : CardIn a H p dc c) (k : Keep H0 H d)
    (av : kk ≠ f) (hf : LstAt H f) (q : ∀ H', DoorAv a H' f d (Ks346.wrote s c) → Keep H0 H' d → Q .non H') :
    (tSeq (tAsg (tMake a.B.c_Entry (sp_Entry_init K a) [] E0 (tCons (tFld K (tVar 1) "kind") (tCons (tFld K (tVar 1) "number") (tCons (tFld K (tVar 1) "serial") (tCons (tFld K (tVar 0) "day") tNil))))) (gName 2))
    (sFld K (tVar 0) (tSl (rSlL K) (tOp rCat (tLst (tCons (tVar 2) tNil)) (tFld K (tVar 0) "book")) tNoPart (tPart (tC (.int 16)))) "book")) { nx := fun _ H' => Q .non H', rt := Q } [some (.ref d), some (.ref p), none] H := by
  have vk : Val (tFld K (tVar 1) "kind") [some (.ref d), some (.ref p), none] H (nv c.kind) := val_fld (val_var rfl) C T.B.cl_Card T.B.n_Card_kind lk_Card_kind
  have vn : Val (tFld K (tVar 1) "number") [some (.ref d), some (.ref p), none] H (nv c.number) := val_fld (val_var rfl) C T.B.cl_Card T.B.n_Card_number lk_Card_number
  have vs : Val (tFld K (tVar 1) "serial") [some (.ref d), some (.ref p), none] H (nv c.serial) := val_fld (val_var rfl) C T.B.cl_Card T.B.n_Card_serial lk_Card_serial
  have vd : Val (tFld K (tVar 0) "day") [some (.ref d), some (.ref p), none] H (nv s.day) := val_fld (val_var rfl) I.obj T.B.cl_Door T.B.n_Door_day lk_Door_day
  refine asg_go (make_go (va_cons vk (va_cons vn (va_cons vs (va_cons vd va_nil)))) fun x dx1 nx nd ne => ⟨x, dx1, _, _, _, _, rfl, upd_same, fun H1 E1 k1 => ⟨rfl, ?_⟩⟩)
  have s1 := made_same nx nd k1
  have I1 := I.same s1
  refine ⟨_, rfl, by show 1 ≤ sizeLine; decide, fun l nl => ?_⟩
  have s2 : Same H1 (L2.upd H1 l (.lst [.ref x])) := Same.upd0 nl
  have hl : L2.upd H1 l (.lst [.ref x]) l = some (.lst [.ref x]) := upd_same
  have E2 := E1.same s2
  have I2 := I1.same s2
  have s12 := s1.trans s2
  generalize L2.upd H1 l (.lst [.ref x]) = H2 at hl E2 I2 s12
  have vb : Val (tFld K (tVar 0) "book") [some (.ref d), some (.ref p), some (.ref x)] H2 (.ref bb) := val_fld (val_var rfl) I2.obj T.B.cl_Door T.B.n_Door_book lk_Door_book
  refine vb _ ?_
  have hlen : (es.map V.ref).length ≤ 16 := by
    rw [List.length_map, I2.ents.length]
    exact I2.few
  refine ⟨l, bb, _, _, rfl, rfl, hl, I2.book, by show 1 + _ ≤ sizeLine; exact Nat.le_trans (Nat.add_le_add_left hlen 1) (by decide), fun m nm => ?_⟩
  have s3 : Same H2 (L2.upd H2 m (.lst ([.ref x] ++ es.map V.ref))) := Same.upd0 nm
  have hm : L2.upd H2 m (.lst ([.ref x] ++ es.map V.ref)) m = some (.lst ([.ref x] ++ es.map V.ref)) := upd_same
  have E3 := E2.same s3
  have I3 := I2.same s3
  have s13 := s12.trans s3
  generalize L2.upd H2 m (.lst ([.ref x] ++ es.map V.ref)) = H3 at hm E3 I3 s13
  refine ⟨16, rfl, m, _, rfl, SqL.of hm, fun b nb => ?_⟩
  have ec : cutV ([.ref x] ++ es.map V.ref) none (some 16) = ((x :: es).take 16).map V.ref := by
    rw [List.map_take]
    exact cut_most (n := 16)
  rw [ec]
  have nbf : b ≠ f := (hf.same s13).ne nb
  have s4 : Same H3 (L2.upd H3 b (.lst (((x :: es).take 16).map V.ref))) := Same.upd0 nb
  have hb : L2.upd H3 b (.lst (((x :: es).take 16).map V.ref)) b = some (.lst (((x :: es).take 16).map V.ref)) := upd_same
  have E4 := E3.same s4
  have I4 := I3.same s4
  have s14 := s13.trans s4
  generalize L2.upd H3 b (.lst (((x :: es).take 16).map V.ref)) = H4 at hb E4 I4 s14
  refine fld_go (te := tC (.ref b)) I4.obj (val_var rfl) val_c T.B.cl_Door T.B.n_Door_book (by show 8 < 1000; decide) ?_
  rw [put_Door_book]
  have k5 : Keep H4 (L2.upd H4 d (.ins a.B.c_Door dx (F_Door (nv s.room) (nv s.zone) (.ref kk) (nv s.day) (nv s.number) (nv s.epoch) (.bl s.bolted) (.ref b)))) d := (Keep.refl H4 d).upd
  refine q _ ⟨dx, kk, b, (x :: es).take 16, ⟨upd_same, k5 _ _ I4.key (lst_ins I4.key I4.obj), k5 _ _ hb (lst_ins hb I4.obj), ?_, ?_⟩, av, nbf⟩ ((k.trans (Keep.of s14)).trans k5)
  · exact Ents.imp (fun _ _ h => h.keep k5 I4.obj (by rw [len_Door]; decide)) (ents_new E4 I4.ents)
  · show ((_ :: s.book).take 16).length ≤ 16
    rw [List.length_take]
    exact Nat.min_le_left _ _
theorem pure_learn (T : Txt K mg a) (vs : List V) (H : Hp) (Q : VK) (E : XK) (h : sp_learn K a vs H Q E) : t_learn K a { nx := fun _ H' => Q .non H', rt := Q } (start ["door", "card", "entry"] vs) H := by
  obtain ⟨d, p, f, s, c, rfl, ⟨dx, kk, bb, es, I, av, _⟩, ⟨dc, C⟩, hf, q⟩ := h
  -- the number or the round
  have part2 : ∀ (s1 : Ks346.Abs) (H1 : Hp), s1 = taught s c → DoorIn a H1 d dx kk bb es s1 → CardIn a H1 p dc c → Keep H H1 d → LstAt H1 f →
      (tSeq (tIfS (tTest (tOp rEq (tFld K (tVar 1) "kind") (tC (.int 4)))) (sFld K (tVar 0) (tC (.bl false)) "is_bolted") tNext)
        (tSeq (tAsg (tMake a.B.c_Entry (sp_Entry_init K a) [] E0 (tCons (tFld K (tVar 1) "kind") (tCons (tFld K (tVar 1) "number") (tCons (tFld K (tVar 1) "serial") (tCons (tFld K (tVar 0) "day") tNil))))) (gName 2))
        (sFld K (tVar 0) (tSl (rSlL K) (tOp rCat (tLst (tCons (tVar 2) tNil)) (tFld K (tVar 0) "book")) tNoPart (tPart (tC (.int 16)))) "book"))) { nx := fun _ H' => Q .non H', rt := Q } [some (.ref d), some (.ref p), none] H1 := by
    intro s1 H1 e1 I1 C1 k1 f1
    have vk : Val (tFld K (tVar 1) "kind") [some (.ref d), some (.ref p), none] H1 (nv c.kind) := val_fld (val_var rfl) C1 T.B.cl_Card T.B.n_Card_kind lk_Card_kind
    refine if_ans (ans_test (val_eq vk (val_lit (n := 4) rfl))) (fun c4 => ?_) fun c4 => ?_
    · refine door_bolted (H0 := H1) T I1 (Keep.refl H1 d) (val_var rfl) val_c fun H2 I2 k2 => ?_
      refine learn_end T I2 (C1.keep k2 I1.obj (by rw [len_Door]; decide)) (k1.trans k2) av (f1.keep k2 I1.obj) fun H3 D3 k3 => q H3 ?_ k3
      unfold learned unbolted
      rw [if_pos (of_decide_eq_true c4), ← e1]
      exact D3
    · refine learn_end T I1 C1 k1 av f1 fun H3 D3 k3 => q H3 ?_ k3
      unfold learned unbolted
      rw [if_neg (of_decide_eq_false c4), ← e1]
      exact D3
  refine call_go (va_cons (val_var rfl) va_nil) ⟨p, c, rfl, ⟨dc, C⟩, fun H1 s1 => ⟨_, rfl, ?_⟩⟩
  have I1 := I.same s1
  have C1 : CardIn a H1 p dc c := s1 _ _ C
  have vn : Val (tFld K (tVar 1) "number") [some (.ref d), some (.ref p), none] H1 (nv c.number) := val_fld (val_var rfl) C1 T.B.cl_Card T.B.n_Card_number lk_Card_number
  cases hr : isRoom c with
  | true =>
    refine iteT ?_
    refine door_num (H0 := H1) T I1 (Keep.refl H1 d) (val_var rfl) vn fun H2 I2 k2 => ?_
    refine part2 _ H2 ?_ I2 (C1.keep k2 I1.obj (by rw [len_Door]; decide)) ((Keep.of s1).trans k2) ((hf.same s1).keep k2 I1.obj)
    unfold taught
    rw [if_pos hr]
  | false =>
    refine iteF ?_
    refine door_round (H0 := H1) T I1 (Keep.refl H1 d) (val_var rfl) vn fun H2 I2 k2 => ?_
    refine part2 _ H2 ?_ I2 (C1.keep k2 I1.obj (by rw [len_Door]; decide)) ((Keep.of s1).trans k2) ((hf.same s1).keep k2 I1.obj)
    unfold taught
    rw [hr, if_neg (by decide)]
theorem G_learn (T : Txt K mg a) : Def P w K mg base CX0 3 a.B.f_learn ["door", "card"] (sp_learn K a) := by
  obtain ⟨fd, F, b⟩ := T.B.d_learn
  have G_Entry_init := G_Entry_init (P := P) (w := w) (base := base) T
  have G_is_room_card := G_is_room_card (P := P) (w := w) (base := base) T
  refine ⟨⟨fd, F.ok sc_learn (len_learn K a) (fun cdv A outer s H vs Q E hr h => ⟨t_learn K a, ?_, pure_learn T vs H Q E h⟩), b⟩, F.kp⟩
  exact (pss_cons (ps_if (by exact (pt_val (pe_callD G_is_room_card (hr.mono (by decide)) rfl T.B.g_is_room_card pass0 (pa_cons (pv 1) pa_nil)))) (pss_one (ps_fld (pv 0) (by exact (pe_fld (pv 1) rfl)) rfl)) (pss_one (ps_fld (pv 0) (by exact (pe_fld (pv 1) rfl)) rfl)))
    (pss_cons (ps_if (by exact (pt_cmpR op_eq (pe_fld (pv 1) rfl) (pe_gint T.B.c_EMERGENCY) (nomark _))) (pss_one (ps_fld (pv 0) (by exact pe_bl) rfl)) pss_nil)
    (pss_cons (ps_set (i := 2) sc_learn.nd rfl (Or.inl rfl) (by exact (pe_makeD T.B.mk_Entry G_Entry_init (hr.mono (by decide)) rfl T.B.g_Entry pass0 (pa_cons (pe_fld (pv 1) rfl) (pa_cons (pe_fld (pv 1) rfl) (pa_cons (pe_fld (pv 1) rfl) (pa_cons (pe_fld (pv 0) rfl) pa_nil)))))))
    (pss_one (ps_fld (pv 0) (by exact (pe_slice sl_list (pe_op op_cat (pe_lst (pa_cons (pv 2) pa_nil)) (pe_fld (pv 0) rfl)) po_none (po_some (pe_gint T.B.c_MOST_BOOK)))) rfl)))))
end
def t_card_of (K : PySem.W.Frag) (a : Ad) : TS :=
  (tSeq (tIfS (tOr (tTest (tOp rNe (tCB (rLen K) (tCons (tVar 1) tNil)) (tC (.int 16)))) (tNot (tB (tCall (sp_is_place K a) [] E0 (tCons (tOp (rIxL K) (tVar 1) (tC (.int 0))) (tCons (tOp (rIxL K) (tVar 1) (tC (.int 1))) tNil)))))) (tRet (tC .non)) tNext)
    (tSeq (tIfS (tTest (tOp (rNeD K) (tCall (sp_tag_of K a) [] E0 (tCons (tFld K (tVar 0) "key") (tCons (tSl (rSlL K) (tVar 1) tNoPart (tPart (tC (.int 8)))) tNil))) (tSl (rSlL K) (tVar 1) (tPart (tC (.int 8))) tNoPart))) (tRet (tC .non)) tNext)
    (tRet (tMake a.B.c_Card (sp_Card_init K a) [] E0 (tCons (tVar 1) tNil)))))
section
variable {P : Program} {w : World} {K : PySem.W.Frag} {mg : Str → Option Value} {base : Heap} {a : Ad}
theorem isCard_short {key row : List Nat} (c : ¬ row.length = 16) : isCard key row = false := by
  unfold isCard
  rw [decide_eq_false c, Bool.false_and]
theorem isCard_odd {key row : List Nat} (p : isPlace (row.getD 0 0) (row.getD 1 0) = false) : isCard key row = false := by
  unfold isCard
  rw [p, Bool.false_and, Bool.and_false]
theorem isCard_tag {key row : List Nat} (c : row.length = 16) (p : isPlace (row.getD 0 0) (row.getD 1 0) = true) : isCard key row = decide (Ks345.bytes 8 (Ks345.tag key (row.take 8)) = row.drop 8) := by
  unfold isCard
  rw [decide_eq_true c, p, Bool.true_and, Bool.true_and]
theorem pure_card_of (T : Txt K mg a) (vs : List V) (H : Hp) (Q : VK) (E : XK) (h : sp_card_of K a vs H Q E) : t_card_of K a { nx := fun _ H' => Q .non H', rt := Q } (start ["door", "row"] vs) H := by
  obtain ⟨d, r, s, row, rfl, ⟨dx, kk, bb, es, D⟩, hr, qN, qY⟩ := h
  refine (val_ne (val_len (val_var rfl) (SqL.of hr)) (val_lit (n := 16) rfl)) _ ⟨_, rfl, ?_⟩
  rw [L_length]
  by_cases c : row.length = 16
  · rw [decide_eq_true c]
    refine iteF ?_
    refine call_go (va_cons (val_ixL (val_var rfl) (val_lit (n := 0) rfl) (SqL.of hr) (L_get (getD_some (by omega)))) (va_cons (val_ixL (val_var rfl) (val_lit (n := 1) rfl) (SqL.of hr) (L_get (getD_some (by omega)))) va_nil)) ⟨_, _, rfl, fun H1 s1 => ⟨_, rfl, ?_⟩⟩
    cases p : isPlace (row.getD 0 0) (row.getD 1 0) with
    | false => exact iteT (qN (isCard_odd p) H1 s1)
    | true =>
      refine iteF ?_
      have e := isCard_tag (key := s.key) c p
      have D1 := D.same s1
      have hr1 := s1 _ _ hr
      have vk : Val (tFld K (tVar 0) "key") [some (.ref d), some (.ref r)] H1 (.ref kk) := val_fld (val_var rfl) D1.obj T.B.cl_Door T.B.n_Door_key lk_Door_key
      refine next_go (if_go (test_go (op_go (arg2_go (vk _ ?_)))))
      refine sl_to (n := 8) rfl (val_var rfl) (SqL.of hr1) fun r1 n1 => ?_
      have s2 := Same.new (o := .lst (L (row.take 8))) s1 n1
      refine ⟨kk, r1, s.key, row.take 8, rfl, SqL.of ((Same.upd0 n1) _ _ D1.key), SqL.of upd_same, by rw [List.length_take]; omega, fun p3 H3 n3 s3 h3 => ?_⟩
      have s4 := s2.trans s3
      refine sl_from (n := 8) (val_var rfl) (val_lit rfl) (SqL.of (s4 _ _ hr)) fun r5 n5 => ?_
      have s5 := Same.new (o := .lst (L (row.drop 8))) s4 n5
      refine ⟨_, _, dp_nats (SqL.of ((Same.upd0 n5) _ _ h3)), dp_nats (SqL.of upd_same), shaped_nats _, shaped_nats _, _, rfl, ?_⟩
      rw [eqv_nats, ← e]
      cases z : isCard s.key row with
      | false => exact iteT (qN z _ s5)
      | true =>
        refine iteF ?_
        refine make_go (va_cons (val_var rfl) va_nil) fun x dx' nx nd ne => ?_
        have k6 : Same (L2.upd H3 r5 (.lst (L (row.drop 8)))) _ := Same.new (o := .ins a.B.c_Card dx' []) (Same.new (o := .own x) (Same.refl _) nd) (by rw [upd_ne (Ne.symm ne)]; exact nx)
        refine ⟨x, dx', r, row, rfl, upd_same, SqL.of (k6 _ _ (s5 _ _ hr)), c, fun H7 C7 k7 => ⟨rfl, ?_⟩⟩
        exact qY z x H7 (s5.trans (made_same nx nd k7)) (s5.free nx) C7
  · rw [decide_eq_false c]
    exact iteT (iteT (qN (isCard_short c) H (Same.refl H)))
theorem G_card_of (T : Txt K mg a) : Def P w K mg base CX0 6 a.B.f_card_of ["door", "row"] (sp_card_of K a) := by
  obtain ⟨fd, F, b⟩ := T.B.d_card_of
  have G_Card_init := G_Card_init (P := P) (w := w) (base := base) T
  have G_is_place := G_is_place (P := P) (w := w) (base := base) T
  have G_tag_of := G_tag_of (P := P) (w := w) (base := base) T
  refine ⟨⟨fd, F.ok sc_card_of (len_card_of K a) (fun cdv A outer s H vs Q E hr h => ⟨t_card_of K a, ?_, pure_card_of T vs H Q E h⟩), b⟩, F.kp⟩
  exact (pss_cons (ps_if (by exact (PW.pt (pw_or (pt_cmpR op_ne (pe_callB call_len_seq (by rfl) T.A.n_len PySem.boot_len (pa_cons (pv 1) pa_nil)) (pe_gint T.B.c_CARD_BYTES) (nomark _)) (pw_or1 (pt_not (pt_val (pe_callD G_is_place (hr.mono (by decide)) rfl T.B.g_is_place pass0 (pa_cons (pe_ix ix_list (pv 1) pe_int (fun _ _ => rfl)) (pa_cons (pe_ix ix_list (pv 1) pe_int (fun _ _ => rfl)) pa_nil))))))))) (pss_one (ps_ret (by exact pe_non))) pss_nil)
    (pss_cons (ps_if (by exact (pt_cmpR (op_neD hr.units) (pe_callD G_tag_of (hr.mono (by decide)) rfl T.A.g_tag_of pass0 (pa_cons (pe_fld (pv 0) rfl) (pa_cons (pe_slice sl_list (pv 1) po_none (po_some (pe_gint T.B.c_SIGNED))) pa_nil))) (pe_slice sl_list (pv 1) (po_some (pe_gint T.B.c_SIGNED)) po_none) (nomark _))) (pss_one (ps_ret (by exact pe_non))) pss_nil)
    (pss_one (ps_ret (by exact (pe_makeD T.B.mk_Card G_Card_init (hr.mono (by decide)) rfl T.B.g_Card pass0 (pa_cons (pv 1) pa_nil)))))))
end
def t_Box_init (K : PySem.W.Frag) (a : Ad) : TS :=
  (sFld K (tVar 0) (tC .non) "door")
section
variable {P : Program} {w : World} {K : PySem.W.Frag} {mg : Str → Option Value} {base : Heap} {a : Ad}
theorem pure_Box_init (T : Txt K mg a) (vs : List V) (H : Hp) (Q : VK) (E : XK) (h : sp_Box_init K a vs H Q E) : t_Box_init K a { nx := fun _ H' => Q .non H', rt := Q } (start ["self"] vs) H := by
  obtain ⟨p, dx, rfl, hp, q⟩ := h
  exact fld_mk hp (Keep.refl H p) (val_var rfl) val_c T.C.cl_Box T.C.n_Box_door (by show 0 < 1000; decide) mk_Box_0 fun H1 h1 k1 => q H1 ⟨dx, h1⟩ k1
theorem G_Box_init (T : Txt K mg a) : Def P w K mg base CX0 1 a.C.f_Box_init ["self"] (sp_Box_init K a) := by
  obtain ⟨fd, F, b⟩ := T.C.d_Box_init
  refine ⟨⟨fd, F.ok sc_Box_init (len_Box_init K a) (fun cdv A outer s H vs Q E hr h => ⟨t_Box_init K a, ?_, pure_Box_init T vs H Q E h⟩), b⟩, F.kp⟩
  exact (pss_one (ps_fld (pv 0) (by exact pe_non) rfl))
end
def t_Tape_init (K : PySem.W.Frag) (a : Ad) : TS :=
  (tSeq (sFld K (tVar 0) (tCB (rList K) (tCons (tVar 1) tNil)) "numbers")
    (sFld K (tVar 0) (tC (.int 0)) "at"))
section
variable {P : Program} {w : World} {K : PySem.W.Frag} {mg : Str → Option Value} {base : Heap} {a : Ad}
theorem pure_Tape_init (T : Txt K mg a) (vs : List V) (H : Hp) (Q : VK) (E : XK) (h : sp_Tape_init K a vs H Q E) : t_Tape_init K a { nx := fun _ H' => Q .non H', rt := Q } (start ["self", "numbers"] vs) H := by
  obtain ⟨p, dx, r, ns, rfl, hp, hr, q⟩ := h
  refine seq_go (fldc_go ⟨_, rfl, r, L ns, rfl, .inl hr, fun l nl => ?_⟩)
  have s1 : Same H (L2.upd H l (.lst (L ns))) := Same.upd0 nl
  have hl : L2.upd H l (.lst (L ns)) l = some (.lst (L ns)) := upd_same
  have h0 := s1 _ _ hp
  refine fld_mk (te := tC (.ref l)) h0 (Keep.refl _ p) (val_var rfl) val_c T.C.cl_Tape T.C.n_Tape_numbers (by show 0 < 1000; decide) mk_Tape_0 fun H1 h1 k1 => ?_
  refine fld_mk h1 k1 (val_var rfl) (val_lit (n := 0) rfl) T.C.cl_Tape T.C.n_Tape_at (by show 1 < 1000; decide) mk_Tape_1 fun H2 h2 k2 => ?_
  exact q H2 ⟨dx, l, h2, k2 _ _ hl (lst_ins hl h0)⟩ ((Keep.of s1).trans k2)
theorem G_Tape_init (T : Txt K mg a) : Def P w K mg base CX0 1 a.C.f_Tape_init ["self", "numbers"] (sp_Tape_init K a) := by
  obtain ⟨fd, F, b⟩ := T.C.d_Tape_init
  refine ⟨⟨fd, F.ok sc_Tape_init (len_Tape_init K a) (fun cdv A outer s H vs Q E hr h => ⟨t_Tape_init K a, ?_, pure_Tape_init T vs H Q E h⟩), b⟩, F.kp⟩
  exact (pss_cons (ps_fld (pv 0) (by exact (pe_callTy call_list_of (by rfl) T.A.n_list (by decide +kernel) (pa_cons (pv 1) pa_nil))) rfl)
    (pss_one (ps_fld (pv 0) (by exact pe_int) rfl)))
end
def t_Tape_is_done (K : PySem.W.Frag) (a : Ad) : TS :=
  (tRet (tOp rGeI (tFld K (tVar 0) "at") (tCB (rLen K) (tCons (tFld K (tVar 0) "numbers") tNil))))
section
variable {P : Program} {w : World} {K : PySem.W.Frag} {mg : Str → Option Value} {base : Heap} {a : Ad}
theorem pure_Tape_is_done (T : Txt K mg a) (vs : List V) (H : Hp) (Q : VK) (E : XK) (h : sp_Tape_is_done K a vs H Q E) : t_Tape_is_done K a { nx := fun _ H' => Q .non H', rt := Q } (start ["self"] vs) H := by
  obtain ⟨t, ns, k, rfl, ⟨dx, l, I⟩, q⟩ := h
  have va : Val (tFld K (tVar 0) "at") [some (.ref t)] H (nv k) := val_fld (val_var rfl) I.obj T.C.cl_Tape T.C.n_Tape_at lk_Tape_at
  have vn : Val (tFld K (tVar 0) "numbers") [some (.ref t)] H (.ref l) := val_fld (val_var rfl) I.obj T.C.cl_Tape T.C.n_Tape_numbers lk_Tape_numbers
  exact ret_go (Val.is (val_ge va (val_len vn (SqL.of I.lst))) (by rw [L_length]) _ q)
theorem G_Tape_is_done (T : Txt K mg a) : Def P w K mg base CX0 1 a.C.f_Tape_is_done ["self"] (sp_Tape_is_done K a) := by
  obtain ⟨fd, F, b⟩ := T.C.d_Tape_is_done
  refine ⟨⟨fd, F.ok sc_Tape_is_done (len_Tape_is_done K a) (fun cdv A outer s H vs Q E hr h => ⟨t_Tape_is_done K a, ?_, pure_Tape_is_done T vs H Q E h⟩), b⟩, F.kp⟩
  exact (pss_one (ps_ret (by exact (pe_cmpR op_ge (pe_fld (pv 0) rfl) (pe_callB call_len_seq (by rfl) T.A.n_len PySem.boot_len (pa_cons (pe_fld (pv 0) rfl) pa_nil)) (nomark _)))))
end
def t_Tape_take_many (K : PySem.W.Frag) (a : Ad) : TS :=
  (tSeq (sFldAug K (tVar 0) (tVar 1) L2.rAdd "at")
    (tRet (tSl (rSlL K) (tFld K (tVar 0) "numbers") (tPart (tOp rSubI (tFld K (tVar 0) "at") (tVar 1))) (tPart (tFld K (tVar 0) "at")))))
section
variable {P : Program} {w : World} {K : PySem.W.Frag} {mg : Str → Option Value} {base : Heap} {a : Ad}
theorem pure_Tape_take_many (T : Txt K mg a) (vs : List V) (H : Hp) (Q : VK) (E : XK) (h : sp_Tape_take_many K a vs H Q E) : t_Tape_take_many K a { nx := fun _ H' => Q .non H', rt := Q } (start ["self", "many"] vs) H := by
  obtain ⟨t, dx, l, m, ns, k, rfl, I, hl, q⟩ := h
  refine ⟨_, rfl, t, _, dx, _, _, rfl, I.obj, T.C.cl_Tape, T.C.n_Tape_at, lk_Tape_at, _, rfl, _, _, rfl, rfl, dx, _, I.obj, by show 2 < 1000; decide, ?_⟩
  have e : ((k : Int) + (m : Int)) = ((k + m : Nat) : Int) := by omega
  rw [put_Tape_at, e]
  have k1 : Keep H (L2.upd H t (.ins a.C.c_Tape dx (F_Tape (.ref l) (nv (k + m))))) t := (Keep.refl H t).upd
  have h1 : L2.upd H t (.ins a.C.c_Tape dx (F_Tape (.ref l) (nv (k + m)))) t = some (.ins a.C.c_Tape dx (F_Tape (.ref l) (nv (k + m)))) := upd_same
  have l1 := k1 _ _ I.lst (lst_ins I.lst I.obj)
  generalize L2.upd H t (.ins a.C.c_Tape dx (F_Tape (.ref l) (nv (k + m)))) = H1 at k1 h1 l1
  have va : Val (tFld K (tVar 0) "at") [some (.ref t), some (nv m)] H1 (nv (k + m)) := val_fld (val_var rfl) h1 T.C.cl_Tape T.C.n_Tape_at lk_Tape_at
  have vn : Val (tFld K (tVar 0) "numbers") [some (.ref t), some (nv m)] H1 (.ref l) := val_fld (val_var rfl) h1 T.C.cl_Tape T.C.n_Tape_numbers lk_Tape_numbers
  refine ret_go (sl_mid (i := k + m - m) (j := k + m) vn (val_sub va (val_var rfl) (by omega)) va (SqL.of l1) (by omega) hl fun p np => ?_)
  have e2 : (ns.drop (k + m - m)).take (k + m - (k + m - m)) = (ns.drop k).take m := by
    rw [Nat.add_sub_cancel, Nat.add_sub_cancel_left]
  rw [e2]
  have s2 : Same H1 (L2.upd H1 p (.lst (L ((ns.drop k).take m)))) := Same.upd0 np
  exact q p _ (k1.free h1 np) ⟨s2 _ _ h1, s2 _ _ l1⟩ (k1.trans (Keep.of s2)) upd_same
theorem G_Tape_take_many (T : Txt K mg a) : Def P w K mg base CX0 1 a.C.f_Tape_take_many ["self", "many"] (sp_Tape_take_many K a) := by
  obtain ⟨fd, F, b⟩ := T.C.d_Tape_take_many
  refine ⟨⟨fd, F.ok sc_Tape_take_many (len_Tape_take_many K a) (fun cdv A outer s H vs Q E hr h => ⟨t_Tape_take_many K a, ?_, pure_Tape_take_many T vs H Q E h⟩), b⟩, F.kp⟩
  exact (pss_cons (ps_fldaug (pv 0) (pv 1) in_add)
    (pss_one (ps_ret (by exact (pe_slice sl_list (pe_fld (pv 0) rfl) (po_some (pe_op op_sub (pe_fld (pv 0) rfl) (pv 1))) (po_some (pe_fld (pv 0) rfl)))))))
end
def t_Tape_take_row (K : PySem.W.Frag) (a : Ad) : TS :=
  (tRet (tMeth a.C.c_Tape "take_many" (sp_Tape_take_many K a) [] E0 (tVar 0) (tCons (tOp (rIxL K) (tMeth a.C.c_Tape "take_many" (sp_Tape_take_many K a) [] E0 (tVar 0) (tCons (tC (.int 1)) tNil)) (tC (.int 0))) tNil)))
section
variable {P : Program} {w : World} {K : PySem.W.Frag} {mg : Str → Option Value} {base : Heap} {a : Ad}
theorem pure_Tape_take_row (T : Txt K mg a) (vs : List V) (H : Hp) (Q : VK) (E : XK) (h : sp_Tape_take_row K a vs H Q E) : t_Tape_take_row K a { nx := fun _ H' => Q .non H', rt := Q } (start ["self"] vs) H := by
  obtain ⟨t, dx, l, ns, k, row, rest, rfl, I, hd, q⟩ := h
  have hlen : ns.length - k = row.length + rest.length + 1 := by
    have := congrArg List.length hd
    rw [List.length_drop, List.length_cons, List.length_append] at this
    exact this
  have h1 : (ns.drop k).take 1 = [row.length] := by rw [hd]; rfl
  have hd1 : ns.drop (k + 1) = row ++ rest := by
    rw [← List.drop_drop, hd]
    rfl
  have h2 : (ns.drop (k + 1)).take row.length = row := by rw [hd1, List.take_left']; rfl
  refine ret_go ⟨_, rfl, t, dx, _, rfl, I.obj, no_Tape_take_many, ?_⟩
  refine op_go (meth_go (val_var rfl) I.obj no_Tape_take_many (va_cons (val_lit (n := 1) rfl) va_nil) ⟨t, dx, l, 1, ns, k, rfl, I, by omega, fun p1 H1 n1 I1 k1 hp1 => ?_⟩)
  rw [h1] at hp1
  refine ⟨p1, _, 0, nv row.length, rfl, rfl, SqL.of hp1, atI_nat (j := 0) rfl, ?_⟩
  refine ⟨t, dx, l, row.length, ns, k + 1, rfl, I1, by omega, fun p2 H2 n2 T2 k2 hp2 => ?_⟩
  rw [h2] at hp2
  exact q p2 H2 (k1.free I1.obj n2) T2 (k1.trans k2) hp2
theorem G_Tape_take_row (T : Txt K mg a) : Def P w K mg base CX0 2 a.C.f_Tape_take_row ["self"] (sp_Tape_take_row K a) := by
  obtain ⟨fd, F, b⟩ := T.C.d_Tape_take_row
  have G_Tape_take_many := G_Tape_take_many (P := P) (w := w) (base := base) T
  refine ⟨⟨fd, F.ok sc_Tape_take_row (len_Tape_take_row K a) (fun cdv A outer s H vs Q E hr h => ⟨t_Tape_take_row K a, ?_, pure_Tape_take_row T vs H Q E h⟩), b⟩, F.kp⟩
  exact (pss_one (ps_ret (by exact (pe_methD (pv 0) T.C.cl_Tape T.C.m_Tape_take_many G_Tape_take_many (hr.mono (by decide)) pass0 (pa_cons (pe_ix ix_list (pe_methD (pv 0) T.C.cl_Tape T.C.m_Tape_take_many G_Tape_take_many (hr.mono (by decide)) pass0 (pa_cons pe_int pa_nil)) pe_int (fun _ _ => rfl)) pa_nil)))))
end
def t_ask (K : PySem.W.Frag) (a : Ad) (E : XK) : TS :=
  (tIfS (tNot (tB (tVar 0))) (PySem.RefX.tRaiseRef a.C.c_Refused (fun cls d0 _ H => E cls d0 H) (tCons (tVar 1) tNil)) tNext)
section
variable {P : Program} {w : World} {K : PySem.W.Frag} {mg : Str → Option Value} {base : Heap} {a : Ad}
theorem pure_ask (T : Txt K mg a) (vs : List V) (H : Hp) (Q : VK) (E : XK) (h : sp_ask K a vs H Q E) : t_ask K a E { nx := fun _ H' => Q .non H', rt := Q } (start ["is_good", "number"] vs) H := by
  obtain ⟨g, n, rfl, qT, qF⟩ := h
  refine if_ans (ans_not (ans_val (val_var rfl))) (fun c => ?_) fun c => ?_
  · have hg : g = false := by simpa using c
    exact ⟨_, rfl, _, rfl, fun d nd => qF hg d _ (Same.upd0 nd) upd_same⟩
  · have hg : g = true := by simpa using c
    exact qT hg
theorem G_ask (T : Txt K mg a) : Def P w K mg base (L2.CX P w) 3 a.C.f_ask ["is_good", "number"] (sp_ask K a) := by
  obtain ⟨fd, F, b⟩ := T.C.d_ask
  refine ⟨⟨fd, F.okX sc_ask (len_ask K a) (fun cdv A outer s H vs Q E hr h => ⟨t_ask K a E, ?_, pure_ask T vs H Q E h⟩), b⟩, F.kp⟩
  exact (pss_one (ps_if (by exact (pt_not (pt_val (pv 0)))) (pss_one (PySem.RefX.ps_raiseRef rfl T.C.ref hr (takes_of rfl rfl rfl rfl) (by exact (pa_cons (pv 1) pa_nil)))) pss_nil))
end
def t_door_of (K : PySem.W.Frag) (a : Ad) (E : XK) : TS :=
  (tSeq (tDrop (tCallS (sp_ask K a) (WE (fun cls d0 _ H => E cls d0 H)) (tCons (tOp rNotNone (tFld K (tVar 0) "door") (tC .non)) (tCons (tC (.int (-61))) tNil))))
    (tRet (tFld K (tVar 0) "door")))
section
variable {P : Program} {w : World} {K : PySem.W.Frag} {mg : Str → Option Value} {base : Heap} {a : Ad}
theorem pure_door_of (T : Txt K mg a) (vs : List V) (H : Hp) (Q : VK) (E : XK) (h : sp_door_of K a vs H Q E) : t_door_of K a E { nx := fun _ H' => Q .non H', rt := Q } (start ["box"] vs) H := by
  obtain ⟨b, o, rfl, ⟨dx, hb⟩, qT, qF⟩ := h
  have vd : Val (tFld K (tVar 0) "door") [some (.ref b)] H (doorV o) := val_fld (val_var rfl) hb T.C.cl_Box T.C.n_Box_door lk_Box_door
  cases o with
  | none =>
    refine drop_go (callS_go (va_cons (v := .bl false) (val_op vd val_c fun Q q => ⟨rfl, q⟩) (va_cons val_c va_nil)) ⟨false, -61, rfl, fun g => by (cases g), fun _ x H2 s2 h2 => qF rfl x H2 s2 h2⟩)
  | some d =>
    refine drop_go (callS_go (va_cons (v := .bl true) (val_op vd val_c fun Q q => ⟨rfl, q⟩) (va_cons val_c va_nil)) ⟨true, -61, rfl, fun _ => ?_, fun g => by (cases g)⟩)
    exact ret_go (vd _ (qT d rfl))
theorem G_door_of (T : Txt K mg a) : Def P w K mg base (L2.CX P w) 4 a.C.f_door_of ["box"] (sp_door_of K a) := by
  obtain ⟨fd, F, b⟩ := T.C.d_door_of
  have G_ask := G_ask (P := P) (w := w) (base := base) T
  refine ⟨⟨fd, F.okX sc_door_of (len_door_of K a) (fun cdv A outer s H vs Q E hr h => ⟨t_door_of K a E, ?_, pure_door_of T vs H Q E h⟩), b⟩, F.kp⟩
  have tk : Takes (cxOf (L2.CX P w) P w K mg base ["box"] "door_of" (defScope s_door_of) a.C.f_door_of cdv A outer s H E) (fun cls d0 _ H => E cls d0 H) := takes_of rfl rfl rfl rfl
  exact (pss_cons (ps_expr (by exact (pe_callSD G_ask (hr.mono (by decide)) rfl T.C.g_ask (fun s => passAt tk s) (by exact (pa_cons (pe_cmpR op_notN (pe_fld (pv 0) rfl) pe_non (nomark _)) (pa_cons (pe_gint T.C.c_NO_DOOR) pa_nil))))))
    (pss_one (ps_ret (by exact (pe_fld (pv 0) rfl)))))
end
def t_card_in (K : PySem.W.Frag) (a : Ad) (E : XK) : TS :=
  (tSeq (tAsg (tCall (sp_card_of K a) [] E0 (tCons (tVar 0) (tCons (tVar 1) tNil))) (gName 2))
    (tSeq (tDrop (tCallS (sp_ask K a) (WE (fun cls d0 _ H => E cls d0 H)) (tCons (tOp rNotNone (tVar 2) (tC .non)) (tCons (tC (.int (-71))) tNil))))
    (tRet (tVar 2))))
section
variable {P : Program} {w : World} {K : PySem.W.Frag} {mg : Str → Option Value} {base : Heap} {a : Ad}
theorem pure_card_in (T : Txt K mg a) (vs : List V) (H : Hp) (Q : VK) (E : XK) (h : sp_card_in K a vs H Q E) : t_card_in K a E { nx := fun _ H' => Q .non H', rt := Q } (start ["door", "row", "found"] vs) H := by
  obtain ⟨d, r, s, row, rfl, D, hr, qT, qF⟩ := h
  refine asg_go (call_go (va_cons (val_var rfl) (va_cons (val_var rfl) va_nil)) ⟨d, r, s, row, rfl, D, hr, fun c H1 s1 => ?_, fun c p H1 s1 n1 C1 => ?_⟩)
  · exact drop_go (callS_go (va_cons (v := .bl false) (val_op (val_var rfl) val_c fun Q q => ⟨rfl, q⟩) (va_cons val_c va_nil)) ⟨false, -71, rfl, fun g => by (cases g), fun _ x H2 s2 h2 => qF c x H2 (s1.trans s2) h2⟩)
  · refine drop_go (callS_go (va_cons (v := .bl true) (val_op (val_var rfl) val_c fun Q q => ⟨rfl, q⟩) (va_cons val_c va_nil)) ⟨true, -71, rfl, fun _ => ?_, fun g => by (cases g)⟩)
    exact ⟨_, rfl, qT c p H1 s1 n1 C1⟩
theorem G_card_in (T : Txt K mg a) : Def P w K mg base (L2.CX P w) 7 a.C.f_card_in ["door", "row"] (sp_card_in K a) := by
  obtain ⟨fd, F, b⟩ := T.C.d_card_in
  have G_ask := G_ask (P := P) (w := w) (base := base) T
  have G_card_of := G_card_of (P := P) (w := w) (base := base) T
  refine ⟨⟨fd, F.okX sc_card_in (len_card_in K a) (fun cdv A outer s H vs Q E hr h => ⟨t_card_in K a E, ?_, pure_card_in T vs H Q E h⟩), b⟩, F.kp⟩
  have tk : Takes (cxOf (L2.CX P w) P w K mg base ["door", "row", "found"] "card_in" (defScope s_card_in) a.C.f_card_in cdv A outer s H E) (fun cls d0 _ H => E cls d0 H) := takes_of rfl rfl rfl rfl
  exact (pss_cons (ps_set (i := 2) sc_card_in.nd rfl (Or.inl rfl) (by exact (pe_callD G_card_of (hr.mono (by decide)) rfl T.B.g_card_of pass0 (pa_cons (pv 0) (pa_cons (pv 1) pa_nil)))))
    (pss_cons (ps_expr (by exact (pe_callSD G_ask (hr.mono (by decide)) rfl T.C.g_ask (fun s => passAt tk s) (by exact (pa_cons (pe_cmpR op_notN (pv 2) pe_non (nomark _)) (pa_cons (pe_gint T.C.c_NO_CARD) pa_nil))))))
    (pss_one (ps_ret (by exact (pv 2))))))
end
def t_do_begin (K : PySem.W.Frag) (a : Ad) (E : XK) : TS :=
  (tSeq (tDrop (tCallS (sp_ask K a) (WE (fun cls d0 _ H => E cls d0 H)) (tCons (tAndV (tOp rEq (tCB (rLen K) (tCons (tVar 2) tNil)) (tC (.int 16))) (tAndV (tOp rLeI (tOp (rIxL K) (tVar 1) (tC (.int 0))) (tC (.int 63))) (tOp rLeI (tOp (rIxL K) (tVar 1) (tC (.int 1))) (tC (.int 7))))) (tCons (tC (.int (-22))) tNil))))
    (tSeq (sFld K (tVar 0) (tMake a.B.c_Door (sp_Door_init K a) [] E0 (tCons (tOp (rIxL K) (tVar 1) (tC (.int 0))) (tCons (tOp (rIxL K) (tVar 1) (tC (.int 1))) (tCons (tVar 2) tNil)))) "door")
    (tRet (tLst (tCons (tC (.int 0)) tNil)))))
section
variable {P : Program} {w : World} {K : PySem.W.Frag} {mg : Str → Option Value} {base : Heap} {a : Ad}
theorem pure_do_begin (T : Txt K mg a) (vs : List V) (H : Hp) (Q : VK) (E : XK) (h : sp_do_begin K a vs H Q E) : t_do_begin K a E { nx := fun _ H' => Q .non H', rt := Q } (start ["box", "numbers", "row"] vs) H := by
  obtain ⟨f, box, nl, rl, d, s, nums, row, rfl, hf, nrl, Ho, hn, hr, hm, Fi, qQ, qE⟩ := h
  obtain ⟨r, z, rfl⟩ := nums2 hm
  have v0 : ∀ {H1 : Hp} {σ : L2.St}, σ[1]? = some (some (.ref nl)) → H1 nl = some (.lst (L [r, z])) → Val (tOp (rIxL K) (tVar 1) (tC (.int 0))) σ H1 (nv r) := fun hσ h1 => val_ixL (val_var hσ) (val_lit (n := 0) rfl) (SqL.of h1) rfl
  have v1 : ∀ {H1 : Hp} {σ : L2.St}, σ[1]? = some (some (.ref nl)) → H1 nl = some (.lst (L [r, z])) → Val (tOp (rIxL K) (tVar 1) (tC (.int 1))) σ H1 (nv z) := fun hσ h1 => val_ixL (val_var hσ) (val_lit (n := 1) rfl) (SqL.of h1) rfl
  have vg : Val (tAndV (tOp rEq (tCB (rLen K) (tCons (tVar 2) tNil)) (tC (.int 16))) (tAndV (tOp rLeI (tOp (rIxL K) (tVar 1) (tC (.int 0))) (tC (.int 63))) (tOp rLeI (tOp (rIxL K) (tVar 1) (tC (.int 1))) (tC (.int 7))))) [some (.ref box), some (.ref nl), some (.ref rl)] H
      (.bl (decide (row.length = 16) && (decide (r ≤ 63) && decide (z ≤ 7)))) := by
    have q1 := val_eq (val_len (K := K) (σ := [some (.ref box), some (.ref nl), some (.ref rl)]) (ta := tVar 2) (val_var rfl) (SqL.of hr)) (val_lit (n := 16) rfl)
    rw [L_length] at q1
    exact val_andV q1 (val_andV (val_le (v0 rfl hn) (val_lit (n := 63) rfl)) (val_le (v1 rfl hn) (val_lit (n := 7) rfl)))
  have st := step_begin (s := s) (r := r) (z := z) Fi.isb
  refine drop_go (callS_go (va_cons vg (va_cons val_c va_nil)) ⟨_, -22, rfl, fun g => ?_, fun g => ?_⟩)
  · have c : row.length = 16 ∧ r ≤ 63 ∧ z ≤ 7 := by
      rw [Bool.and_eq_true, Bool.and_eq_true, decide_eq_true_iff, decide_eq_true_iff, decide_eq_true_iff] at g
      exact g
    rw [if_pos c] at st
    rw [st] at qQ
    obtain ⟨db, hb⟩ := Ho.box
    refine seq_go (fldc_go (make_go (va_cons (v0 rfl hn) (va_cons (v1 rfl hn) (va_cons (val_var rfl) va_nil))) fun x dx nx nd ne => ?_))
    have k0 : Same H (L2.upd (L2.upd H dx (.own x)) x (.ins a.B.c_Door dx [])) := Same.new (Same.upd0 nd) (by rw [upd_ne (Ne.symm ne)]; exact nx)
    refine ⟨x, dx, rl, r, z, row, rfl, upd_same, k0 _ _ hr, fun H1 bb nb D1 k1 => ⟨rfl, ?_⟩⟩
    have s1 := made_same nx nd k1
    have hb1 := s1 _ _ hb
    refine fld_go (te := tC (.ref x)) hb1 (val_var rfl) val_c T.C.cl_Box T.C.n_Box_door (by show 1 < 1000; decide) ?_
    rw [put_Box_door]
    have k2 : Keep H1 (L2.upd H1 box (.ins a.C.c_Box db (F_Box (.ref x)))) box := (Keep.refl H1 box).upd
    have hb2 : L2.upd H1 box (.ins a.C.c_Box db (F_Box (.ref x))) box = some (.ins a.C.c_Box db (F_Box (.ref x))) := upd_same
    have nbf : bb ≠ f := (hf.same k0).ne nb
    have D2 := D1.keep k2 hb1 (by rw [len_Box]; decide) (by rw [len_Box]; decide)
    generalize L2.upd H1 box (.ins a.C.c_Box db (F_Box (.ref x))) = H2 at k2 hb2 D2
    refine ret_go (σ := []) (lst_go (va_cons val_c va_nil) (one_line _) fun p np => ?_)
    have s3 : Same H2 (L2.upd H2 p (.lst [.int 0])) := Same.upd0 np
    refine qQ p (some x) _ (s1.free (k2.free hb2 np)) ⟨⟨db, s3 _ _ hb2⟩, fun q => by (cases q), fun y hy => ?_⟩ (fun b o h n _ => s3 _ _ (k2 _ _ (s1 _ _ h) n)) upd_same
    cases hy
    exact ⟨⟨Fi.isb, c.1⟩, _, _, _, _, D2.same s3, nrl, nbf⟩
  · have c : ¬ (row.length = 16 ∧ r ≤ 63 ∧ z ≤ 7) := fun c => by
      rw [decide_eq_true c.1, decide_eq_true c.2.1, decide_eq_true c.2.2] at g
      cases g
    rw [if_neg c] at st
    exact qE (-22) st
theorem G_do_begin (T : Txt K mg a) : Def P w K mg base (L2.CX P w) 4 a.C.f_do_begin ["box", "numbers", "row"] (sp_do_begin K a) := by
  obtain ⟨fd, F, b⟩ := T.C.d_do_begin
  have G_Door_init := G_Door_init (P := P) (w := w) (base := base) T
  have G_ask := G_ask (P := P) (w := w) (base := base) T
  refine ⟨⟨fd, F.okX sc_do_begin (len_do_begin K a) (fun cdv A outer s H vs Q E hr h => ⟨t_do_begin K a E, ?_, pure_do_begin T vs H Q E h⟩), b⟩, F.kp⟩
  have tk : Takes (cxOf (L2.CX P w) P w K mg base ["box", "numbers", "row"] "do_begin" (defScope s_do_begin) a.C.f_do_begin cdv A outer s H E) (fun cls d0 _ H => E cls d0 H) := takes_of rfl rfl rfl rfl
  exact (pss_cons (ps_expr (by exact (pe_callSD G_ask (hr.mono (by decide)) rfl T.C.g_ask (fun s => passAt tk s) (by exact (pa_cons (pe_and (pe_cmpR op_eq (pe_callB call_len_seq (by rfl) T.A.n_len PySem.boot_len (pa_cons (pv 2) pa_nil)) (pe_gint T.B.c_CARD_BYTES) (nomark _)) (pe_and (pe_cmpR op_le (pe_ix ix_list (pv 1) pe_int (fun _ _ => rfl)) (pe_gint T.B.c_MOST_ROOM) (nomark _)) (pe_one (pe_cmpR op_le (pe_ix ix_list (pv 1) pe_int (fun _ _ => rfl)) (pe_gint T.C.c_MOST_ZONE) (nomark _))))) (pa_cons (pe_gint T.C.c_WRONG) pa_nil))))))
    (pss_cons (ps_fld (pv 0) (by exact (pe_makeD T.B.mk_Door G_Door_init (hr.mono (by decide)) rfl T.B.g_Door pass0 (pa_cons (pe_ix ix_list (pv 1) pe_int (fun _ _ => rfl)) (pa_cons (pe_ix ix_list (pv 1) pe_int (fun _ _ => rfl)) (pa_cons (pv 2) pa_nil))))) rfl)
    (pss_one (ps_ret (by exact (pe_lst (pa_cons pe_int pa_nil)))))))
end
def t_do_day (K : PySem.W.Frag) (a : Ad) (E : XK) : TS :=
  (tSeq (tAsg (tCallS (sp_door_of K a) (WE (fun cls d0 _ H => E cls d0 H)) (tCons (tVar 0) tNil)) (gName 3))
    (tSeq (tDrop (tCallS (sp_ask K a) (WE (fun cls d0 _ H => E cls d0 H)) (tCons (tChain rLeI rLeI (tFld K (tVar 3) "day") (tOp (rIxL K) (tVar 1) (tC (.int 0))) (tC (.int 65535))) (tCons (tC (.int (-22))) tNil))))
    (tSeq (sFld K (tVar 3) (tOp (rIxL K) (tVar 1) (tC (.int 0))) "day")
    (tRet (tLst (tCons (tC (.int 0)) tNil))))))
section
variable {P : Program} {w : World} {K : PySem.W.Frag} {mg : Str → Option Value} {base : Heap} {a : Ad}
theorem door_day {K : PySem.W.Frag} {mg : Str → Option Value} {a : Ad} {H H0 : Hp} {d dx kk bb : Addr} {es : List Addr} {s : Ks346.Abs} {σ : L2.St} {to te : TE} {n : Nat} {D : Ends} (T : Txt K mg a) (I : DoorIn a H d dx kk bb es s) (k : Keep H0 H d) (ho : Val to σ H (.ref d)) (hv : Val te σ H (nv n))
    (q : ∀ H', DoorIn a H' d dx kk bb es { s with day := n } → Keep H0 H' d → D.nx σ H') : sFld K to te "day" D σ H := fld_go I.obj ho hv T.B.cl_Door T.B.n_Door_day (by show 8 < 1000; decide) (by
  rw [put_Door_day]
  exact q _ (DoorIn.put (s' := { s with day := n }) I rfl rfl) k.upd)
theorem pure_do_day (T : Txt K mg a) (vs : List V) (H : Hp) (Q : VK) (E : XK) (h : sp_do_day K a vs H Q E) : t_do_day K a E { nx := fun _ H' => Q .non H', rt := Q } (start ["box", "numbers", "row", "door"] vs) H := by
  obtain ⟨f, box, nl, rl, d, s, nums, row, rfl, hf, nrl, Ho, hn, hr, hm, Fi, qQ, qE⟩ := h
  obtain ⟨n, rfl⟩ := nums1 hm
  refine asg_go (callS_go (va_cons (val_var rfl) va_nil) ⟨box, d, rfl, Ho.box, fun x hx => ?_, fun hx => ?_⟩)
  · subst hx
    obtain ⟨hk, dx, kk, bb, es, I, av⟩ := Ho.yes x rfl
    have st := step_day (d := n) (row := row) hk.on
    have v0 : Val (tOp (rIxL K) (tVar 1) (tC (.int 0))) [some (.ref box), some (.ref nl), some (.ref rl), some (.ref x)] H (nv n) := val_ixL (val_var rfl) (val_lit (n := 0) rfl) (SqL.of hn) rfl
    have vd : Val (tFld K (tVar 3) "day") [some (.ref box), some (.ref nl), some (.ref rl), some (.ref x)] H (nv s.day) := val_fld (val_var rfl) I.obj T.B.cl_Door T.B.n_Door_day lk_Door_day
    refine drop_go (callS_go (va_cons (val_chain vd v0 (val_lit (n := 65535) rfl)) (va_cons val_c va_nil)) ⟨_, -22, rfl, fun g => ?_, fun g => ?_⟩)
    · have c : s.day ≤ n ∧ n ≤ 65535 := by
        rw [Bool.and_eq_true, decide_eq_true_iff, decide_eq_true_iff] at g
        exact g
      rw [if_pos c] at st
      rw [st] at qQ
      refine seq_go (door_day (H0 := H) T I (Keep.refl H x) (val_var rfl) v0 fun H1 I1 k1 => ?_)
      refine ret_go (σ := []) (lst_go (va_cons val_c va_nil) (one_line _) fun p np => ?_)
      have s3 : Same H1 (L2.upd H1 p (.lst [.int 0])) := Same.upd0 np
      exact qQ p (some x) _ (k1.free I1.obj np) ((Ho.put k1 ⟨dx, kk, bb, es, I1, av⟩ ⟨hk.isb, hk.len⟩).same s3) (frame_put k1 s3) upd_same
    · have c : ¬ (s.day ≤ n ∧ n ≤ 65535) := fun c => by
        rw [decide_eq_true c.1, decide_eq_true c.2] at g
        cases g
      rw [if_neg c] at st
      exact qE (-22) st
  · exact qE (-61) (step_off (by rw [Ho.no hx]; exact off_start) (by decide))
theorem G_do_day (T : Txt K mg a) : Def P w K mg base (L2.CX P w) 5 a.C.f_do_day ["box", "numbers", "row"] (sp_do_day K a) := by
  obtain ⟨fd, F, b⟩ := T.C.d_do_day
  have G_ask := G_ask (P := P) (w := w) (base := base) T
  have G_door_of := G_door_of (P := P) (w := w) (base := base) T
  refine ⟨⟨fd, F.okX sc_do_day (len_do_day K a) (fun cdv A outer s H vs Q E hr h => ⟨t_do_day K a E, ?_, pure_do_day T vs H Q E h⟩), b⟩, F.kp⟩
  have tk : Takes (cxOf (L2.CX P w) P w K mg base ["box", "numbers", "row", "door"] "do_day" (defScope s_do_day) a.C.f_do_day cdv A outer s H E) (fun cls d0 _ H => E cls d0 H) := takes_of rfl rfl rfl rfl
  exact (pss_cons (ps_set (i := 3) sc_do_day.nd rfl (Or.inl rfl) (by exact (pe_callSD G_door_of (hr.mono (by decide)) rfl T.C.g_door_of (fun s => passAt tk s) (by exact (pa_cons (pv 0) pa_nil)))))
    (pss_cons (ps_expr (by exact (pe_callSD G_ask (hr.mono (by decide)) rfl T.C.g_ask (fun s => passAt tk s) (by exact (pa_cons (pe_chain op_le op_le (pe_fld (pv 3) rfl) (pe_ix ix_list (pv 1) pe_int (fun _ _ => rfl)) (pe_gint T.C.c_MOST_DAY)) (pa_cons (pe_gint T.C.c_WRONG) pa_nil))))))
    (pss_cons (ps_fld (pv 3) (by exact (pe_ix ix_list (pv 1) pe_int (fun _ _ => rfl))) rfl)
    (pss_one (ps_ret (by exact (pe_lst (pa_cons pe_int pa_nil))))))))
end
def t_do_bolt (K : PySem.W.Frag) (a : Ad) (E : XK) : TS :=
  (tSeq (tAsg (tCallS (sp_door_of K a) (WE (fun cls d0 _ H => E cls d0 H)) (tCons (tVar 0) tNil)) (gName 3))
    (tSeq (tDrop (tCallS (sp_ask K a) (WE (fun cls d0 _ H => E cls d0 H)) (tCons (tOp rLeI (tOp (rIxL K) (tVar 1) (tC (.int 0))) (tC (.int 1))) (tCons (tC (.int (-22))) tNil))))
    (tSeq (sFld K (tVar 3) (tOp rEq (tOp (rIxL K) (tVar 1) (tC (.int 0))) (tC (.int 1))) "is_bolted")
    (tRet (tLst (tCons (tC (.int 0)) tNil))))))
section
variable {P : Program} {w : World} {K : PySem.W.Frag} {mg : Str → Option Value} {base : Heap} {a : Ad}
theorem pure_do_bolt (T : Txt K mg a) (vs : List V) (H : Hp) (Q : VK) (E : XK) (h : sp_do_bolt K a vs H Q E) : t_do_bolt K a E { nx := fun _ H' => Q .non H', rt := Q } (start ["box", "numbers", "row", "door"] vs) H := by
  obtain ⟨f, box, nl, rl, d, s, nums, row, rfl, hf, nrl, Ho, hn, hr, hm, Fi, qQ, qE⟩ := h
  obtain ⟨n, rfl⟩ := nums1 hm
  refine asg_go (callS_go (va_cons (val_var rfl) va_nil) ⟨box, d, rfl, Ho.box, fun x hx => ?_, fun hx => ?_⟩)
  · subst hx
    obtain ⟨hk, dx, kk, bb, es, I, av⟩ := Ho.yes x rfl
    have st := step_bolt (v := n) (row := row) hk.on
    have v0 : Val (tOp (rIxL K) (tVar 1) (tC (.int 0))) [some (.ref box), some (.ref nl), some (.ref rl), some (.ref x)] H (nv n) := val_ixL (val_var rfl) (val_lit (n := 0) rfl) (SqL.of hn) rfl
    refine drop_go (callS_go (va_cons (val_le v0 (val_lit (n := 1) rfl)) (va_cons val_c va_nil)) ⟨_, -22, rfl, fun g => ?_, fun g => ?_⟩)
    · rw [if_pos (of_decide_eq_true g)] at st
      rw [st] at qQ
      refine seq_go (door_bolted (H0 := H) T I (Keep.refl H x) (val_var rfl) (val_eq v0 (val_lit (n := 1) rfl)) fun H1 I1 k1 => ?_)
      refine ret_go (σ := []) (lst_go (va_cons val_c va_nil) (one_line _) fun p np => ?_)
      have s3 : Same H1 (L2.upd H1 p (.lst [.int 0])) := Same.upd0 np
      exact qQ p (some x) _ (k1.free I1.obj np) ((Ho.put k1 ⟨dx, kk, bb, es, I1, av⟩ ⟨hk.isb, hk.len⟩).same s3) (frame_put k1 s3) upd_same
    · rw [if_neg (of_decide_eq_false g)] at st
      exact qE (-22) st
  · exact qE (-61) (step_off (by rw [Ho.no hx]; exact off_start) (by decide))
theorem G_do_bolt (T : Txt K mg a) : Def P w K mg base (L2.CX P w) 5 a.C.f_do_bolt ["box", "numbers", "row"] (sp_do_bolt K a) := by
  obtain ⟨fd, F, b⟩ := T.C.d_do_bolt
  have G_ask := G_ask (P := P) (w := w) (base := base) T
  have G_door_of := G_door_of (P := P) (w := w) (base := base) T
  refine ⟨⟨fd, F.okX sc_do_bolt (len_do_bolt K a) (fun cdv A outer s H vs Q E hr h => ⟨t_do_bolt K a E, ?_, pure_do_bolt T vs H Q E h⟩), b⟩, F.kp⟩
  have tk : Takes (cxOf (L2.CX P w) P w K mg base ["box", "numbers", "row", "door"] "do_bolt" (defScope s_do_bolt) a.C.f_do_bolt cdv A outer s H E) (fun cls d0 _ H => E cls d0 H) := takes_of rfl rfl rfl rfl
  exact (pss_cons (ps_set (i := 3) sc_do_bolt.nd rfl (Or.inl rfl) (by exact (pe_callSD G_door_of (hr.mono (by decide)) rfl T.C.g_door_of (fun s => passAt tk s) (by exact (pa_cons (pv 0) pa_nil)))))
    (pss_cons (ps_expr (by exact (pe_callSD G_ask (hr.mono (by decide)) rfl T.C.g_ask (fun s => passAt tk s) (by exact (pa_cons (pe_cmpR op_le (pe_ix ix_list (pv 1) pe_int (fun _ _ => rfl)) pe_int (nomark _)) (pa_cons (pe_gint T.C.c_WRONG) pa_nil))))))
    (pss_cons (ps_fld (pv 3) (by exact (pe_cmpR op_eq (pe_ix ix_list (pv 1) pe_int (fun _ _ => rfl)) pe_int (nomark _))) rfl)
    (pss_one (ps_ret (by exact (pe_lst (pa_cons pe_int pa_nil))))))))
end
def t_do_book (K : PySem.W.Frag) (a : Ad) (E : XK) : TS :=
  (tSeq (tAsg (tCallS (sp_door_of K a) (WE (fun cls d0 _ H => E cls d0 H)) (tCons (tVar 0) tNil)) (gName 3))
    (tSeq (tDrop (tCallS (sp_ask K a) (WE (fun cls d0 _ H => E cls d0 H)) (tCons (tOp rLtI (tOp (rIxL K) (tVar 1) (tC (.int 0))) (tCB (rLen K) (tCons (tFld K (tVar 3) "book") tNil))) (tCons (tC (.int (-2))) tNil))))
    (tSeq (tAsg (tOp (rIxL K) (tFld K (tVar 3) "book") (tOp (rIxL K) (tVar 1) (tC (.int 0)))) (gName 4))
    (tRet (tLst (tCons (tFld K (tVar 4) "kind") (tCons (tFld K (tVar 4) "number") (tCons (tFld K (tVar 4) "serial") (tCons (tFld K (tVar 4) "day") tNil)))))))))
section
variable {P : Program} {w : World} {K : PySem.W.Frag} {mg : Str → Option Value} {base : Heap} {a : Ad}
theorem pure_do_book (T : Txt K mg a) (vs : List V) (H : Hp) (Q : VK) (E : XK) (h : sp_do_book K a vs H Q E) : t_do_book K a E { nx := fun _ H' => Q .non H', rt := Q } (start ["box", "numbers", "row", "door", "entry"] vs) H := by
  obtain ⟨f, box, nl, rl, d, s, nums, row, rfl, hf, nrl, Ho, hn, hr, hm, Fi, qQ, qE⟩ := h
  obtain ⟨n, rfl⟩ := nums1 hm
  refine asg_go (callS_go (va_cons (val_var rfl) va_nil) ⟨box, d, rfl, Ho.box, fun x hx => ?_, fun hx => ?_⟩)
  · subst hx
    obtain ⟨hk, dx, kk, bb, es, I, av⟩ := Ho.yes x rfl
    have st := step_book (k := n) (row := row) hk.on
    have v0 : ∀ {σ : L2.St}, σ[1]? = some (some (.ref nl)) → Val (tOp (rIxL K) (tVar 1) (tC (.int 0))) σ H (nv n) := fun hσ => val_ixL (val_var hσ) (val_lit (n := 0) rfl) (SqL.of hn) rfl
    have vb : ∀ {σ : L2.St}, σ[3]? = some (some (.ref x)) → Val (tFld K (tVar 3) "book") σ H (.ref bb) := fun hσ => val_fld (val_var hσ) I.obj T.B.cl_Door T.B.n_Door_book lk_Door_book
    have hl : (es.map V.ref).length = s.book.length := by rw [List.length_map, I.ents.length]
    refine drop_go (callS_go (va_cons (val_lt (v0 rfl) (val_len (vb rfl) (SqL.of I.book))) (va_cons val_c va_nil)) ⟨_, -2, rfl, fun g => ?_, fun g => ?_⟩)
    · have c := of_decide_eq_true g
      rw [hl] at c
      have hb : s.book[n]? = some s.book[n] := List.getElem?_eq_getElem c
      obtain ⟨e, he, ⟨de, E1⟩⟩ := I.ents.get hb
      rw [hb] at st
      dsimp only at st
      rw [st] at qQ
      generalize s.book[n] = b at E1 qQ
      refine asg_go (val_ixL (vb rfl) (v0 rfl) (SqL.of I.book) (by rw [List.getElem?_map, he]; rfl) _ ?_)
      have vk : Val (tFld K (tVar 4) "kind") [some (.ref box), some (.ref nl), some (.ref rl), some (.ref x), some (.ref e)] H (nv b.kind) := val_fld (val_var rfl) E1 T.B.cl_Entry T.B.n_Entry_kind lk_Entry_kind
      have vn : Val (tFld K (tVar 4) "number") [some (.ref box), some (.ref nl), some (.ref rl), some (.ref x), some (.ref e)] H (nv b.number) := val_fld (val_var rfl) E1 T.B.cl_Entry T.B.n_Entry_number lk_Entry_number
      have vs : Val (tFld K (tVar 4) "serial") [some (.ref box), some (.ref nl), some (.ref rl), some (.ref x), some (.ref e)] H (nv b.serial) := val_fld (val_var rfl) E1 T.B.cl_Entry T.B.n_Entry_serial lk_Entry_serial
      have vd : Val (tFld K (tVar 4) "day") [some (.ref box), some (.ref nl), some (.ref rl), some (.ref x), some (.ref e)] H (nv b.day) := val_fld (val_var rfl) E1 T.B.cl_Entry T.B.n_Entry_day lk_Entry_day
      refine ret_go (lst_go (va_cons vk (va_cons vn (va_cons vs (va_cons vd va_nil)))) (by show 4 ≤ sizeLine; decide) fun p np => ?_)
      exact qQ p (some x) _ np (Ho.same (Same.upd0 np)) (Frame.of (Same.upd0 np)) upd_same
    · have c := of_decide_eq_false g
      rw [hl] at c
      rw [List.getElem?_eq_none (by omega)] at st
      exact qE (-2) st
  · exact qE (-61) (step_off (by rw [Ho.no hx]; exact off_start) (by decide))
theorem G_do_book (T : Txt K mg a) : Def P w K mg base (L2.CX P w) 5 a.C.f_do_book ["box", "numbers", "row"] (sp_do_book K a) := by
  obtain ⟨fd, F, b⟩ := T.C.d_do_book
  have G_ask := G_ask (P := P) (w := w) (base := base) T
  have G_door_of := G_door_of (P := P) (w := w) (base := base) T
  refine ⟨⟨fd, F.okX sc_do_book (len_do_book K a) (fun cdv A outer s H vs Q E hr h => ⟨t_do_book K a E, ?_, pure_do_book T vs H Q E h⟩), b⟩, F.kp⟩
  have tk : Takes (cxOf (L2.CX P w) P w K mg base ["box", "numbers", "row", "door", "entry"] "do_book" (defScope s_do_book) a.C.f_do_book cdv A outer s H E) (fun cls d0 _ H => E cls d0 H) := takes_of rfl rfl rfl rfl
  exact (pss_cons (ps_set (i := 3) sc_do_book.nd rfl (Or.inl rfl) (by exact (pe_callSD G_door_of (hr.mono (by decide)) rfl T.C.g_door_of (fun s => passAt tk s) (by exact (pa_cons (pv 0) pa_nil)))))
    (pss_cons (ps_expr (by exact (pe_callSD G_ask (hr.mono (by decide)) rfl T.C.g_ask (fun s => passAt tk s) (by exact (pa_cons (pe_cmpR op_lt (pe_ix ix_list (pv 1) pe_int (fun _ _ => rfl)) (pe_callB call_len_seq (by rfl) T.A.n_len PySem.boot_len (pa_cons (pe_fld (pv 3) rfl) pa_nil)) (nomark _)) (pa_cons (pe_gint T.C.c_NO_ENTRY) pa_nil))))))
    (pss_cons (ps_set (i := 4) sc_do_book.nd rfl (Or.inl rfl) (by exact (pe_ix ix_list (pe_fld (pv 3) rfl) (pe_ix ix_list (pv 1) pe_int (fun _ _ => rfl)) (fun _ _ => rfl))))
    (pss_one (ps_ret (by exact (pe_lst (pa_cons (pe_fld (pv 4) rfl) (pa_cons (pe_fld (pv 4) rfl) (pa_cons (pe_fld (pv 4) rfl) (pa_cons (pe_fld (pv 4) rfl) pa_nil)))))))))))
end
def t_do_state (K : PySem.W.Frag) (a : Ad) (E : XK) : TS :=
  (tSeq (tAsg (tCallS (sp_door_of K a) (WE (fun cls d0 _ H => E cls d0 H)) (tCons (tVar 0) tNil)) (gName 3))
    (tRet (tLst (tCons (tCB rInt1 (tCons (tFld K (tVar 3) "is_bolted") tNil)) (tCons (tFld K (tVar 3) "room") (tCons (tFld K (tVar 3) "zone") (tCons (tFld K (tVar 3) "day") (tCons (tFld K (tVar 3) "number") (tCons (tFld K (tVar 3) "round") (tCons (tCB (rLen K) (tCons (tFld K (tVar 3) "book") tNil)) tNil))))))))))
section
variable {P : Program} {w : World} {K : PySem.W.Frag} {mg : Str → Option Value} {base : Heap} {a : Ad}
theorem pure_do_state (T : Txt K mg a) (vs : List V) (H : Hp) (Q : VK) (E : XK) (h : sp_do_state K a vs H Q E) : t_do_state K a E { nx := fun _ H' => Q .non H', rt := Q } (start ["box", "numbers", "row", "door"] vs) H := by
  obtain ⟨f, box, nl, rl, d, s, nums, row, rfl, hf, nrl, Ho, hn, hr, hm, Fi, qQ, qE⟩ := h
  refine asg_go (callS_go (va_cons (val_var rfl) va_nil) ⟨box, d, rfl, Ho.box, fun x hx => ?_, fun hx => ?_⟩)
  · subst hx
    obtain ⟨hk, dx, kk, bb, es, I, av⟩ := Ho.yes x rfl
    have st := step_state (nums := nums) (row := row) hk.on
    rw [st] at qQ
    have hl : (es.map V.ref).length = s.book.length := by rw [List.length_map, I.ents.length]
    have vb : Val (tFld K (tVar 3) "is_bolted") [some (.ref box), some (.ref nl), some (.ref rl), some (.ref x)] H (.bl s.bolted) := val_fld (val_var rfl) I.obj T.B.cl_Door T.B.n_Door_is_bolted lk_Door_is_bolted
    have vi : Val (tCB rInt1 (tCons (tFld K (tVar 3) "is_bolted") tNil)) [some (.ref box), some (.ref nl), some (.ref rl), some (.ref x)] H (.int (if s.bolted then 1 else 0)) := fun Q q => vb _ (.inr ⟨_, rfl, q⟩)
    have vr : Val (tFld K (tVar 3) "room") [some (.ref box), some (.ref nl), some (.ref rl), some (.ref x)] H (nv s.room) := val_fld (val_var rfl) I.obj T.B.cl_Door T.B.n_Door_room lk_Door_room
    have vz : Val (tFld K (tVar 3) "zone") [some (.ref box), some (.ref nl), some (.ref rl), some (.ref x)] H (nv s.zone) := val_fld (val_var rfl) I.obj T.B.cl_Door T.B.n_Door_zone lk_Door_zone
    have vd : Val (tFld K (tVar 3) "day") [some (.ref box), some (.ref nl), some (.ref rl), some (.ref x)] H (nv s.day) := val_fld (val_var rfl) I.obj T.B.cl_Door T.B.n_Door_day lk_Door_day
    have vn : Val (tFld K (tVar 3) "number") [some (.ref box), some (.ref nl), some (.ref rl), some (.ref x)] H (nv s.number) := val_fld (val_var rfl) I.obj T.B.cl_Door T.B.n_Door_number lk_Door_number
    have ve : Val (tFld K (tVar 3) "round") [some (.ref box), some (.ref nl), some (.ref rl), some (.ref x)] H (nv s.epoch) := val_fld (val_var rfl) I.obj T.B.cl_Door T.B.n_Door_round lk_Door_round
    have vk : Val (tFld K (tVar 3) "book") [some (.ref box), some (.ref nl), some (.ref rl), some (.ref x)] H (.ref bb) := val_fld (val_var rfl) I.obj T.B.cl_Door T.B.n_Door_book lk_Door_book
    have vl := val_len (K := K) vk (SqL.of I.book)
    rw [hl] at vl
    refine ret_go (lst_go (va_cons vi (va_cons vr (va_cons vz (va_cons vd (va_cons vn (va_cons ve (va_cons vl va_nil))))))) (by show 7 ≤ sizeLine; decide) fun p np => ?_)
    exact qQ p (some x) _ np (Ho.same (Same.upd0 np)) (Frame.of (Same.upd0 np)) upd_same
  · exact qE (-61) (step_off (by rw [Ho.no hx]; exact off_start) (by decide))
theorem G_do_state (T : Txt K mg a) : Def P w K mg base (L2.CX P w) 5 a.C.f_do_state ["box", "numbers", "row"] (sp_do_state K a) := by
  obtain ⟨fd, F, b⟩ := T.C.d_do_state
  have G_door_of := G_door_of (P := P) (w := w) (base := base) T
  refine ⟨⟨fd, F.okX sc_do_state (len_do_state K a) (fun cdv A outer s H vs Q E hr h => ⟨t_do_state K a E, ?_, pure_do_state T vs H Q E h⟩), b⟩, F.kp⟩
  have tk : Takes (cxOf (L2.CX P w) P w K mg base ["box", "numbers", "row", "door"] "do_state" (defScope s_do_state) a.C.f_do_state cdv A outer s H E) (fun cls d0 _ H => E cls d0 H) := takes_of rfl rfl rfl rfl
  exact (pss_cons (ps_set (i := 3) sc_do_state.nd rfl (Or.inl rfl) (by exact (pe_callSD G_door_of (hr.mono (by decide)) rfl T.C.g_door_of (fun s => passAt tk s) (by exact (pa_cons (pv 0) pa_nil)))))
    (pss_one (ps_ret (by exact (pe_lst (pa_cons (pe_callTy call_int1 (by rfl) T.A.n_int (by decide +kernel) (pa_cons (pe_fld (pv 3) rfl) pa_nil)) (pa_cons (pe_fld (pv 3) rfl) (pa_cons (pe_fld (pv 3) rfl) (pa_cons (pe_fld (pv 3) rfl) (pa_cons (pe_fld (pv 3) rfl) (pa_cons (pe_fld (pv 3) rfl) (pa_cons (pe_callB call_len_seq (by rfl) T.A.n_len PySem.boot_len (pa_cons (pe_fld (pv 3) rfl) pa_nil)) pa_nil))))))))))))
end
def t_do_would (K : PySem.W.Frag) (a : Ad) (E : XK) : TS :=
  (tSeq (tAsg (tCallS (sp_door_of K a) (WE (fun cls d0 _ H => E cls d0 H)) (tCons (tVar 0) tNil)) (gName 3))
    (tRet (tLst (tCons (tCall (sp_shown K a) [] E0 (tCons (tVar 3) (tCons (tCallS (sp_card_in K a) (WE (fun cls d0 _ H => E cls d0 H)) (tCons (tVar 3) (tCons (tVar 2) tNil))) tNil))) tNil))))
section
variable {P : Program} {w : World} {K : PySem.W.Frag} {mg : Str → Option Value} {base : Heap} {a : Ad}
theorem pure_do_would (T : Txt K mg a) (vs : List V) (H : Hp) (Q : VK) (E : XK) (h : sp_do_would K a vs H Q E) : t_do_would K a E { nx := fun _ H' => Q .non H', rt := Q } (start ["box", "numbers", "row", "door"] vs) H := by
  obtain ⟨f, box, nl, rl, d, s, nums, row, rfl, hf, nrl, Ho, hn, hr, hm, Fi, qQ, qE⟩ := h
  refine asg_go (callS_go (va_cons (val_var rfl) va_nil) ⟨box, d, rfl, Ho.box, fun x hx => ?_, fun hx => ?_⟩)
  · subst hx
    obtain ⟨hk, Dv⟩ := Ho.yes x rfl
    have D := Dv.at
    have st := step_would (nums := nums) hk Fi.isb
    refine ret_go (lst1_raw (arg2_go ⟨_, rfl, callS_go (va_cons (val_var rfl) (va_cons (val_var rfl) va_nil)) ⟨x, rl, s, row, rfl, D, hr, fun c p H1 s1 n1 C1 => ?_, fun c => ?_⟩⟩))
    · rw [if_pos c] at st
      rw [st] at qQ
      refine ⟨x, p, s, _, rfl, D.same s1, C1, fun H2 s2 => ⟨one_line _, fun p3 n3 => ?_⟩⟩
      have s3 : Same H (L2.upd H2 p3 (.lst [.int (ans s (Ks345.cardOf row))])) := Same.new (s1.trans s2) n3
      exact qQ p3 (some x) _ ((s1.trans s2).free n3) (Ho.same s3) (Frame.of s3) upd_same
    · rw [if_neg (by rw [c]; decide)] at st
      exact qE (-71) st
  · exact qE (-61) (step_off (by rw [Ho.no hx]; exact off_start) (by decide))
theorem G_do_would (T : Txt K mg a) : Def P w K mg base (L2.CX P w) 8 a.C.f_do_would ["box", "numbers", "row"] (sp_do_would K a) := by
  obtain ⟨fd, F, b⟩ := T.C.d_do_would
  have G_card_in := G_card_in (P := P) (w := w) (base := base) T
  have G_door_of := G_door_of (P := P) (w := w) (base := base) T
  have G_shown := G_shown (P := P) (w := w) (base := base) T
  refine ⟨⟨fd, F.okX sc_do_would (len_do_would K a) (fun cdv A outer s H vs Q E hr h => ⟨t_do_would K a E, ?_, pure_do_would T vs H Q E h⟩), b⟩, F.kp⟩
  have tk : Takes (cxOf (L2.CX P w) P w K mg base ["box", "numbers", "row", "door"] "do_would" (defScope s_do_would) a.C.f_do_would cdv A outer s H E) (fun cls d0 _ H => E cls d0 H) := takes_of rfl rfl rfl rfl
  exact (pss_cons (ps_set (i := 3) sc_do_would.nd rfl (Or.inl rfl) (by exact (pe_callSD G_door_of (hr.mono (by decide)) rfl T.C.g_door_of (fun s => passAt tk s) (by exact (pa_cons (pv 0) pa_nil)))))
    (pss_one (ps_ret (by exact (pe_lst (pa_cons (pe_callD G_shown (hr.mono (by decide)) rfl T.B.g_shown pass0 (pa_cons (pv 3) (pa_cons (pe_callSD G_card_in (hr.mono (by decide)) rfl T.C.g_card_in (fun s => passAt tk s) (by exact (pa_cons (pv 3) (pa_cons (pv 2) pa_nil)))) pa_nil))) pa_nil))))))
end
def t_do_open (K : PySem.W.Frag) (a : Ad) (E : XK) : TS :=
  (tSeq (tAsg (tCallS (sp_door_of K a) (WE (fun cls d0 _ H => E cls d0 H)) (tCons (tVar 0) tNil)) (gName 3))
    (tSeq (tAsg (tCallS (sp_card_in K a) (WE (fun cls d0 _ H => E cls d0 H)) (tCons (tVar 3) (tCons (tVar 2) tNil))) (gName 4))
    (tSeq (tAsg (tCall (sp_shown K a) [] E0 (tCons (tVar 3) (tCons (tVar 4) tNil))) (gName 5))
    (tSeq (tIfS (tTest (tOp rGtI (tVar 5) (tC (.int 0)))) (tDrop (tCall (sp_learn K a) [] E0 (tCons (tVar 3) (tCons (tVar 4) tNil)))) tNext)
    (tRet (tLst (tCons (tVar 5) tNil)))))))
section
variable {P : Program} {w : World} {K : PySem.W.Frag} {mg : Str → Option Value} {base : Heap} {a : Ad}
theorem pure_do_open (T : Txt K mg a) (vs : List V) (H : Hp) (Q : VK) (E : XK) (h : sp_do_open K a vs H Q E) : t_do_open K a E { nx := fun _ H' => Q .non H', rt := Q } (start ["box", "numbers", "row", "door", "card", "found"] vs) H := by
  obtain ⟨f, box, nl, rl, d, s, nums, row, rfl, hf, nrl, Ho, hn, hr, hm, Fi, qQ, qE⟩ := h
  refine asg_go (callS_go (va_cons (val_var rfl) va_nil) ⟨box, d, rfl, Ho.box, fun x hx => ?_, fun hx => ?_⟩)
  · subst hx
    obtain ⟨hk, Dv⟩ := Ho.yes x rfl
    have D := Dv.at
    have st := step_open (nums := nums) hk Fi.isb
    refine asg_go (callS_go (va_cons (val_var rfl) (va_cons (val_var rfl) va_nil)) ⟨x, rl, s, row, rfl, D, hr, fun c p H1 s1 n1 C1 => ?_, fun c => ?_⟩)
    · rw [if_pos c] at st
      rw [st] at qQ
      generalize Ks345.cardOf row = cd at qQ C1
      refine asg_go (call_go (va_cons (val_var rfl) (va_cons (val_var rfl) va_nil)) ⟨x, p, s, cd, rfl, D.same s1, C1, fun H2 s2 => ?_⟩)
      have s12 := s1.trans s2
      refine if_go (ans_test (b := decide (0 < ans s cd)) (val_op (val_var rfl) val_c fun Q q => ⟨_, _, rfl, rfl, q⟩) _ ?_)
      by_cases g : 0 < ans s cd
      · rw [if_pos g] at qQ
        rw [decide_eq_true g]
        refine iteT (drop1_go (call_go (va_cons (val_var rfl) (va_cons (val_var rfl) va_nil)) ⟨x, p, f, s, cd, rfl, Dv.same s12, C1.same s2, hf.same s12, fun H3 D3 k3 => ?_⟩))
        refine ret_go (lst_go (va_cons (val_var rfl) va_nil) (one_line _) fun p4 n4 => ?_)
        have s4 : Same H3 (L2.upd H3 p4 (.lst [.int (ans s cd)])) := Same.upd0 n4
        have k : Keep H H3 x := (Keep.of s12).trans k3
        obtain ⟨dx3, kk3, bb3, es3, I3, av3⟩ := D3
        exact qQ p4 (some x) _ (k.free I3.obj n4) ((Ho.put k ⟨dx3, kk3, bb3, es3, I3, av3⟩ (learned_keyed hk)).same s4) (frame_put k s4) upd_same
      · rw [if_neg g] at qQ
        rw [decide_eq_false g]
        refine iteF (next_go (ret_go (lst_go (va_cons (val_var rfl) va_nil) (one_line _) fun p4 n4 => ?_)))
        have s4 : Same H (L2.upd H2 p4 (.lst [.int (ans s cd)])) := Same.new s12 n4
        exact qQ p4 (some x) _ (s12.free n4) (Ho.same s4) (Frame.of s4) upd_same
    · rw [if_neg (by rw [c]; decide)] at st
      exact qE (-71) st
  · exact qE (-61) (step_off (by rw [Ho.no hx]; exact off_start) (by decide))
theorem G_do_open (T : Txt K mg a) : Def P w K mg base (L2.CX P w) 8 a.C.f_do_open ["box", "numbers", "row"] (sp_do_open K a) := by
  obtain ⟨fd, F, b⟩ := T.C.d_do_open
  have G_card_in := G_card_in (P := P) (w := w) (base := base) T
  have G_door_of := G_door_of (P := P) (w := w) (base := base) T
  have G_learn := G_learn (P := P) (w := w) (base := base) T
  have G_shown := G_shown (P := P) (w := w) (base := base) T
  refine ⟨⟨fd, F.okX sc_do_open (len_do_open K a) (fun cdv A outer s H vs Q E hr h => ⟨t_do_open K a E, ?_, pure_do_open T vs H Q E h⟩), b⟩, F.kp⟩
  have tk : Takes (cxOf (L2.CX P w) P w K mg base ["box", "numbers", "row", "door", "card", "found"] "do_open" (defScope s_do_open) a.C.f_do_open cdv A outer s H E) (fun cls d0 _ H => E cls d0 H) := takes_of rfl rfl rfl rfl
  exact (pss_cons (ps_set (i := 3) sc_do_open.nd rfl (Or.inl rfl) (by exact (pe_callSD G_door_of (hr.mono (by decide)) rfl T.C.g_door_of (fun s => passAt tk s) (by exact (pa_cons (pv 0) pa_nil)))))
    (pss_cons (ps_set (i := 4) sc_do_open.nd rfl (Or.inl rfl) (by exact (pe_callSD G_card_in (hr.mono (by decide)) rfl T.C.g_card_in (fun s => passAt tk s) (by exact (pa_cons (pv 3) (pa_cons (pv 2) pa_nil))))))
    (pss_cons (ps_set (i := 5) sc_do_open.nd rfl (Or.inl rfl) (by exact (pe_callD G_shown (hr.mono (by decide)) rfl T.B.g_shown pass0 (pa_cons (pv 3) (pa_cons (pv 4) pa_nil)))))
    (pss_cons (ps_if (by exact (pt_cmpR op_gt (pv 5) pe_int (nomark _))) (pss_one (ps_expr (by exact (pe_callD G_learn (hr.mono (by decide)) rfl T.B.g_learn pass0 (pa_cons (pv 3) (pa_cons (pv 4) pa_nil)))))) pss_nil)
    (pss_one (ps_ret (by exact (pe_lst (pa_cons (pv 5) pa_nil)))))))))
end
def t_answer (K : PySem.W.Frag) (a : Ad) : TS :=
  (tSeq (tAsg (tOp (rIxT K) (tC (.ref a.C.x_DEEDS)) (tOp (rIxL K) (tMeth a.C.c_Tape "take_many" (sp_Tape_take_many K a) [] E0 (tVar 1) (tCons (tC (.int 1)) tNil)) (tC (.int 0)))) (gTup K 3 (gCons (gName 2) (gCons (gName 3) (gCons (gName 4) gNil)))))
    (tSeq (tAsg (tMeth a.C.c_Tape "take_many" (sp_Tape_take_many K a) [] E0 (tVar 1) (tCons (tVar 2) tNil)) (gName 5))
    (tSeq (tAsg (tLst tNil) (gName 6))
    (tSeq (tIfS (tB (tVar 3)) (tAsg (tMeth a.C.c_Tape "take_row" (sp_Tape_take_row K a) [] E0 (tVar 1) tNil) (gName 6)) tNext)
    (tSeq (fun D σ H => (fun W => (tAsg (tCallAS 4 (Deeds K a) (WE W) (tCons (tVar 0) (tCons (tVar 5) (tCons (tVar 6) tNil)))) (gName 7))) (wAs K (.ref a.C.c_Refused) 8 (fun a0 cls d0 => (tRet (tLst (tCons (PySem.RefX.tByRef a.C.c_Refused a0 cls d0 (tVar 8)) tNil)))) (fun _ _ _ _ => False) D) D σ H)
    (tRet (tVar 7)))))))
section
variable {P : Program} {w : World} {K : PySem.W.Frag} {mg : Str → Option Value} {base : Heap} {a : Ad}
theorem Def.mono {P : Program} {w : World} {K : PySem.W.Frag} {mg : Str → Option Value} {base : Heap} {CX : CXT} {j k : Nat} {f : Addr} {ps : List Str} {sp : Sp} (h : Def P w K mg base CX j f ps sp) (e : j ≤ k) : Def P w K mg base CX k f ps sp := by
  obtain ⟨⟨fd, F, b⟩, kp⟩ := h
  exact ⟨⟨fd, F.mono e, b⟩, kp⟩
theorem G_deeds (T : Txt K mg a) (f : Addr) (sp : Sp) (h : Deeds K a f sp) : ∃ ps, Def P w K mg base (L2.CX P w) 8 f ps sp := by
  obtain ⟨i, hi, rfl, rfl⟩ := h
  match i, hi with
  | 0, _ => exact ⟨_, (G_do_begin T).mono (by decide)⟩
  | 1, _ => exact ⟨_, (G_do_day T).mono (by decide)⟩
  | 2, _ => exact ⟨_, (G_do_open T).mono (by decide)⟩
  | 3, _ => exact ⟨_, (G_do_would T).mono (by decide)⟩
  | 4, _ => exact ⟨_, (G_do_bolt T).mono (by decide)⟩
  | 5, _ => exact ⟨_, (G_do_book T).mono (by decide)⟩
  | 6, _ => exact ⟨_, (G_do_state T).mono (by decide)⟩
/-- DEEDS at i -/
theorem deed_row (T : Txt K mg a) {i : Nat} (hi : i < 7) : ∃ x, ([.ref a.C.x_D0, .ref a.C.x_D1, .ref a.C.x_D2, .ref a.C.x_D3, .ref a.C.x_D4, .ref a.C.x_D5, .ref a.C.x_D6] : List V)[i]? = some (.ref x) ∧ ∀ H, SqT K H x [nv (manyOf i), .bl (rowOf i), .ref (deedAt a i)] := by
  match i, hi with
  | 0, _ => exact ⟨_, rfl, T.C.t_D0⟩
  | 1, _ => exact ⟨_, rfl, T.C.t_D1⟩
  | 2, _ => exact ⟨_, rfl, T.C.t_D2⟩
  | 3, _ => exact ⟨_, rfl, T.C.t_D3⟩
  | 4, _ => exact ⟨_, rfl, T.C.t_D4⟩
  | 5, _ => exact ⟨_, rfl, T.C.t_D5⟩
  | 6, _ => exact ⟨_, rfl, T.C.t_D6⟩
theorem pure_answer (T : Txt K mg a) (vs : List V) (H : Hp) (Q : VK) (E : XK) (h : sp_answer K a vs H Q E) : t_answer K a { nx := fun _ H' => Q .non H', rt := Q } (start ["box", "tape", "many", "has_row", "deed", "numbers", "row", "found", "refused"] vs) H := by
  obtain ⟨f, box, t, dx, l, d, s, ns, k, i, nums, row, rest, rfl, hf, Ho, I, hk, O, Fi, q⟩ := h
  obtain ⟨xD, hD, tD⟩ := deed_row T O.lt
  have hO := O.eq
  have hlen : ns.length - k = 1 + (nums.length + ((rowPart i row).length + rest.length)) := by
    have := congrArg List.length hO
    rw [List.length_drop, List.length_cons, List.length_append, List.length_append] at this
    omega
  have e1 : (ns.drop k).take 1 = [i] := by
    rw [hO]
    rfl
  have d1 : ns.drop (k + 1) = nums ++ (rowPart i row ++ rest) := by
    rw [← List.drop_drop, hO]
    rfl
  have e2 : (ns.drop (k + 1)).take (manyOf i) = nums := by
    rw [d1, ← O.many, List.take_left']
    rfl
  have d2 : ns.drop (k + 1 + manyOf i) = rowPart i row ++ rest := by
    rw [← List.drop_drop, d1, ← O.many, List.drop_left']
    rfl
  -- many, has_row, deed = DEEDS[tape.take_many(1)[0]]
  refine seq_go (show tAsg _ _ _ _ _ from op_go (op_go (meth_go (val_var rfl) I.obj no_Tape_take_many (va_cons (val_lit (n := 1) rfl) va_nil) ⟨t, dx, l, 1, ns, k, rfl, I, by omega, fun p1 H1 n1 I1 k1 h1 => ?_⟩)))
  rw [e1] at h1
  refine ⟨p1, _, 0, nv i, rfl, rfl, SqL.of h1, atI_nat (j := 0) rfl, ?_⟩
  refine ⟨a.C.x_DEEDS, _, _, .ref xD, rfl, rfl, T.C.t_DEEDS H1, atI_nat hD, ?_⟩
  refine ⟨xD, _, rfl, tD H1, rfl, _, _, rfl, _, _, rfl, _, _, rfl, rfl, ?_⟩
  -- numbers = tape.take_many(many)
  refine asg_go (meth_go (val_var rfl) I1.obj no_Tape_take_many (va_cons (val_var rfl) va_nil) ⟨t, dx, l, manyOf i, ns, k + 1, rfl, I1, by have := O.many; omega, fun p2 H2 n2 I2 k2 h2 => ?_⟩)
  rw [e2] at h2
  have k02 := k1.trans k2
  -- what comes behind, the row being at pr
  have fin : ∀ (pr : Addr) (H3 : Hp), Keep H H3 t → TapeIn a H3 t dx l ns (ns.length - rest.length) → H3 p2 = some (.lst (L nums)) → H3 pr = some (.lst (L row)) → pr ≠ f →
      (tSeq (fun D σ H => (fun W => (tAsg (tCallAS 4 (Deeds K a) (WE W) (tCons (tVar 0) (tCons (tVar 5) (tCons (tVar 6) tNil)))) (gName 7))) (wAs K (.ref a.C.c_Refused) 8 (fun a0 cls d0 => (tRet (tLst (tCons (PySem.RefX.tByRef a.C.c_Refused a0 cls d0 (tVar 8)) tNil)))) (fun _ _ _ _ => False) D) D σ H)
        (tRet (tVar 7))) { nx := fun _ H' => Q .non H', rt := Q } [some (.ref box), some (.ref t), some (nv (manyOf i)), some (.bl (rowOf i)), some (.ref (deedAt a i)), some (.ref p2), some (.ref pr), none, none] H3 := by
    intro pr H3 k3 I3 hp2 hpr npr
    have Ho3 : House a H3 f box d s := Ho.keep k3 I.obj (by rw [len_Tape]; decide) (by rw [len_Tape]; decide) (by rw [len_Tape]; decide)
    have bt : t ≠ box := by
      obtain ⟨db, hb⟩ := Ho3.box
      exact ins_ne I3.obj hb (by rw [len_Tape, len_Box]; decide)
    have dt' : d ≠ some t := fun z => by
      obtain ⟨_, dd, kk, bb, es, D, _⟩ := Ho3.yes t z
      exact absurd rfl (ins_ne I3.obj D.obj (by rw [len_Tape, len_Door]; decide))
    refine seq_go ?_
    refine ⟨deedAt a i, spDeed a i, rfl, ⟨i, O.lt, rfl, rfl⟩, _, rfl, _, rfl, _, rfl, ?_⟩
    refine ⟨f, box, p2, pr, d, s, nums, row, rfl, hf.keep k3 I.obj, npr, Ho3, hp2, hpr, O.many, Fi, fun p d' H4 n4 Ho4 f4 h4 => ?_, fun n st x H4 s4 h4 => ?_⟩
    · have lt4 : H4 l = some (.lst (L ns)) := f4 _ _ I3.lst (fun z => by
        obtain ⟨db, hb⟩ := Ho3.box
        exact lst_ins I3.lst hb z) (fun z => by
        obtain ⟨_, dd, kk, bb, es, D, _⟩ := Ho3.yes l z
        exact lst_ins I3.lst D.obj rfl)
      exact ⟨_, rfl, q p d' H4 (k3.free I3.obj n4) Ho4 ⟨f4 _ _ I3.obj bt dt', lt4⟩ (fun b o hb n1 n2 n3 => f4 _ _ (k3 _ _ hb n3) n1 n2) h4⟩
    · refine ⟨true, T.C.ref.te, fun _ a0 n0 => ?_, fun z => Bool.noConfusion z⟩
      refine ⟨_, rfl, rfl, rfl, x, _, rfl, h4, one_line _, fun p n5 => ?_⟩
      have s5 := Same.new (o := .lst [.int n]) s4 n5
      have q1 := q p d (L2.upd H4 p (.lst [.int n])) (k3.free I3.obj (s4.free n5))
      rw [st] at q1
      exact q1 (Ho3.same s5) ⟨s5 _ _ I3.obj, s5 _ _ I3.lst⟩ (fun b o hb _ _ n3 => s5 _ _ (k3 _ _ hb n3)) upd_same
  -- row = []
  refine asg_go (lst_go va_nil (Nat.zero_le _) fun p3 n3 => ?_)
  have s3 : Same H2 (L2.upd H2 p3 (.lst [])) := Same.upd0 n3
  have h3 : L2.upd H2 p3 (.lst []) p3 = some (.lst (L [])) := upd_same
  have I3 : TapeIn a (L2.upd H2 p3 (.lst [])) t dx l ns (k + 1 + manyOf i) := ⟨s3 _ _ I2.obj, s3 _ _ I2.lst⟩
  have k03 : Keep H (L2.upd H2 p3 (.lst [])) t := k02.trans (Keep.of s3)
  have h23 := s3 _ _ h2
  have np3 : p3 ≠ f := (hf.keep k02 I.obj).ne n3
  generalize L2.upd H2 p3 (.lst []) = H3 at h3 I3 k03 h23
  -- if has_row: row = tape.take_row()
  refine if_go ⟨_, rfl, _, rfl, ?_⟩
  have hm := O.many
  cases hr : rowOf i with
  | true =>
    have er : rowPart i row = row.length :: row := by
      unfold rowPart
      rw [hr, if_pos rfl]
    rw [er] at hlen d2
    rw [List.length_cons] at hlen
    rw [hr] at fin
    refine iteT (asg1_go (meth_go (val_var rfl) I3.obj no_Tape_take_row va_nil ⟨t, dx, l, ns, k + 1 + manyOf i, row, rest, rfl, I3, d2, fun p4 H4 n4 T4 k4 h4 => ?_⟩))
    refine fin p4 H4 (k03.trans k4) ?_ (k4 _ _ h23 (lst_ins h23 I3.obj)) h4 ((hf.keep k03 I.obj).ne n4)
    have e : ns.length - rest.length = k + 1 + manyOf i + 1 + row.length := by omega
    rw [e]
    exact T4
  | false =>
    have er : rowPart i row = [] := by
      unfold rowPart
      rw [hr, if_neg Bool.false_ne_true]
    have e0 := O.norow hr
    rw [er] at hlen
    rw [hr] at fin
    refine iteF (next_go (fin p3 H3 k03 ?_ h23 (by rw [e0]; exact h3) np3))
    have e : ns.length - rest.length = k + 1 + manyOf i := by
      rw [List.length_nil] at hlen
      omega
    rw [e]
    exact I3
theorem G_answer (T : Txt K mg a) : Def P w K mg base CX0 9 a.C.f_answer ["box", "tape"] (sp_answer K a) := by
  obtain ⟨fd, F, b⟩ := T.C.d_answer
  have G_Tape_take_many := G_Tape_take_many (P := P) (w := w) (base := base) T
  have G_Tape_take_row := G_Tape_take_row (P := P) (w := w) (base := base) T
  refine ⟨⟨fd, F.ok sc_answer (len_answer K a) (fun cdv A outer s H vs Q E hr h => ⟨t_answer K a, ?_, pure_answer T vs H Q E h⟩), b⟩, F.kp⟩
  exact (pss_cons (ps_asg (by exact (pe_ix ix_tup (pe_glob rfl T.C.g_DEEDS rfl) (pe_ix ix_list (pe_methD (pv 1) T.C.cl_Tape T.C.m_Tape_take_many G_Tape_take_many (hr.mono (by decide)) pass0 (pa_cons pe_int pa_nil)) pe_int (fun _ _ => rfl)) (fun _ _ => rfl))) (pg_tup (by rfl) (pgs_cons (pg_name (i := 2) sc_answer.nd rfl (Or.inl rfl)) (pgs_cons (pg_name (i := 3) sc_answer.nd rfl (Or.inl rfl)) (pgs_cons (pg_name (i := 4) sc_answer.nd rfl (Or.inl rfl)) pgs_nil)))))
    (pss_cons (ps_set (i := 5) sc_answer.nd rfl (Or.inl rfl) (by exact (pe_methD (pv 1) T.C.cl_Tape T.C.m_Tape_take_many G_Tape_take_many (hr.mono (by decide)) pass0 (pa_cons (pv 2) pa_nil))))
    (pss_cons (ps_set (i := 6) sc_answer.nd rfl (Or.inl rfl) (by exact (pe_lst pa_nil)))
    (pss_cons (ps_if (by exact (pt_val (pv 3))) (pss_one (ps_set (i := 6) sc_answer.nd rfl (Or.inl rfl) (by exact (pe_meth0D (pv 1) T.C.cl_Tape T.C.m_Tape_take_row G_Tape_take_row (hr.mono (by decide)) pass0)))) pss_nil)
    (pss_cons (ps_try_as (i := 8) (tb := fun W => (tAsg (tCallAS 4 (Deeds K a) (WE W) (tCons (tVar 0) (tCons (tVar 5) (tCons (tVar 6) tNil)))) (gName 7))) (ts := (fun a0 cls d0 => (tRet (tLst (tCons (PySem.RefX.tByRef a.C.c_Refused a0 cls d0 (tVar 8)) tNil))))) (Wout := fun _ _ _ _ => False) rfl rfl sc_answer.nd rfl rfl ⟨rfl, by decide, Or.inl T.C.ref.gC⟩ takes0 (fun W pn xe tk _ => (pss_one (ps_set (i := 7) sc_answer.nd rfl (Or.inl rfl) (by exact (pe_callAS (G_deeds T) (hr.mono (by decide)) rfl (by first | exact Or.inl rfl) (fun s => passAt tk s) (by exact (pa_cons (pv 0) (pa_cons (pv 5) (pa_cons (pv 6) pa_nil))))))))) (fun a0 oe cls d0 pn hz hf => (pss_one (ps_ret (by exact (pe_lst (pa_cons (PySem.RefX.pe_byRef T.C.ref hz hf (pv 8)) pa_nil)))))))
    (pss_one (ps_ret (by exact (pv 7)))))))))
end
def t_answers (K : PySem.W.Frag) (a : Ad) : TS :=
  (tSeq (tAsg (tMake a.C.c_Box (sp_Box_init K a) [] E0 tNil) (gName 1))
    (tSeq (tAsg (tMake a.C.c_Tape (sp_Tape_init K a) [] E0 (tCons (tVar 0) tNil)) (gName 2))
    (tSeq (tAsg (tLst tNil) (gName 3))
    (tSeq (tWhile (tNot (tB (tMeth a.C.c_Tape "is_done" (sp_Tape_is_done K a) [] E0 (tVar 2) tNil))) (tSeq (tAsg (tCall (sp_answer K a) [] E0 (tCons (tVar 1) (tCons (tVar 2) tNil))) (gName 4))
    (tSeq (tDrop (tBM K "list" rAppend (tVar 3) (tCons (tCB (rLen K) (tCons (tVar 4) tNil)) tNil)))
    (tDrop (tBM K "list" rExtend (tVar 3) (tCons (tVar 4) tNil))))))
    (tRet (tVar 3))))))
section
variable {P : Program} {w : World} {K : PySem.W.Frag} {mg : Str → Option Value} {base : Heap} {a : Ad}
/-- how the loop of answers stands, m numbers from the end -/
structure Turn (a : Ad) (ns : List Int) (ms : List Nat) (qa x t dt lt f : Addr) (m : Nat) (σ : L2.St) (H : Hp) : Prop where
  ex : ∃ (k fuel : Nat) (raw : List (List (List Int))) (s : Ks346.Abs) (done : List Int) (d : Option Addr) (u : Option V), σ = [some (.ref qa), some (.ref x), some (.ref t), some (.ref f), u] ∧ m = ms.length - k ∧ k ≤ ms.length ∧
    House a H f x d s ∧ TapeIn a H t dt lt ms k ∧ H f = some (.lst (done.map V.int)) ∧ Stand (PyKs346.answers ns) fuel (ms.drop k) raw s done
theorem big_line {n : Nat} (h : n ≤ 10000000) : n ≤ sizeLine := Nat.le_trans h (by decide)
theorem stand_len {total : List Int} {f : Nat} {rest : List Nat} {raw : List (List (List Int))} {s : Ks346.Abs} {done : List Int} (h : Stand total f rest raw s done) : done.length ≤ total.length := by
  rw [← h.eq, List.length_append]
  exact Nat.le_add_right _ _
theorem pure_answers (T : Txt K mg a) (vs : List V) (H : Hp) (Q : VK) (E : XK) (h : sp_answers K a vs H Q E) : t_answers K a { nx := fun _ H' => Q .non H', rt := Q } (start ["calls", "box", "tape", "found", "told"] vs) H := by
  obtain ⟨qa, ns, ms, raw, rfl, hq, Li, q⟩ := h
  rw [Li.eq, L_I] at hq
  -- box = Box()
  refine asg_go (make_go va_nil fun x dx nx nd ne => ⟨x, dx, rfl, upd_same, fun H1 B1 k1 => ⟨rfl, ?_⟩⟩)
  have s1 := made_same nx nd k1
  -- tape = Tape(calls)
  refine asg_go (make_go (va_cons (val_var rfl) va_nil) fun t dt nt ndt net => ?_)
  have k0 : Same H1 (L2.upd (L2.upd H1 dt (.own t)) t (.ins a.C.c_Tape dt [])) := Same.new (Same.upd0 ndt) (by rw [upd_ne (Ne.symm net)]; exact nt)
  refine ⟨t, dt, qa, ms, rfl, upd_same, (s1.trans k0).seq hq, fun H2 T2 k2 => ⟨rfl, ?_⟩⟩
  have s2 := made_same nt ndt k2
  -- found = []
  refine asg_go (lst_go va_nil (Nat.zero_le _) fun f nf => ?_)
  have s3 : Same H2 (L2.upd H2 f (.lst [])) := Same.upd0 nf
  have hf : L2.upd H2 f (.lst []) f = some (.lst []) := upd_same
  have B3 := (B1.same s2).same s3
  obtain ⟨dt2, lt2, I2⟩ := T2
  have I3 : TapeIn a (L2.upd H2 f (.lst [])) t dt2 lt2 ms 0 := ⟨s3 _ _ I2.obj, s3 _ _ I2.lst⟩
  -- the list on the tape is not the list found
  have nlf : lt2 ≠ f := ne_of_none I2.lst nf
  generalize L2.upd H2 f (.lst []) = H3 at hf B3 I3
  clear nf s3 I2 s2 k2 k0 k1 s1 nx nd ne nt ndt net
  refine seq_go ⟨fun m σ H' => Turn a ns ms qa x t dt2 lt2 f m σ H', ⟨ms.length, ⟨0, ms.length, raw, Ks346Neutral.start, [], none, none, rfl, rfl, Nat.zero_le _, ⟨B3, fun _ => rfl, fun y hy => by (cases hy)⟩, I3, hf, ?_⟩⟩, ?_⟩
  · rw [List.drop_zero]
    exact ⟨Li.go, Li.ok, Li.due.symm⟩
  · rintro m σ H' ⟨k, fuel, raw', s, done, d, u, rfl, rfl, hk, Ho, I, hd, St⟩
    refine meth_go (val_var rfl) I.obj no_Tape_is_done va_nil ⟨t, ms, k, rfl, ⟨dt2, lt2, I⟩, ⟨_, rfl, ?_⟩⟩
    by_cases c : ms.length ≤ k
    · rw [decide_eq_true c]
      refine iteF ⟨_, rfl, q H' f ?_⟩
      rw [List.drop_eq_nil_of_le c] at St
      rw [← stand_end St]
      exact hd
    · rw [decide_eq_false c]
      refine iteT ⟨fun σ' H'' => ∃ m', m' < ms.length - k ∧ Turn a ns ms qa x t dt2 lt2 f m' σ' H'', fun _ _ z => z, ?_⟩
      have hc := List.drop_eq_getElem_cons (l := ms) (i := k) (by omega)
      rw [hc] at St
      obtain ⟨i, nums, row, rest, f', raw'', O, Fi, St'⟩ := stand_turn St
      rw [← hc] at O
      have hlen : rest.length < ms.length - k := by
        have := congrArg List.length O.eq
        rw [List.length_drop, List.length_cons, List.length_append, List.length_append] at this
        omega
      have hrest : ms.drop (ms.length - rest.length) = rest := by
        have e := O.eq
        have e2 : ms.length - rest.length = k + (ms.length - k - rest.length) := by omega
        rw [e2, ← List.drop_drop, e]
        have e3 : i :: (nums ++ (rowPart i row ++ rest)) = (i :: (nums ++ rowPart i row)) ++ rest := by
          rw [List.cons_append, List.append_assoc]
        rw [e3, List.drop_left']
        have := congrArg List.length e
        rw [e3, List.length_drop, List.length_append] at this
        omega
      have len1 := stand_len St'
      have short := Li.short
      -- told = answer(box, tape)
      refine asg_go (call_go (va_cons (val_var rfl) (va_cons (val_var rfl) va_nil)) ⟨f, x, t, dt2, lt2, d, s, ms, k, i, nums, row, rest, rfl, ⟨_, hd⟩, Ho, I, hk, O, Fi, fun p d' H4 n4 Ho4 I4 f4 h4 => ?_⟩)
      generalize stepOf s i nums row = st at St' Ho4 h4 len1
      obtain ⟨s', told⟩ := st
      dsimp only at St' Ho4 h4 len1
      rw [List.length_append, List.length_append, List.length_singleton] at len1
      have hd4 : H4 f = some (.lst (done.map V.int)) := f4 _ _ hd (fun z => by
        obtain ⟨db, hb⟩ := Ho.box
        exact lst_ins hd hb z) (fun z => by
        obtain ⟨_, dd, kk, bb, es, D, _⟩ := Ho.yes f z
        exact lst_ins hd D.obj rfl) (lst_ins hd I.obj)
      have npf : p ≠ f := LstAt.ne ⟨_, hd⟩ n4
      -- found.append(len(told))
      refine drop_go ⟨_, rfl, .inl ⟨rfl, _, .inl (.inl hd4)⟩, ?_⟩
      refine (val_len (K := K) (val_var rfl) (SqL.of h4)) _ ?_
      refine ⟨f, _, _, rfl, rfl, hd4, ?_, ?_⟩
      · rw [List.length_map]
        exact Nat.lt_of_lt_of_le (Nat.lt_succ_self _) (big_line (by omega))
      have k5 : Keep H4 (L2.upd H4 f (.lst (done.map V.int ++ [nv (told.map V.int).length]))) f := (Keep.refl H4 f).upd
      have h5 : L2.upd H4 f (.lst (done.map V.int ++ [nv (told.map V.int).length])) f = some (.lst (done.map V.int ++ [nv (told.map V.int).length])) := upd_same
      have p5 := k5 _ _ h4 npf
      have Ho5 := Ho4.lst k5 hd4
      have I5 : TapeIn a (L2.upd H4 f (.lst (done.map V.int ++ [nv (told.map V.int).length]))) t dt2 lt2 ms (ms.length - rest.length) := ⟨k5 _ _ I4.obj (Ne.symm (lst_ins hd4 I4.obj)), k5 _ _ I4.lst nlf⟩
      generalize L2.upd H4 f (.lst (done.map V.int ++ [nv (told.map V.int).length])) = H5 at h5 p5 Ho5 I5
      -- found.extend(told)
      refine drop1_go ⟨_, rfl, .inl ⟨rfl, _, .inl (.inl h5)⟩, _, rfl, f, p, _, _, rfl, rfl, h5, p5, ?_, ?_⟩
      · rw [List.length_append, List.length_map, List.length_map, List.length_singleton]
        exact big_line (by omega)
      have k6 : Keep H5 (L2.upd H5 f (.lst (done.map V.int ++ [nv (told.map V.int).length] ++ told.map V.int))) f := (Keep.refl H5 f).upd
      refine ⟨rest.length, hlen, ms.length - rest.length, f', raw'', s', done ++ [((told.length : Nat) : Int)] ++ told, d', _, rfl, by omega, Nat.sub_le _ _, Ho5.lst k6 h5, ⟨k6 _ _ I5.obj (Ne.symm (lst_ins h5 I5.obj)), k6 _ _ I5.lst nlf⟩, ?_, ?_⟩
      · rw [List.map_append, List.map_append, List.length_map]
        exact upd_same
      · rw [hrest]
        exact St'
theorem fn_answers (T : Txt K mg a) {fd : FuncData} (F : Fun K "answers" "answers" s_answers a.C.f_answers fd) : FnOk P w K mg base CX0 10 a.C.f_answers fd ["calls"] (sp_answers K a) := by
  have G_Box_init := G_Box_init (P := P) (w := w) (base := base) T
  have G_Tape_init := G_Tape_init (P := P) (w := w) (base := base) T
  have G_Tape_is_done := G_Tape_is_done (P := P) (w := w) (base := base) T
  have G_answer := G_answer (P := P) (w := w) (base := base) T
  refine F.ok sc_answers (len_answers K a) (fun cdv A outer s H vs Q E hr h => ⟨t_answers K a, ?_, pure_answers T vs H Q E h⟩)
  exact (pss_cons (ps_set (i := 1) sc_answers.nd rfl (Or.inl rfl) (by exact (pe_make0D T.C.mk_Box G_Box_init (hr.mono (by decide)) rfl T.C.g_Box pass0)))
    (pss_cons (ps_set (i := 2) sc_answers.nd rfl (Or.inl rfl) (by exact (pe_makeD T.C.mk_Tape G_Tape_init (hr.mono (by decide)) rfl T.C.g_Tape pass0 (pa_cons (pv 0) pa_nil))))
    (pss_cons (ps_set (i := 3) sc_answers.nd rfl (Or.inl rfl) (by exact (pe_lst pa_nil)))
    (pss_cons (ps_while PassesOwn.never (by exact (pt_not (pt_val (pe_meth0D (pv 2) T.C.cl_Tape T.C.m_Tape_is_done G_Tape_is_done (hr.mono (by decide)) pass0)))) (pss_cons (ps_set (i := 4) sc_answers.nd rfl (Or.inl rfl) (by exact (pe_callD G_answer (hr.mono (by decide)) rfl T.C.g_answer pass0 (pa_cons (pv 1) (pa_cons (pv 2) pa_nil)))))
    (pss_cons (ps_expr (by exact (pe_bm PySem.F.plainAttrs_list PySem.F.slot_list_append PySem.F.type_list_append mt_append (pv 3) (pa_cons (pe_callB call_len_seq (by rfl) T.A.n_len PySem.boot_len (pa_cons (pv 4) pa_nil)) pa_nil))))
    (pss_one (ps_expr (by exact (pe_bm PySem.F.plainAttrs_list PySem.F.slot_list_extend PySem.F.type_list_extend mt_extend (pv 3) (pa_cons (pv 4) pa_nil))))))))
    (pss_one (ps_ret (by exact (pv 3))))))))
end
/-- an error of the class at S is what «except S» names -/
theorem exm_self {K : PySem.W.Frag} {S : Addr} (h1 : PySem.W.subIn K (.ref S) (.type "BaseException") = some true) (h2 : PySem.W.isClsIn K S = true) (h3 : PySem.W.typeIn K (.ref S) = some (.type "type")) (h4 : PySem.W.subIn K (.ref S) (.ref S) = some true) :
    PySem.W.exmOne K (.ref S) (.ref S) = some true := by
  have e1 : (PySem.W.subIn K (.ref S) (.type "BaseException") == some true) = true := by rw [h1] <;> rfl
  have e2 : ((PySem.W.clsIn K S).isSome && PySem.W.typeIn K (.ref S) == some (.type "type")) = true := by
    have h2' : (PySem.W.clsIn K S).isSome = true := h2
    rw [h2', h3] <;> rfl
  show (if (PySem.W.subIn K (.ref S) (.type "BaseException") == some true) = true then (if ((PySem.W.clsIn K S).isSome && PySem.W.typeIn K (.ref S) == some (.type "type")) = true then PySem.W.subIn K (.ref S) (.ref S) else none) else none) = some true
  rw [if_pos e1, if_pos e2]
  exact h4
theorem mkA {K : PySem.W.Frag} {h : Heap} {mg : Str → Option Value} {C : Prop} (X : K.In h) (G : h.Ns mainGlobals mg)
    {c_Mixer f_Mixer_init f_Mixer_turn_once f_Mixer_rounds f_Mixer_take f_Mixer_result f_turned f_number_of f_bytes_of f_tag_of x_STARTS : Addr}
    {t_WHOLE : Tok}
    {t_WORD : Tok}
    {t_LAST_MARK : Tok}
    {oc_Mixer_init kV_Mixer_init dc_Mixer_init pm_Mixer_init cd_Mixer_init ct_Mixer_init : Value} {od_Mixer_init an_Mixer_init : Option Addr} {sl_Mixer_init : Array (Option Value)}
    {oc_Mixer_turn_once kV_Mixer_turn_once dc_Mixer_turn_once pm_Mixer_turn_once cd_Mixer_turn_once ct_Mixer_turn_once : Value} {od_Mixer_turn_once an_Mixer_turn_once : Option Addr} {sl_Mixer_turn_once : Array (Option Value)}
    {oc_Mixer_rounds kV_Mixer_rounds dc_Mixer_rounds pm_Mixer_rounds cd_Mixer_rounds ct_Mixer_rounds : Value} {od_Mixer_rounds an_Mixer_rounds : Option Addr} {sl_Mixer_rounds : Array (Option Value)}
    {oc_Mixer_take kV_Mixer_take dc_Mixer_take pm_Mixer_take cd_Mixer_take ct_Mixer_take : Value} {od_Mixer_take an_Mixer_take : Option Addr} {sl_Mixer_take : Array (Option Value)}
    {oc_Mixer_result kV_Mixer_result dc_Mixer_result pm_Mixer_result cd_Mixer_result ct_Mixer_result : Value} {od_Mixer_result an_Mixer_result : Option Addr} {sl_Mixer_result : Array (Option Value)}
    {oc_turned kV_turned dc_turned pm_turned cd_turned ct_turned : Value} {od_turned an_turned : Option Addr} {sl_turned : Array (Option Value)}
    {oc_number_of kV_number_of dc_number_of pm_number_of cd_number_of ct_number_of : Value} {od_number_of an_number_of : Option Addr} {sl_number_of : Array (Option Value)}
    {oc_bytes_of kV_bytes_of dc_bytes_of pm_bytes_of cd_bytes_of ct_bytes_of : Value} {od_bytes_of an_bytes_of : Option Addr} {sl_bytes_of : Array (Option Value)}
    {oc_tag_of kV_tag_of dc_tag_of pm_tag_of cd_tag_of ct_tag_of : Value} {od_tag_of an_tag_of : Option Addr} {sl_tag_of : Array (Option Value)}
    {u0 u1 u2 u3 : Tok}
    {dd_STARTS : Option Addr} {nn_STARTS : Nat} {ss_STARTS : Array (Option Value)}
    (n_len : PySem.W.nsIn K mainGlobals "len" = some none)
    (n_int : PySem.W.nsIn K mainGlobals "int" = some none)
    (n_list : PySem.W.nsIn K mainGlobals "list" = some none)
    (n_range : PySem.W.nsIn K mainGlobals "range" = some none)
    (n_reversed : PySem.W.nsIn K mainGlobals "reversed" = some none)
    (q_WHOLE : PySem.W.nsIn K mainGlobals "WHOLE" = some (some (.int 18446744073709551616 t_WHOLE)))
    (q_WORD : PySem.W.nsIn K mainGlobals "WORD" = some (some (.int 8 t_WORD)))
    (q_LAST_MARK : PySem.W.nsIn K mainGlobals "LAST_MARK" = some (some (.int 255 t_LAST_MARK)))
    (a_Mixer : PySem.W.nsIn K mainGlobals "Mixer" = some (some (.ref c_Mixer)))
    (pg_Mixer : PySem.W.plainGet K c_Mixer Str.empty = true)
    (hd_Mixer : PySem.W.hasDictIn K c_Mixer = true)
    (po_Mixer : PySem.W.plainOver K c_Mixer = true)
    (sa_Mixer : PySem.W.findIn K (.ref c_Mixer) "__setattr__" = some (some (.builtin "object.__setattr__")))
    (mk_Mixer : PySem.W.makesIn K c_Mixer = true)
    (kc_Mixer : PySem.W.keepIn K (.ref c_Mixer) = true)
    (n_Mixer_a : PySem.W.findIn K (.ref c_Mixer) "a" = some none)
    (n_Mixer_b : PySem.W.findIn K (.ref c_Mixer) "b" = some none)
    (n_Mixer_c : PySem.W.findIn K (.ref c_Mixer) "c" = some none)
    (n_Mixer_d : PySem.W.findIn K (.ref c_Mixer) "d" = some none)
    (a_Mixer_init : PySem.W.findIn K (.ref c_Mixer) "__init__" = some (some (.ref f_Mixer_init)))
    (i_Mixer_init : PySem.W.isFn K (.ref f_Mixer_init) = true)
    (a_Mixer_turn_once : PySem.W.findIn K (.ref c_Mixer) "turn_once" = some (some (.ref f_Mixer_turn_once)))
    (i_Mixer_turn_once : PySem.W.isFn K (.ref f_Mixer_turn_once) = true)
    (a_Mixer_rounds : PySem.W.findIn K (.ref c_Mixer) "rounds" = some (some (.ref f_Mixer_rounds)))
    (i_Mixer_rounds : PySem.W.isFn K (.ref f_Mixer_rounds) = true)
    (a_Mixer_take : PySem.W.findIn K (.ref c_Mixer) "take" = some (some (.ref f_Mixer_take)))
    (i_Mixer_take : PySem.W.isFn K (.ref f_Mixer_take) = true)
    (a_Mixer_result : PySem.W.findIn K (.ref c_Mixer) "result" = some (some (.ref f_Mixer_result)))
    (i_Mixer_result : PySem.W.isFn K (.ref f_Mixer_result) = true)
    (l_Mixer_init : K.lookup f_Mixer_init = some ⟨oc_Mixer_init, od_Mixer_init, .func (PySem.W.fnOf "__init__" "Mixer.__init__" (defArgs s_Mixer_init) (defBody s_Mixer_init) (defScope s_Mixer_init) .none kV_Mixer_init dc_Mixer_init pm_Mixer_init an_Mixer_init cd_Mixer_init ct_Mixer_init), sl_Mixer_init⟩)
    (e_Mixer_init : PySem.W.codeIn K cd_Mixer_init "Mixer.__init__" = true)
    (k_Mixer_init : PySem.W.keepIn K (.ref f_Mixer_init) = true)
    (l_Mixer_turn_once : K.lookup f_Mixer_turn_once = some ⟨oc_Mixer_turn_once, od_Mixer_turn_once, .func (PySem.W.fnOf "turn_once" "Mixer.turn_once" (defArgs s_Mixer_turn_once) (defBody s_Mixer_turn_once) (defScope s_Mixer_turn_once) .none kV_Mixer_turn_once dc_Mixer_turn_once pm_Mixer_turn_once an_Mixer_turn_once cd_Mixer_turn_once ct_Mixer_turn_once), sl_Mixer_turn_once⟩)
    (e_Mixer_turn_once : PySem.W.codeIn K cd_Mixer_turn_once "Mixer.turn_once" = true)
    (k_Mixer_turn_once : PySem.W.keepIn K (.ref f_Mixer_turn_once) = true)
    (l_Mixer_rounds : K.lookup f_Mixer_rounds = some ⟨oc_Mixer_rounds, od_Mixer_rounds, .func (PySem.W.fnOf "rounds" "Mixer.rounds" (defArgs s_Mixer_rounds) (defBody s_Mixer_rounds) (defScope s_Mixer_rounds) .none kV_Mixer_rounds dc_Mixer_rounds pm_Mixer_rounds an_Mixer_rounds cd_Mixer_rounds ct_Mixer_rounds), sl_Mixer_rounds⟩)
    (e_Mixer_rounds : PySem.W.codeIn K cd_Mixer_rounds "Mixer.rounds" = true)
    (k_Mixer_rounds : PySem.W.keepIn K (.ref f_Mixer_rounds) = true)
    (l_Mixer_take : K.lookup f_Mixer_take = some ⟨oc_Mixer_take, od_Mixer_take, .func (PySem.W.fnOf "take" "Mixer.take" (defArgs s_Mixer_take) (defBody s_Mixer_take) (defScope s_Mixer_take) .none kV_Mixer_take dc_Mixer_take pm_Mixer_take an_Mixer_take cd_Mixer_take ct_Mixer_take), sl_Mixer_take⟩)
    (e_Mixer_take : PySem.W.codeIn K cd_Mixer_take "Mixer.take" = true)
    (k_Mixer_take : PySem.W.keepIn K (.ref f_Mixer_take) = true)
    (l_Mixer_result : K.lookup f_Mixer_result = some ⟨oc_Mixer_result, od_Mixer_result, .func (PySem.W.fnOf "result" "Mixer.result" (defArgs s_Mixer_result) (defBody s_Mixer_result) (defScope s_Mixer_result) .none kV_Mixer_result dc_Mixer_result pm_Mixer_result an_Mixer_result cd_Mixer_result ct_Mixer_result), sl_Mixer_result⟩)
    (e_Mixer_result : PySem.W.codeIn K cd_Mixer_result "Mixer.result" = true)
    (k_Mixer_result : PySem.W.keepIn K (.ref f_Mixer_result) = true)
    (a_turned : PySem.W.nsIn K mainGlobals "turned" = some (some (.ref f_turned)))
    (l_turned : K.lookup f_turned = some ⟨oc_turned, od_turned, .func (PySem.W.fnOf "turned" "turned" (defArgs s_turned) (defBody s_turned) (defScope s_turned) .none kV_turned dc_turned pm_turned an_turned cd_turned ct_turned), sl_turned⟩)
    (e_turned : PySem.W.codeIn K cd_turned "turned" = true)
    (k_turned : PySem.W.keepIn K (.ref f_turned) = true)
    (a_number_of : PySem.W.nsIn K mainGlobals "number_of" = some (some (.ref f_number_of)))
    (l_number_of : K.lookup f_number_of = some ⟨oc_number_of, od_number_of, .func (PySem.W.fnOf "number_of" "number_of" (defArgs s_number_of) (defBody s_number_of) (defScope s_number_of) .none kV_number_of dc_number_of pm_number_of an_number_of cd_number_of ct_number_of), sl_number_of⟩)
    (e_number_of : PySem.W.codeIn K cd_number_of "number_of" = true)
    (k_number_of : PySem.W.keepIn K (.ref f_number_of) = true)
    (a_bytes_of : PySem.W.nsIn K mainGlobals "bytes_of" = some (some (.ref f_bytes_of)))
    (l_bytes_of : K.lookup f_bytes_of = some ⟨oc_bytes_of, od_bytes_of, .func (PySem.W.fnOf "bytes_of" "bytes_of" (defArgs s_bytes_of) (defBody s_bytes_of) (defScope s_bytes_of) .none kV_bytes_of dc_bytes_of pm_bytes_of an_bytes_of cd_bytes_of ct_bytes_of), sl_bytes_of⟩)
    (e_bytes_of : PySem.W.codeIn K cd_bytes_of "bytes_of" = true)
    (k_bytes_of : PySem.W.keepIn K (.ref f_bytes_of) = true)
    (a_tag_of : PySem.W.nsIn K mainGlobals "tag_of" = some (some (.ref f_tag_of)))
    (l_tag_of : K.lookup f_tag_of = some ⟨oc_tag_of, od_tag_of, .func (PySem.W.fnOf "tag_of" "tag_of" (defArgs s_tag_of) (defBody s_tag_of) (defScope s_tag_of) .none kV_tag_of dc_tag_of pm_tag_of an_tag_of cd_tag_of ct_tag_of), sl_tag_of⟩)
    (e_tag_of : PySem.W.codeIn K cd_tag_of "tag_of" = true)
    (k_tag_of : PySem.W.keepIn K (.ref f_tag_of) = true)
    (a_STARTS : PySem.W.nsIn K mainGlobals "STARTS" = some (some (.ref x_STARTS)))
    (z_STARTS : K.lookup x_STARTS = some ⟨.type "tuple", dd_STARTS, .seq #[.int 8317987319222330741 u0, .int 7237128888997146477 u1, .int 7816392313619706465 u2, .int 8387220255154660723 u3] nn_STARTS, ss_STARTS⟩)
    (go : ∀ a : AdA, TxtA K mg a → C) : C :=
  go ⟨c_Mixer, f_Mixer_init, f_Mixer_turn_once, f_Mixer_rounds, f_Mixer_take, f_Mixer_result, f_turned, f_number_of, f_bytes_of, f_tag_of, x_STARTS⟩ {
    n_len := PySem.W.mg_none_of X G n_len,
    n_int := PySem.W.mg_none_of X G n_int,
    n_list := PySem.W.mg_none_of X G n_list,
    n_range := PySem.W.mg_none_of X G n_range,
    n_reversed := PySem.W.mg_none_of X G n_reversed,
    c_WHOLE := ⟨_, PySem.W.mg_of X G q_WHOLE⟩,
    c_WORD := ⟨_, PySem.W.mg_of X G q_WORD⟩,
    c_LAST_MARK := ⟨_, PySem.W.mg_of X G q_LAST_MARK⟩,
    cl_Mixer := ⟨pg_Mixer, hd_Mixer, po_Mixer, sa_Mixer⟩,
    mk_Mixer := ⟨mk_Mixer, a_Mixer_init, i_Mixer_init, kc_Mixer⟩,
    g_Mixer := PySem.W.mg_of X G a_Mixer,
    n_Mixer_a := n_Mixer_a,
    n_Mixer_b := n_Mixer_b,
    n_Mixer_c := n_Mixer_c,
    n_Mixer_d := n_Mixer_d,
    m_Mixer_turn_once := ⟨a_Mixer_turn_once, i_Mixer_turn_once, k_Mixer_turn_once⟩,
    m_Mixer_rounds := ⟨a_Mixer_rounds, i_Mixer_rounds, k_Mixer_rounds⟩,
    m_Mixer_take := ⟨a_Mixer_take, i_Mixer_take, k_Mixer_take⟩,
    m_Mixer_result := ⟨a_Mixer_result, i_Mixer_result, k_Mixer_result⟩,
    d_Mixer_init := ⟨_, fun_mk (st := s_Mixer_init) l_Mixer_init e_Mixer_init k_Mixer_init, (fun_mk (st := s_Mixer_init) l_Mixer_init e_Mixer_init k_Mixer_init).binds (ps := ["self", "k", "l"]) fun _ _ _ _ _ _ us hl => match us, hl with | [_, _, _], _ => rfl⟩,
    d_Mixer_turn_once := ⟨_, fun_mk (st := s_Mixer_turn_once) l_Mixer_turn_once e_Mixer_turn_once k_Mixer_turn_once, (fun_mk (st := s_Mixer_turn_once) l_Mixer_turn_once e_Mixer_turn_once k_Mixer_turn_once).binds (ps := ["self"]) fun _ _ _ _ _ _ us hl => match us, hl with | [_], _ => rfl⟩,
    d_Mixer_rounds := ⟨_, fun_mk (st := s_Mixer_rounds) l_Mixer_rounds e_Mixer_rounds k_Mixer_rounds, (fun_mk (st := s_Mixer_rounds) l_Mixer_rounds e_Mixer_rounds k_Mixer_rounds).binds (ps := ["self", "many"]) fun _ _ _ _ _ _ us hl => match us, hl with | [_, _], _ => rfl⟩,
    d_Mixer_take := ⟨_, fun_mk (st := s_Mixer_take) l_Mixer_take e_Mixer_take k_Mixer_take, (fun_mk (st := s_Mixer_take) l_Mixer_take e_Mixer_take k_Mixer_take).binds (ps := ["self", "word"]) fun _ _ _ _ _ _ us hl => match us, hl with | [_, _], _ => rfl⟩,
    d_Mixer_result := ⟨_, fun_mk (st := s_Mixer_result) l_Mixer_result e_Mixer_result k_Mixer_result, (fun_mk (st := s_Mixer_result) l_Mixer_result e_Mixer_result k_Mixer_result).binds (ps := ["self"]) fun _ _ _ _ _ _ us hl => match us, hl with | [_], _ => rfl⟩,
    g_turned := PySem.W.mg_of X G a_turned,
    d_turned := ⟨_, fun_mk (st := s_turned) l_turned e_turned k_turned, (fun_mk (st := s_turned) l_turned e_turned k_turned).binds (ps := ["number", "places"]) fun _ _ _ _ _ _ us hl => match us, hl with | [_, _], _ => rfl⟩,
    g_number_of := PySem.W.mg_of X G a_number_of,
    d_number_of := ⟨_, fun_mk (st := s_number_of) l_number_of e_number_of k_number_of, (fun_mk (st := s_number_of) l_number_of e_number_of k_number_of).binds (ps := ["row"]) fun _ _ _ _ _ _ us hl => match us, hl with | [_], _ => rfl⟩,
    g_bytes_of := PySem.W.mg_of X G a_bytes_of,
    d_bytes_of := ⟨_, fun_mk (st := s_bytes_of) l_bytes_of e_bytes_of k_bytes_of, (fun_mk (st := s_bytes_of) l_bytes_of e_bytes_of k_bytes_of).binds (ps := ["number"]) fun _ _ _ _ _ _ us hl => match us, hl with | [_], _ => rfl⟩,
    g_tag_of := PySem.W.mg_of X G a_tag_of,
    d_tag_of := ⟨_, fun_mk (st := s_tag_of) l_tag_of e_tag_of k_tag_of, (fun_mk (st := s_tag_of) l_tag_of e_tag_of k_tag_of).binds (ps := ["key", "message"]) fun _ _ _ _ _ _ us hl => match us, hl with | [_, _], _ => rfl⟩,
    g_STARTS := PySem.W.mg_of X G a_STARTS,
    t_STARTS := fun H => .inr ⟨_, _, _, z_STARTS, rfl, rfl, by show 4 ≤ sizeLine; decide, (.cons ⟨_, rfl⟩ (.cons ⟨_, rfl⟩ (.cons ⟨_, rfl⟩ (.cons ⟨_, rfl⟩ .nil))))⟩
  }

theorem mkB {K : PySem.W.Frag} {h : Heap} {mg : Str → Option Value} {C : Prop} (X : K.In h) (G : h.Ns mainGlobals mg)
    {c_Card c_Entry c_Door f_Card_init f_Entry_init f_Door_init f_is_place f_card_of f_is_room_card f_is_of_zone f_shown_room f_shown_zone f_shown f_learn : Addr}
    {t_CARD_BYTES : Tok}
    {t_SIGNED : Tok}
    {t_GUEST : Tok}
    {t_STAFF : Tok}
    {t_SHUTS : Tok}
    {t_EMERGENCY : Tok}
    {t_MOST_ROOM : Tok}
    {t_EMERGENCY_PLACE : Tok}
    {t_MOST_BOOK : Tok}
    {t_OTHER_PLACE : Tok}
    {t_BOLTED : Tok}
    {t_TOO_OLD : Tok}
    {t_OVER : Tok}
    {oc_Card_init kV_Card_init dc_Card_init pm_Card_init cd_Card_init ct_Card_init : Value} {od_Card_init an_Card_init : Option Addr} {sl_Card_init : Array (Option Value)}
    {oc_Entry_init kV_Entry_init dc_Entry_init pm_Entry_init cd_Entry_init ct_Entry_init : Value} {od_Entry_init an_Entry_init : Option Addr} {sl_Entry_init : Array (Option Value)}
    {oc_Door_init kV_Door_init dc_Door_init pm_Door_init cd_Door_init ct_Door_init : Value} {od_Door_init an_Door_init : Option Addr} {sl_Door_init : Array (Option Value)}
    {oc_is_place kV_is_place dc_is_place pm_is_place cd_is_place ct_is_place : Value} {od_is_place an_is_place : Option Addr} {sl_is_place : Array (Option Value)}
    {oc_card_of kV_card_of dc_card_of pm_card_of cd_card_of ct_card_of : Value} {od_card_of an_card_of : Option Addr} {sl_card_of : Array (Option Value)}
    {oc_is_room_card kV_is_room_card dc_is_room_card pm_is_room_card cd_is_room_card ct_is_room_card : Value} {od_is_room_card an_is_room_card : Option Addr} {sl_is_room_card : Array (Option Value)}
    {oc_is_of_zone kV_is_of_zone dc_is_of_zone pm_is_of_zone cd_is_of_zone ct_is_of_zone : Value} {od_is_of_zone an_is_of_zone : Option Addr} {sl_is_of_zone : Array (Option Value)}
    {oc_shown_room kV_shown_room dc_shown_room pm_shown_room cd_shown_room ct_shown_room : Value} {od_shown_room an_shown_room : Option Addr} {sl_shown_room : Array (Option Value)}
    {oc_shown_zone kV_shown_zone dc_shown_zone pm_shown_zone cd_shown_zone ct_shown_zone : Value} {od_shown_zone an_shown_zone : Option Addr} {sl_shown_zone : Array (Option Value)}
    {oc_shown kV_shown dc_shown pm_shown cd_shown ct_shown : Value} {od_shown an_shown : Option Addr} {sl_shown : Array (Option Value)}
    {oc_learn kV_learn dc_learn pm_learn cd_learn ct_learn : Value} {od_learn an_learn : Option Addr} {sl_learn : Array (Option Value)}
    (q_CARD_BYTES : PySem.W.nsIn K mainGlobals "CARD_BYTES" = some (some (.int 16 t_CARD_BYTES)))
    (q_SIGNED : PySem.W.nsIn K mainGlobals "SIGNED" = some (some (.int 8 t_SIGNED)))
    (q_GUEST : PySem.W.nsIn K mainGlobals "GUEST" = some (some (.int 1 t_GUEST)))
    (q_STAFF : PySem.W.nsIn K mainGlobals "STAFF" = some (some (.int 2 t_STAFF)))
    (q_SHUTS : PySem.W.nsIn K mainGlobals "SHUTS" = some (some (.int 3 t_SHUTS)))
    (q_EMERGENCY : PySem.W.nsIn K mainGlobals "EMERGENCY" = some (some (.int 4 t_EMERGENCY)))
    (q_MOST_ROOM : PySem.W.nsIn K mainGlobals "MOST_ROOM" = some (some (.int 63 t_MOST_ROOM)))
    (q_EMERGENCY_PLACE : PySem.W.nsIn K mainGlobals "EMERGENCY_PLACE" = some (some (.int 255 t_EMERGENCY_PLACE)))
    (q_MOST_BOOK : PySem.W.nsIn K mainGlobals "MOST_BOOK" = some (some (.int 16 t_MOST_BOOK)))
    (q_OTHER_PLACE : PySem.W.nsIn K mainGlobals "OTHER_PLACE" = some (some (.int (-13) t_OTHER_PLACE)))
    (q_BOLTED : PySem.W.nsIn K mainGlobals "BOLTED" = some (some (.int (-15) t_BOLTED)))
    (q_TOO_OLD : PySem.W.nsIn K mainGlobals "TOO_OLD" = some (some (.int (-17) t_TOO_OLD)))
    (q_OVER : PySem.W.nsIn K mainGlobals "OVER" = some (some (.int (-34) t_OVER)))
    (a_Card : PySem.W.nsIn K mainGlobals "Card" = some (some (.ref c_Card)))
    (pg_Card : PySem.W.plainGet K c_Card Str.empty = true)
    (hd_Card : PySem.W.hasDictIn K c_Card = true)
    (po_Card : PySem.W.plainOver K c_Card = true)
    (sa_Card : PySem.W.findIn K (.ref c_Card) "__setattr__" = some (some (.builtin "object.__setattr__")))
    (mk_Card : PySem.W.makesIn K c_Card = true)
    (kc_Card : PySem.W.keepIn K (.ref c_Card) = true)
    (n_Card_kind : PySem.W.findIn K (.ref c_Card) "kind" = some none)
    (n_Card_place : PySem.W.findIn K (.ref c_Card) "place" = some none)
    (n_Card_number : PySem.W.findIn K (.ref c_Card) "number" = some none)
    (n_Card_last : PySem.W.findIn K (.ref c_Card) "last" = some none)
    (n_Card_serial : PySem.W.findIn K (.ref c_Card) "serial" = some none)
    (a_Card_init : PySem.W.findIn K (.ref c_Card) "__init__" = some (some (.ref f_Card_init)))
    (i_Card_init : PySem.W.isFn K (.ref f_Card_init) = true)
    (a_Entry : PySem.W.nsIn K mainGlobals "Entry" = some (some (.ref c_Entry)))
    (pg_Entry : PySem.W.plainGet K c_Entry Str.empty = true)
    (hd_Entry : PySem.W.hasDictIn K c_Entry = true)
    (po_Entry : PySem.W.plainOver K c_Entry = true)
    (sa_Entry : PySem.W.findIn K (.ref c_Entry) "__setattr__" = some (some (.builtin "object.__setattr__")))
    (mk_Entry : PySem.W.makesIn K c_Entry = true)
    (kc_Entry : PySem.W.keepIn K (.ref c_Entry) = true)
    (n_Entry_kind : PySem.W.findIn K (.ref c_Entry) "kind" = some none)
    (n_Entry_number : PySem.W.findIn K (.ref c_Entry) "number" = some none)
    (n_Entry_serial : PySem.W.findIn K (.ref c_Entry) "serial" = some none)
    (n_Entry_day : PySem.W.findIn K (.ref c_Entry) "day" = some none)
    (a_Entry_init : PySem.W.findIn K (.ref c_Entry) "__init__" = some (some (.ref f_Entry_init)))
    (i_Entry_init : PySem.W.isFn K (.ref f_Entry_init) = true)
    (a_Door : PySem.W.nsIn K mainGlobals "Door" = some (some (.ref c_Door)))
    (pg_Door : PySem.W.plainGet K c_Door Str.empty = true)
    (hd_Door : PySem.W.hasDictIn K c_Door = true)
    (po_Door : PySem.W.plainOver K c_Door = true)
    (sa_Door : PySem.W.findIn K (.ref c_Door) "__setattr__" = some (some (.builtin "object.__setattr__")))
    (mk_Door : PySem.W.makesIn K c_Door = true)
    (kc_Door : PySem.W.keepIn K (.ref c_Door) = true)
    (n_Door_room : PySem.W.findIn K (.ref c_Door) "room" = some none)
    (n_Door_zone : PySem.W.findIn K (.ref c_Door) "zone" = some none)
    (n_Door_key : PySem.W.findIn K (.ref c_Door) "key" = some none)
    (n_Door_day : PySem.W.findIn K (.ref c_Door) "day" = some none)
    (n_Door_number : PySem.W.findIn K (.ref c_Door) "number" = some none)
    (n_Door_round : PySem.W.findIn K (.ref c_Door) "round" = some none)
    (n_Door_is_bolted : PySem.W.findIn K (.ref c_Door) "is_bolted" = some none)
    (n_Door_book : PySem.W.findIn K (.ref c_Door) "book" = some none)
    (a_Door_init : PySem.W.findIn K (.ref c_Door) "__init__" = some (some (.ref f_Door_init)))
    (i_Door_init : PySem.W.isFn K (.ref f_Door_init) = true)
    (l_Card_init : K.lookup f_Card_init = some ⟨oc_Card_init, od_Card_init, .func (PySem.W.fnOf "__init__" "Card.__init__" (defArgs s_Card_init) (defBody s_Card_init) (defScope s_Card_init) .none kV_Card_init dc_Card_init pm_Card_init an_Card_init cd_Card_init ct_Card_init), sl_Card_init⟩)
    (e_Card_init : PySem.W.codeIn K cd_Card_init "Card.__init__" = true)
    (k_Card_init : PySem.W.keepIn K (.ref f_Card_init) = true)
    (l_Entry_init : K.lookup f_Entry_init = some ⟨oc_Entry_init, od_Entry_init, .func (PySem.W.fnOf "__init__" "Entry.__init__" (defArgs s_Entry_init) (defBody s_Entry_init) (defScope s_Entry_init) .none kV_Entry_init dc_Entry_init pm_Entry_init an_Entry_init cd_Entry_init ct_Entry_init), sl_Entry_init⟩)
    (e_Entry_init : PySem.W.codeIn K cd_Entry_init "Entry.__init__" = true)
    (k_Entry_init : PySem.W.keepIn K (.ref f_Entry_init) = true)
    (l_Door_init : K.lookup f_Door_init = some ⟨oc_Door_init, od_Door_init, .func (PySem.W.fnOf "__init__" "Door.__init__" (defArgs s_Door_init) (defBody s_Door_init) (defScope s_Door_init) .none kV_Door_init dc_Door_init pm_Door_init an_Door_init cd_Door_init ct_Door_init), sl_Door_init⟩)
    (e_Door_init : PySem.W.codeIn K cd_Door_init "Door.__init__" = true)
    (k_Door_init : PySem.W.keepIn K (.ref f_Door_init) = true)
    (a_is_place : PySem.W.nsIn K mainGlobals "is_place" = some (some (.ref f_is_place)))
    (l_is_place : K.lookup f_is_place = some ⟨oc_is_place, od_is_place, .func (PySem.W.fnOf "is_place" "is_place" (defArgs s_is_place) (defBody s_is_place) (defScope s_is_place) .none kV_is_place dc_is_place pm_is_place an_is_place cd_is_place ct_is_place), sl_is_place⟩)
    (e_is_place : PySem.W.codeIn K cd_is_place "is_place" = true)
    (k_is_place : PySem.W.keepIn K (.ref f_is_place) = true)
    (a_card_of : PySem.W.nsIn K mainGlobals "card_of" = some (some (.ref f_card_of)))
    (l_card_of : K.lookup f_card_of = some ⟨oc_card_of, od_card_of, .func (PySem.W.fnOf "card_of" "card_of" (defArgs s_card_of) (defBody s_card_of) (defScope s_card_of) .none kV_card_of dc_card_of pm_card_of an_card_of cd_card_of ct_card_of), sl_card_of⟩)
    (e_card_of : PySem.W.codeIn K cd_card_of "card_of" = true)
    (k_card_of : PySem.W.keepIn K (.ref f_card_of) = true)
    (a_is_room_card : PySem.W.nsIn K mainGlobals "is_room_card" = some (some (.ref f_is_room_card)))
    (l_is_room_card : K.lookup f_is_room_card = some ⟨oc_is_room_card, od_is_room_card, .func (PySem.W.fnOf "is_room_card" "is_room_card" (defArgs s_is_room_card) (defBody s_is_room_card) (defScope s_is_room_card) .none kV_is_room_card dc_is_room_card pm_is_room_card an_is_room_card cd_is_room_card ct_is_room_card), sl_is_room_card⟩)
    (e_is_room_card : PySem.W.codeIn K cd_is_room_card "is_room_card" = true)
    (k_is_room_card : PySem.W.keepIn K (.ref f_is_room_card) = true)
    (a_is_of_zone : PySem.W.nsIn K mainGlobals "is_of_zone" = some (some (.ref f_is_of_zone)))
    (l_is_of_zone : K.lookup f_is_of_zone = some ⟨oc_is_of_zone, od_is_of_zone, .func (PySem.W.fnOf "is_of_zone" "is_of_zone" (defArgs s_is_of_zone) (defBody s_is_of_zone) (defScope s_is_of_zone) .none kV_is_of_zone dc_is_of_zone pm_is_of_zone an_is_of_zone cd_is_of_zone ct_is_of_zone), sl_is_of_zone⟩)
    (e_is_of_zone : PySem.W.codeIn K cd_is_of_zone "is_of_zone" = true)
    (k_is_of_zone : PySem.W.keepIn K (.ref f_is_of_zone) = true)
    (a_shown_room : PySem.W.nsIn K mainGlobals "shown_room" = some (some (.ref f_shown_room)))
    (l_shown_room : K.lookup f_shown_room = some ⟨oc_shown_room, od_shown_room, .func (PySem.W.fnOf "shown_room" "shown_room" (defArgs s_shown_room) (defBody s_shown_room) (defScope s_shown_room) .none kV_shown_room dc_shown_room pm_shown_room an_shown_room cd_shown_room ct_shown_room), sl_shown_room⟩)
    (e_shown_room : PySem.W.codeIn K cd_shown_room "shown_room" = true)
    (k_shown_room : PySem.W.keepIn K (.ref f_shown_room) = true)
    (a_shown_zone : PySem.W.nsIn K mainGlobals "shown_zone" = some (some (.ref f_shown_zone)))
    (l_shown_zone : K.lookup f_shown_zone = some ⟨oc_shown_zone, od_shown_zone, .func (PySem.W.fnOf "shown_zone" "shown_zone" (defArgs s_shown_zone) (defBody s_shown_zone) (defScope s_shown_zone) .none kV_shown_zone dc_shown_zone pm_shown_zone an_shown_zone cd_shown_zone ct_shown_zone), sl_shown_zone⟩)
    (e_shown_zone : PySem.W.codeIn K cd_shown_zone "shown_zone" = true)
    (k_shown_zone : PySem.W.keepIn K (.ref f_shown_zone) = true)
    (a_shown : PySem.W.nsIn K mainGlobals "shown" = some (some (.ref f_shown)))
    (l_shown : K.lookup f_shown = some ⟨oc_shown, od_shown, .func (PySem.W.fnOf "shown" "shown" (defArgs s_shown) (defBody s_shown) (defScope s_shown) .none kV_shown dc_shown pm_shown an_shown cd_shown ct_shown), sl_shown⟩)
    (e_shown : PySem.W.codeIn K cd_shown "shown" = true)
    (k_shown : PySem.W.keepIn K (.ref f_shown) = true)
    (a_learn : PySem.W.nsIn K mainGlobals "learn" = some (some (.ref f_learn)))
    (l_learn : K.lookup f_learn = some ⟨oc_learn, od_learn, .func (PySem.W.fnOf "learn" "learn" (defArgs s_learn) (defBody s_learn) (defScope s_learn) .none kV_learn dc_learn pm_learn an_learn cd_learn ct_learn), sl_learn⟩)
    (e_learn : PySem.W.codeIn K cd_learn "learn" = true)
    (k_learn : PySem.W.keepIn K (.ref f_learn) = true)
    (go : ∀ a : AdB, TxtB K mg a → C) : C :=
  go ⟨c_Card, c_Entry, c_Door, f_Card_init, f_Entry_init, f_Door_init, f_is_place, f_card_of, f_is_room_card, f_is_of_zone, f_shown_room, f_shown_zone, f_shown, f_learn⟩ {
    c_CARD_BYTES := ⟨_, PySem.W.mg_of X G q_CARD_BYTES⟩,
    c_SIGNED := ⟨_, PySem.W.mg_of X G q_SIGNED⟩,
    c_GUEST := ⟨_, PySem.W.mg_of X G q_GUEST⟩,
    c_STAFF := ⟨_, PySem.W.mg_of X G q_STAFF⟩,
    c_SHUTS := ⟨_, PySem.W.mg_of X G q_SHUTS⟩,
    c_EMERGENCY := ⟨_, PySem.W.mg_of X G q_EMERGENCY⟩,
    c_MOST_ROOM := ⟨_, PySem.W.mg_of X G q_MOST_ROOM⟩,
    c_EMERGENCY_PLACE := ⟨_, PySem.W.mg_of X G q_EMERGENCY_PLACE⟩,
    c_MOST_BOOK := ⟨_, PySem.W.mg_of X G q_MOST_BOOK⟩,
    c_OTHER_PLACE := ⟨_, PySem.W.mg_of X G q_OTHER_PLACE⟩,
    c_BOLTED := ⟨_, PySem.W.mg_of X G q_BOLTED⟩,
    c_TOO_OLD := ⟨_, PySem.W.mg_of X G q_TOO_OLD⟩,
    c_OVER := ⟨_, PySem.W.mg_of X G q_OVER⟩,
    cl_Card := ⟨pg_Card, hd_Card, po_Card, sa_Card⟩,
    mk_Card := ⟨mk_Card, a_Card_init, i_Card_init, kc_Card⟩,
    g_Card := PySem.W.mg_of X G a_Card,
    n_Card_kind := n_Card_kind,
    n_Card_place := n_Card_place,
    n_Card_number := n_Card_number,
    n_Card_last := n_Card_last,
    n_Card_serial := n_Card_serial,
    cl_Entry := ⟨pg_Entry, hd_Entry, po_Entry, sa_Entry⟩,
    mk_Entry := ⟨mk_Entry, a_Entry_init, i_Entry_init, kc_Entry⟩,
    g_Entry := PySem.W.mg_of X G a_Entry,
    n_Entry_kind := n_Entry_kind,
    n_Entry_number := n_Entry_number,
    n_Entry_serial := n_Entry_serial,
    n_Entry_day := n_Entry_day,
    cl_Door := ⟨pg_Door, hd_Door, po_Door, sa_Door⟩,
    mk_Door := ⟨mk_Door, a_Door_init, i_Door_init, kc_Door⟩,
    g_Door := PySem.W.mg_of X G a_Door,
    n_Door_room := n_Door_room,
    n_Door_zone := n_Door_zone,
    n_Door_key := n_Door_key,
    n_Door_day := n_Door_day,
    n_Door_number := n_Door_number,
    n_Door_round := n_Door_round,
    n_Door_is_bolted := n_Door_is_bolted,
    n_Door_book := n_Door_book,
    d_Card_init := ⟨_, fun_mk (st := s_Card_init) l_Card_init e_Card_init k_Card_init, (fun_mk (st := s_Card_init) l_Card_init e_Card_init k_Card_init).binds (ps := ["self", "row"]) fun _ _ _ _ _ _ us hl => match us, hl with | [_, _], _ => rfl⟩,
    d_Entry_init := ⟨_, fun_mk (st := s_Entry_init) l_Entry_init e_Entry_init k_Entry_init, (fun_mk (st := s_Entry_init) l_Entry_init e_Entry_init k_Entry_init).binds (ps := ["self", "kind", "number", "serial", "day"]) fun _ _ _ _ _ _ us hl => match us, hl with | [_, _, _, _, _], _ => rfl⟩,
    d_Door_init := ⟨_, fun_mk (st := s_Door_init) l_Door_init e_Door_init k_Door_init, (fun_mk (st := s_Door_init) l_Door_init e_Door_init k_Door_init).binds (ps := ["self", "room", "zone", "key"]) fun _ _ _ _ _ _ us hl => match us, hl with | [_, _, _, _], _ => rfl⟩,
    g_is_place := PySem.W.mg_of X G a_is_place,
    d_is_place := ⟨_, fun_mk (st := s_is_place) l_is_place e_is_place k_is_place, (fun_mk (st := s_is_place) l_is_place e_is_place k_is_place).binds (ps := ["kind", "place"]) fun _ _ _ _ _ _ us hl => match us, hl with | [_, _], _ => rfl⟩,
    g_card_of := PySem.W.mg_of X G a_card_of,
    d_card_of := ⟨_, fun_mk (st := s_card_of) l_card_of e_card_of k_card_of, (fun_mk (st := s_card_of) l_card_of e_card_of k_card_of).binds (ps := ["door", "row"]) fun _ _ _ _ _ _ us hl => match us, hl with | [_, _], _ => rfl⟩,
    g_is_room_card := PySem.W.mg_of X G a_is_room_card,
    d_is_room_card := ⟨_, fun_mk (st := s_is_room_card) l_is_room_card e_is_room_card k_is_room_card, (fun_mk (st := s_is_room_card) l_is_room_card e_is_room_card k_is_room_card).binds (ps := ["card"]) fun _ _ _ _ _ _ us hl => match us, hl with | [_], _ => rfl⟩,
    g_is_of_zone := PySem.W.mg_of X G a_is_of_zone,
    d_is_of_zone := ⟨_, fun_mk (st := s_is_of_zone) l_is_of_zone e_is_of_zone k_is_of_zone, (fun_mk (st := s_is_of_zone) l_is_of_zone e_is_of_zone k_is_of_zone).binds (ps := ["card", "zone"]) fun _ _ _ _ _ _ us hl => match us, hl with | [_, _], _ => rfl⟩,
    g_shown_room := PySem.W.mg_of X G a_shown_room,
    d_shown_room := ⟨_, fun_mk (st := s_shown_room) l_shown_room e_shown_room k_shown_room, (fun_mk (st := s_shown_room) l_shown_room e_shown_room k_shown_room).binds (ps := ["door", "card"]) fun _ _ _ _ _ _ us hl => match us, hl with | [_, _], _ => rfl⟩,
    g_shown_zone := PySem.W.mg_of X G a_shown_zone,
    d_shown_zone := ⟨_, fun_mk (st := s_shown_zone) l_shown_zone e_shown_zone k_shown_zone, (fun_mk (st := s_shown_zone) l_shown_zone e_shown_zone k_shown_zone).binds (ps := ["door", "card"]) fun _ _ _ _ _ _ us hl => match us, hl with | [_, _], _ => rfl⟩,
    g_shown := PySem.W.mg_of X G a_shown,
    d_shown := ⟨_, fun_mk (st := s_shown) l_shown e_shown k_shown, (fun_mk (st := s_shown) l_shown e_shown k_shown).binds (ps := ["door", "card"]) fun _ _ _ _ _ _ us hl => match us, hl with | [_, _], _ => rfl⟩,
    g_learn := PySem.W.mg_of X G a_learn,
    d_learn := ⟨_, fun_mk (st := s_learn) l_learn e_learn k_learn, (fun_mk (st := s_learn) l_learn e_learn k_learn).binds (ps := ["door", "card"]) fun _ _ _ _ _ _ us hl => match us, hl with | [_, _], _ => rfl⟩
  }

theorem mkC {K : PySem.W.Frag} {h : Heap} {mg : Str → Option Value} {C : Prop} (X : K.In h) (G : h.Ns mainGlobals mg)
    {c_Refused c_Box c_Tape f_Refused_init f_Box_init f_Tape_init f_Tape_is_done f_Tape_take_many f_Tape_take_row f_ask f_door_of f_do_begin f_do_day f_card_in f_do_open f_do_would f_do_bolt f_do_book f_do_state f_answer f_answers x_DEEDS x_D0 x_D1 x_D2 x_D3 x_D4 x_D5 x_D6 : Addr}
    {t_NO_ENTRY : Tok}
    {t_WRONG : Tok}
    {t_NO_DOOR : Tok}
    {t_NO_CARD : Tok}
    {t_MOST_ZONE : Tok}
    {t_MOST_DAY : Tok}
    {nm q : Str} {N : Addr} {bs : List Value} {sn : List Str} {sub : List Value} {ab : Bool} {col : Option Bool} {dd : Option Addr} {m0 m1 m2 m3 m5 : Option Value} {p1 p2 q1 q2 q3 q4 : Pos}
    {ocR dcR pmR cdR ctR : Value} {odR anR : Option Addr} {slR : Array (Option Value)}
    {oc_Box_init kV_Box_init dc_Box_init pm_Box_init cd_Box_init ct_Box_init : Value} {od_Box_init an_Box_init : Option Addr} {sl_Box_init : Array (Option Value)}
    {oc_Tape_init kV_Tape_init dc_Tape_init pm_Tape_init cd_Tape_init ct_Tape_init : Value} {od_Tape_init an_Tape_init : Option Addr} {sl_Tape_init : Array (Option Value)}
    {oc_Tape_is_done kV_Tape_is_done dc_Tape_is_done pm_Tape_is_done cd_Tape_is_done ct_Tape_is_done : Value} {od_Tape_is_done an_Tape_is_done : Option Addr} {sl_Tape_is_done : Array (Option Value)}
    {oc_Tape_take_many kV_Tape_take_many dc_Tape_take_many pm_Tape_take_many cd_Tape_take_many ct_Tape_take_many : Value} {od_Tape_take_many an_Tape_take_many : Option Addr} {sl_Tape_take_many : Array (Option Value)}
    {oc_Tape_take_row kV_Tape_take_row dc_Tape_take_row pm_Tape_take_row cd_Tape_take_row ct_Tape_take_row : Value} {od_Tape_take_row an_Tape_take_row : Option Addr} {sl_Tape_take_row : Array (Option Value)}
    {oc_ask kV_ask dc_ask pm_ask cd_ask ct_ask : Value} {od_ask an_ask : Option Addr} {sl_ask : Array (Option Value)}
    {oc_door_of kV_door_of dc_door_of pm_door_of cd_door_of ct_door_of : Value} {od_door_of an_door_of : Option Addr} {sl_door_of : Array (Option Value)}
    {oc_do_begin kV_do_begin dc_do_begin pm_do_begin cd_do_begin ct_do_begin : Value} {od_do_begin an_do_begin : Option Addr} {sl_do_begin : Array (Option Value)}
    {oc_do_day kV_do_day dc_do_day pm_do_day cd_do_day ct_do_day : Value} {od_do_day an_do_day : Option Addr} {sl_do_day : Array (Option Value)}
    {oc_card_in kV_card_in dc_card_in pm_card_in cd_card_in ct_card_in : Value} {od_card_in an_card_in : Option Addr} {sl_card_in : Array (Option Value)}
    {oc_do_open kV_do_open dc_do_open pm_do_open cd_do_open ct_do_open : Value} {od_do_open an_do_open : Option Addr} {sl_do_open : Array (Option Value)}
    {oc_do_would kV_do_would dc_do_would pm_do_would cd_do_would ct_do_would : Value} {od_do_would an_do_would : Option Addr} {sl_do_would : Array (Option Value)}
    {oc_do_bolt kV_do_bolt dc_do_bolt pm_do_bolt cd_do_bolt ct_do_bolt : Value} {od_do_bolt an_do_bolt : Option Addr} {sl_do_bolt : Array (Option Value)}
    {oc_do_book kV_do_book dc_do_book pm_do_book cd_do_book ct_do_book : Value} {od_do_book an_do_book : Option Addr} {sl_do_book : Array (Option Value)}
    {oc_do_state kV_do_state dc_do_state pm_do_state cd_do_state ct_do_state : Value} {od_do_state an_do_state : Option Addr} {sl_do_state : Array (Option Value)}
    {oc_answer kV_answer dc_answer pm_answer cd_answer ct_answer : Value} {od_answer an_answer : Option Addr} {sl_answer : Array (Option Value)}
    {oc_answers kV_answers dc_answers pm_answers cd_answers ct_answers : Value} {od_answers an_answers : Option Addr} {sl_answers : Array (Option Value)}
    {u0 u1 u2 u3 u4 u5 u6 : Tok}
    {dd_DEEDS : Option Addr} {nn_DEEDS : Nat} {ss_DEEDS : Array (Option Value)}
    {dd_D0 : Option Addr} {nn_D0 : Nat} {ss_D0 : Array (Option Value)}
    {dd_D1 : Option Addr} {nn_D1 : Nat} {ss_D1 : Array (Option Value)}
    {dd_D2 : Option Addr} {nn_D2 : Nat} {ss_D2 : Array (Option Value)}
    {dd_D3 : Option Addr} {nn_D3 : Nat} {ss_D3 : Array (Option Value)}
    {dd_D4 : Option Addr} {nn_D4 : Nat} {ss_D4 : Array (Option Value)}
    {dd_D5 : Option Addr} {nn_D5 : Nat} {ss_D5 : Array (Option Value)}
    {dd_D6 : Option Addr} {nn_D6 : Nat} {ss_D6 : Array (Option Value)}
    (q_NO_ENTRY : PySem.W.nsIn K mainGlobals "NO_ENTRY" = some (some (.int (-2) t_NO_ENTRY)))
    (q_WRONG : PySem.W.nsIn K mainGlobals "WRONG" = some (some (.int (-22) t_WRONG)))
    (q_NO_DOOR : PySem.W.nsIn K mainGlobals "NO_DOOR" = some (some (.int (-61) t_NO_DOOR)))
    (q_NO_CARD : PySem.W.nsIn K mainGlobals "NO_CARD" = some (some (.int (-71) t_NO_CARD)))
    (q_MOST_ZONE : PySem.W.nsIn K mainGlobals "MOST_ZONE" = some (some (.int 7 t_MOST_ZONE)))
    (q_MOST_DAY : PySem.W.nsIn K mainGlobals "MOST_DAY" = some (some (.int 65535 t_MOST_DAY)))
    (a_Refused : PySem.W.nsIn K mainGlobals "Refused" = some (some (.ref c_Refused)))
    (r_xL : K.lookup c_Refused = some (excClassObj nm q c_Refused N bs [.type "ValueError", .type "Exception", .type "BaseException", .type "object"] true sn sub ab col dd m0 m1 m2 m3 m5 "ValueError.__new__"))
    (r_sa : PySem.W.findIn K (.ref c_Refused) "__setattr__" = some (some (.builtin "object.__setattr__")))
    (r_ga : PySem.W.findIn K (.ref c_Refused) "__getattribute__" = some (some (.builtin "BaseException.__getattribute__")))
    (r_gg : PySem.W.findIn K (.ref c_Refused) "__getattr__" = some none)
    (r_nb : PySem.W.findIn K (.ref c_Refused) "number" = some none)
    (r_a1 : PySem.W.findIn K (.ref c_Refused) "__init__" = some (some (.ref f_Refused_init)))
    (r_t1 : PySem.W.typeIn K (.ref f_Refused_init) = some (.type "function"))
    (r_l1 : K.lookup f_Refused_init = some ⟨ocR, odR, .func (PySem.W.fnOf "__init__" "Refused.__init__" (PySem.RefX.iA p1 p2) (PySem.RefX.iB q1 q2 q3 q4) PySem.RefX.iS .none .none dcR pmR anR cdR ctR), slR⟩)
    (r_c1 : PySem.W.codeIn K cdR "Refused.__init__" = true)
    (r_kC : PySem.W.keepIn K (.ref c_Refused) = true)
    (r_eC : PySem.W.subIn K (.ref c_Refused) (.type "BaseException") = some true)
    (r_tC : PySem.W.typeIn K (.ref c_Refused) = some (.type "type"))
    (r_hC : PySem.W.hasDictIn K c_Refused = true)
    (r_iC : PySem.W.isClsIn K c_Refused = true)
    (r_sC : PySem.W.subIn K (.ref c_Refused) (.ref c_Refused) = some true)
    (a_Box : PySem.W.nsIn K mainGlobals "Box" = some (some (.ref c_Box)))
    (pg_Box : PySem.W.plainGet K c_Box Str.empty = true)
    (hd_Box : PySem.W.hasDictIn K c_Box = true)
    (po_Box : PySem.W.plainOver K c_Box = true)
    (sa_Box : PySem.W.findIn K (.ref c_Box) "__setattr__" = some (some (.builtin "object.__setattr__")))
    (mk_Box : PySem.W.makesIn K c_Box = true)
    (kc_Box : PySem.W.keepIn K (.ref c_Box) = true)
    (n_Box_door : PySem.W.findIn K (.ref c_Box) "door" = some none)
    (a_Box_init : PySem.W.findIn K (.ref c_Box) "__init__" = some (some (.ref f_Box_init)))
    (i_Box_init : PySem.W.isFn K (.ref f_Box_init) = true)
    (a_Tape : PySem.W.nsIn K mainGlobals "Tape" = some (some (.ref c_Tape)))
    (pg_Tape : PySem.W.plainGet K c_Tape Str.empty = true)
    (hd_Tape : PySem.W.hasDictIn K c_Tape = true)
    (po_Tape : PySem.W.plainOver K c_Tape = true)
    (sa_Tape : PySem.W.findIn K (.ref c_Tape) "__setattr__" = some (some (.builtin "object.__setattr__")))
    (mk_Tape : PySem.W.makesIn K c_Tape = true)
    (kc_Tape : PySem.W.keepIn K (.ref c_Tape) = true)
    (n_Tape_numbers : PySem.W.findIn K (.ref c_Tape) "numbers" = some none)
    (n_Tape_at : PySem.W.findIn K (.ref c_Tape) "at" = some none)
    (a_Tape_init : PySem.W.findIn K (.ref c_Tape) "__init__" = some (some (.ref f_Tape_init)))
    (i_Tape_init : PySem.W.isFn K (.ref f_Tape_init) = true)
    (a_Tape_is_done : PySem.W.findIn K (.ref c_Tape) "is_done" = some (some (.ref f_Tape_is_done)))
    (i_Tape_is_done : PySem.W.isFn K (.ref f_Tape_is_done) = true)
    (a_Tape_take_many : PySem.W.findIn K (.ref c_Tape) "take_many" = some (some (.ref f_Tape_take_many)))
    (i_Tape_take_many : PySem.W.isFn K (.ref f_Tape_take_many) = true)
    (a_Tape_take_row : PySem.W.findIn K (.ref c_Tape) "take_row" = some (some (.ref f_Tape_take_row)))
    (i_Tape_take_row : PySem.W.isFn K (.ref f_Tape_take_row) = true)
    (l_Box_init : K.lookup f_Box_init = some ⟨oc_Box_init, od_Box_init, .func (PySem.W.fnOf "__init__" "Box.__init__" (defArgs s_Box_init) (defBody s_Box_init) (defScope s_Box_init) .none kV_Box_init dc_Box_init pm_Box_init an_Box_init cd_Box_init ct_Box_init), sl_Box_init⟩)
    (e_Box_init : PySem.W.codeIn K cd_Box_init "Box.__init__" = true)
    (k_Box_init : PySem.W.keepIn K (.ref f_Box_init) = true)
    (l_Tape_init : K.lookup f_Tape_init = some ⟨oc_Tape_init, od_Tape_init, .func (PySem.W.fnOf "__init__" "Tape.__init__" (defArgs s_Tape_init) (defBody s_Tape_init) (defScope s_Tape_init) .none kV_Tape_init dc_Tape_init pm_Tape_init an_Tape_init cd_Tape_init ct_Tape_init), sl_Tape_init⟩)
    (e_Tape_init : PySem.W.codeIn K cd_Tape_init "Tape.__init__" = true)
    (k_Tape_init : PySem.W.keepIn K (.ref f_Tape_init) = true)
    (l_Tape_is_done : K.lookup f_Tape_is_done = some ⟨oc_Tape_is_done, od_Tape_is_done, .func (PySem.W.fnOf "is_done" "Tape.is_done" (defArgs s_Tape_is_done) (defBody s_Tape_is_done) (defScope s_Tape_is_done) .none kV_Tape_is_done dc_Tape_is_done pm_Tape_is_done an_Tape_is_done cd_Tape_is_done ct_Tape_is_done), sl_Tape_is_done⟩)
    (e_Tape_is_done : PySem.W.codeIn K cd_Tape_is_done "Tape.is_done" = true)
    (k_Tape_is_done : PySem.W.keepIn K (.ref f_Tape_is_done) = true)
    (l_Tape_take_many : K.lookup f_Tape_take_many = some ⟨oc_Tape_take_many, od_Tape_take_many, .func (PySem.W.fnOf "take_many" "Tape.take_many" (defArgs s_Tape_take_many) (defBody s_Tape_take_many) (defScope s_Tape_take_many) .none kV_Tape_take_many dc_Tape_take_many pm_Tape_take_many an_Tape_take_many cd_Tape_take_many ct_Tape_take_many), sl_Tape_take_many⟩)
    (e_Tape_take_many : PySem.W.codeIn K cd_Tape_take_many "Tape.take_many" = true)
    (k_Tape_take_many : PySem.W.keepIn K (.ref f_Tape_take_many) = true)
    (l_Tape_take_row : K.lookup f_Tape_take_row = some ⟨oc_Tape_take_row, od_Tape_take_row, .func (PySem.W.fnOf "take_row" "Tape.take_row" (defArgs s_Tape_take_row) (defBody s_Tape_take_row) (defScope s_Tape_take_row) .none kV_Tape_take_row dc_Tape_take_row pm_Tape_take_row an_Tape_take_row cd_Tape_take_row ct_Tape_take_row), sl_Tape_take_row⟩)
    (e_Tape_take_row : PySem.W.codeIn K cd_Tape_take_row "Tape.take_row" = true)
    (k_Tape_take_row : PySem.W.keepIn K (.ref f_Tape_take_row) = true)
    (a_ask : PySem.W.nsIn K mainGlobals "ask" = some (some (.ref f_ask)))
    (l_ask : K.lookup f_ask = some ⟨oc_ask, od_ask, .func (PySem.W.fnOf "ask" "ask" (defArgs s_ask) (defBody s_ask) (defScope s_ask) .none kV_ask dc_ask pm_ask an_ask cd_ask ct_ask), sl_ask⟩)
    (e_ask : PySem.W.codeIn K cd_ask "ask" = true)
    (k_ask : PySem.W.keepIn K (.ref f_ask) = true)
    (a_door_of : PySem.W.nsIn K mainGlobals "door_of" = some (some (.ref f_door_of)))
    (l_door_of : K.lookup f_door_of = some ⟨oc_door_of, od_door_of, .func (PySem.W.fnOf "door_of" "door_of" (defArgs s_door_of) (defBody s_door_of) (defScope s_door_of) .none kV_door_of dc_door_of pm_door_of an_door_of cd_door_of ct_door_of), sl_door_of⟩)
    (e_door_of : PySem.W.codeIn K cd_door_of "door_of" = true)
    (k_door_of : PySem.W.keepIn K (.ref f_door_of) = true)
    (a_do_begin : PySem.W.nsIn K mainGlobals "do_begin" = some (some (.ref f_do_begin)))
    (l_do_begin : K.lookup f_do_begin = some ⟨oc_do_begin, od_do_begin, .func (PySem.W.fnOf "do_begin" "do_begin" (defArgs s_do_begin) (defBody s_do_begin) (defScope s_do_begin) .none kV_do_begin dc_do_begin pm_do_begin an_do_begin cd_do_begin ct_do_begin), sl_do_begin⟩)
    (e_do_begin : PySem.W.codeIn K cd_do_begin "do_begin" = true)
    (k_do_begin : PySem.W.keepIn K (.ref f_do_begin) = true)
    (a_do_day : PySem.W.nsIn K mainGlobals "do_day" = some (some (.ref f_do_day)))
    (l_do_day : K.lookup f_do_day = some ⟨oc_do_day, od_do_day, .func (PySem.W.fnOf "do_day" "do_day" (defArgs s_do_day) (defBody s_do_day) (defScope s_do_day) .none kV_do_day dc_do_day pm_do_day an_do_day cd_do_day ct_do_day), sl_do_day⟩)
    (e_do_day : PySem.W.codeIn K cd_do_day "do_day" = true)
    (k_do_day : PySem.W.keepIn K (.ref f_do_day) = true)
    (a_card_in : PySem.W.nsIn K mainGlobals "card_in" = some (some (.ref f_card_in)))
    (l_card_in : K.lookup f_card_in = some ⟨oc_card_in, od_card_in, .func (PySem.W.fnOf "card_in" "card_in" (defArgs s_card_in) (defBody s_card_in) (defScope s_card_in) .none kV_card_in dc_card_in pm_card_in an_card_in cd_card_in ct_card_in), sl_card_in⟩)
    (e_card_in : PySem.W.codeIn K cd_card_in "card_in" = true)
    (k_card_in : PySem.W.keepIn K (.ref f_card_in) = true)
    (a_do_open : PySem.W.nsIn K mainGlobals "do_open" = some (some (.ref f_do_open)))
    (l_do_open : K.lookup f_do_open = some ⟨oc_do_open, od_do_open, .func (PySem.W.fnOf "do_open" "do_open" (defArgs s_do_open) (defBody s_do_open) (defScope s_do_open) .none kV_do_open dc_do_open pm_do_open an_do_open cd_do_open ct_do_open), sl_do_open⟩)
    (e_do_open : PySem.W.codeIn K cd_do_open "do_open" = true)
    (k_do_open : PySem.W.keepIn K (.ref f_do_open) = true)
    (a_do_would : PySem.W.nsIn K mainGlobals "do_would" = some (some (.ref f_do_would)))
    (l_do_would : K.lookup f_do_would = some ⟨oc_do_would, od_do_would, .func (PySem.W.fnOf "do_would" "do_would" (defArgs s_do_would) (defBody s_do_would) (defScope s_do_would) .none kV_do_would dc_do_would pm_do_would an_do_would cd_do_would ct_do_would), sl_do_would⟩)
    (e_do_would : PySem.W.codeIn K cd_do_would "do_would" = true)
    (k_do_would : PySem.W.keepIn K (.ref f_do_would) = true)
    (a_do_bolt : PySem.W.nsIn K mainGlobals "do_bolt" = some (some (.ref f_do_bolt)))
    (l_do_bolt : K.lookup f_do_bolt = some ⟨oc_do_bolt, od_do_bolt, .func (PySem.W.fnOf "do_bolt" "do_bolt" (defArgs s_do_bolt) (defBody s_do_bolt) (defScope s_do_bolt) .none kV_do_bolt dc_do_bolt pm_do_bolt an_do_bolt cd_do_bolt ct_do_bolt), sl_do_bolt⟩)
    (e_do_bolt : PySem.W.codeIn K cd_do_bolt "do_bolt" = true)
    (k_do_bolt : PySem.W.keepIn K (.ref f_do_bolt) = true)
    (a_do_book : PySem.W.nsIn K mainGlobals "do_book" = some (some (.ref f_do_book)))
    (l_do_book : K.lookup f_do_book = some ⟨oc_do_book, od_do_book, .func (PySem.W.fnOf "do_book" "do_book" (defArgs s_do_book) (defBody s_do_book) (defScope s_do_book) .none kV_do_book dc_do_book pm_do_book an_do_book cd_do_book ct_do_book), sl_do_book⟩)
    (e_do_book : PySem.W.codeIn K cd_do_book "do_book" = true)
    (k_do_book : PySem.W.keepIn K (.ref f_do_book) = true)
    (a_do_state : PySem.W.nsIn K mainGlobals "do_state" = some (some (.ref f_do_state)))
    (l_do_state : K.lookup f_do_state = some ⟨oc_do_state, od_do_state, .func (PySem.W.fnOf "do_state" "do_state" (defArgs s_do_state) (defBody s_do_state) (defScope s_do_state) .none kV_do_state dc_do_state pm_do_state an_do_state cd_do_state ct_do_state), sl_do_state⟩)
    (e_do_state : PySem.W.codeIn K cd_do_state "do_state" = true)
    (k_do_state : PySem.W.keepIn K (.ref f_do_state) = true)
    (a_answer : PySem.W.nsIn K mainGlobals "answer" = some (some (.ref f_answer)))
    (l_answer : K.lookup f_answer = some ⟨oc_answer, od_answer, .func (PySem.W.fnOf "answer" "answer" (defArgs s_answer) (defBody s_answer) (defScope s_answer) .none kV_answer dc_answer pm_answer an_answer cd_answer ct_answer), sl_answer⟩)
    (e_answer : PySem.W.codeIn K cd_answer "answer" = true)
    (k_answer : PySem.W.keepIn K (.ref f_answer) = true)
    (a_answers : PySem.W.nsIn K mainGlobals "answers" = some (some (.ref f_answers)))
    (l_answers : K.lookup f_answers = some ⟨oc_answers, od_answers, .func (PySem.W.fnOf "answers" "answers" (defArgs s_answers) (defBody s_answers) (defScope s_answers) .none kV_answers dc_answers pm_answers an_answers cd_answers ct_answers), sl_answers⟩)
    (e_answers : PySem.W.codeIn K cd_answers "answers" = true)
    (k_answers : PySem.W.keepIn K (.ref f_answers) = true)
    (a_DEEDS : PySem.W.nsIn K mainGlobals "DEEDS" = some (some (.ref x_DEEDS)))
    (z_DEEDS : K.lookup x_DEEDS = some ⟨.type "tuple", dd_DEEDS, .seq #[.ref x_D0, .ref x_D1, .ref x_D2, .ref x_D3, .ref x_D4, .ref x_D5, .ref x_D6] nn_DEEDS, ss_DEEDS⟩)
    (z_D0 : K.lookup x_D0 = some ⟨.type "tuple", dd_D0, .seq #[.int 2 u0, .bool true, .ref f_do_begin] nn_D0, ss_D0⟩)
    (z_D1 : K.lookup x_D1 = some ⟨.type "tuple", dd_D1, .seq #[.int 1 u1, .bool false, .ref f_do_day] nn_D1, ss_D1⟩)
    (z_D2 : K.lookup x_D2 = some ⟨.type "tuple", dd_D2, .seq #[.int 0 u2, .bool true, .ref f_do_open] nn_D2, ss_D2⟩)
    (z_D3 : K.lookup x_D3 = some ⟨.type "tuple", dd_D3, .seq #[.int 0 u3, .bool true, .ref f_do_would] nn_D3, ss_D3⟩)
    (z_D4 : K.lookup x_D4 = some ⟨.type "tuple", dd_D4, .seq #[.int 1 u4, .bool false, .ref f_do_bolt] nn_D4, ss_D4⟩)
    (z_D5 : K.lookup x_D5 = some ⟨.type "tuple", dd_D5, .seq #[.int 1 u5, .bool false, .ref f_do_book] nn_D5, ss_D5⟩)
    (z_D6 : K.lookup x_D6 = some ⟨.type "tuple", dd_D6, .seq #[.int 0 u6, .bool false, .ref f_do_state] nn_D6, ss_D6⟩)
    (go : ∀ a : AdC, TxtC K mg a → C) : C :=
  go ⟨c_Refused, c_Box, c_Tape, f_Refused_init, f_Box_init, f_Tape_init, f_Tape_is_done, f_Tape_take_many, f_Tape_take_row, f_ask, f_door_of, f_do_begin, f_do_day, f_card_in, f_do_open, f_do_would, f_do_bolt, f_do_book, f_do_state, f_answer, f_answers, x_DEEDS, x_D0, x_D1, x_D2, x_D3, x_D4, x_D5, x_D6⟩ {
    ref := { gC := PySem.W.mg_of X G a_Refused, cls := ⟨nm, q, N, bs, _, sn, sub, ab, col, dd, m0, m1, m2, m3, m5, r_xL, by decide +kernel⟩, sa := r_sa, ga := r_ga, gg := r_gg, noN := r_nb, iC := r_a1, tC := r_t1, kC := r_kC, exC := r_eC, tyC := r_tC, hdC := r_hC, te := exm_self r_eC r_iC r_tC r_sC, fn := ⟨_, _, _, _, _, _, _, _, _, _, _, _, _, _, r_l1, r_c1⟩ },
    c_NO_ENTRY := ⟨_, PySem.W.mg_of X G q_NO_ENTRY⟩,
    c_WRONG := ⟨_, PySem.W.mg_of X G q_WRONG⟩,
    c_NO_DOOR := ⟨_, PySem.W.mg_of X G q_NO_DOOR⟩,
    c_NO_CARD := ⟨_, PySem.W.mg_of X G q_NO_CARD⟩,
    c_MOST_ZONE := ⟨_, PySem.W.mg_of X G q_MOST_ZONE⟩,
    c_MOST_DAY := ⟨_, PySem.W.mg_of X G q_MOST_DAY⟩,
    cl_Box := ⟨pg_Box, hd_Box, po_Box, sa_Box⟩,
    mk_Box := ⟨mk_Box, a_Box_init, i_Box_init, kc_Box⟩,
    g_Box := PySem.W.mg_of X G a_Box,
    n_Box_door := n_Box_door,
    cl_Tape := ⟨pg_Tape, hd_Tape, po_Tape, sa_Tape⟩,
    mk_Tape := ⟨mk_Tape, a_Tape_init, i_Tape_init, kc_Tape⟩,
    g_Tape := PySem.W.mg_of X G a_Tape,
    n_Tape_numbers := n_Tape_numbers,
    n_Tape_at := n_Tape_at,
    m_Tape_is_done := ⟨a_Tape_is_done, i_Tape_is_done, k_Tape_is_done⟩,
    m_Tape_take_many := ⟨a_Tape_take_many, i_Tape_take_many, k_Tape_take_many⟩,
    m_Tape_take_row := ⟨a_Tape_take_row, i_Tape_take_row, k_Tape_take_row⟩,
    d_Box_init := ⟨_, fun_mk (st := s_Box_init) l_Box_init e_Box_init k_Box_init, (fun_mk (st := s_Box_init) l_Box_init e_Box_init k_Box_init).binds (ps := ["self"]) fun _ _ _ _ _ _ us hl => match us, hl with | [_], _ => rfl⟩,
    d_Tape_init := ⟨_, fun_mk (st := s_Tape_init) l_Tape_init e_Tape_init k_Tape_init, (fun_mk (st := s_Tape_init) l_Tape_init e_Tape_init k_Tape_init).binds (ps := ["self", "numbers"]) fun _ _ _ _ _ _ us hl => match us, hl with | [_, _], _ => rfl⟩,
    d_Tape_is_done := ⟨_, fun_mk (st := s_Tape_is_done) l_Tape_is_done e_Tape_is_done k_Tape_is_done, (fun_mk (st := s_Tape_is_done) l_Tape_is_done e_Tape_is_done k_Tape_is_done).binds (ps := ["self"]) fun _ _ _ _ _ _ us hl => match us, hl with | [_], _ => rfl⟩,
    d_Tape_take_many := ⟨_, fun_mk (st := s_Tape_take_many) l_Tape_take_many e_Tape_take_many k_Tape_take_many, (fun_mk (st := s_Tape_take_many) l_Tape_take_many e_Tape_take_many k_Tape_take_many).binds (ps := ["self", "many"]) fun _ _ _ _ _ _ us hl => match us, hl with | [_, _], _ => rfl⟩,
    d_Tape_take_row := ⟨_, fun_mk (st := s_Tape_take_row) l_Tape_take_row e_Tape_take_row k_Tape_take_row, (fun_mk (st := s_Tape_take_row) l_Tape_take_row e_Tape_take_row k_Tape_take_row).binds (ps := ["self"]) fun _ _ _ _ _ _ us hl => match us, hl with | [_], _ => rfl⟩,
    g_ask := PySem.W.mg_of X G a_ask,
    d_ask := ⟨_, fun_mk (st := s_ask) l_ask e_ask k_ask, (fun_mk (st := s_ask) l_ask e_ask k_ask).binds (ps := ["is_good", "number"]) fun _ _ _ _ _ _ us hl => match us, hl with | [_, _], _ => rfl⟩,
    g_door_of := PySem.W.mg_of X G a_door_of,
    d_door_of := ⟨_, fun_mk (st := s_door_of) l_door_of e_door_of k_door_of, (fun_mk (st := s_door_of) l_door_of e_door_of k_door_of).binds (ps := ["box"]) fun _ _ _ _ _ _ us hl => match us, hl with | [_], _ => rfl⟩,
    g_do_begin := PySem.W.mg_of X G a_do_begin,
    d_do_begin := ⟨_, fun_mk (st := s_do_begin) l_do_begin e_do_begin k_do_begin, (fun_mk (st := s_do_begin) l_do_begin e_do_begin k_do_begin).binds (ps := ["box", "numbers", "row"]) fun _ _ _ _ _ _ us hl => match us, hl with | [_, _, _], _ => rfl⟩,
    g_do_day := PySem.W.mg_of X G a_do_day,
    d_do_day := ⟨_, fun_mk (st := s_do_day) l_do_day e_do_day k_do_day, (fun_mk (st := s_do_day) l_do_day e_do_day k_do_day).binds (ps := ["box", "numbers", "row"]) fun _ _ _ _ _ _ us hl => match us, hl with | [_, _, _], _ => rfl⟩,
    g_card_in := PySem.W.mg_of X G a_card_in,
    d_card_in := ⟨_, fun_mk (st := s_card_in) l_card_in e_card_in k_card_in, (fun_mk (st := s_card_in) l_card_in e_card_in k_card_in).binds (ps := ["door", "row"]) fun _ _ _ _ _ _ us hl => match us, hl with | [_, _], _ => rfl⟩,
    g_do_open := PySem.W.mg_of X G a_do_open,
    d_do_open := ⟨_, fun_mk (st := s_do_open) l_do_open e_do_open k_do_open, (fun_mk (st := s_do_open) l_do_open e_do_open k_do_open).binds (ps := ["box", "numbers", "row"]) fun _ _ _ _ _ _ us hl => match us, hl with | [_, _, _], _ => rfl⟩,
    g_do_would := PySem.W.mg_of X G a_do_would,
    d_do_would := ⟨_, fun_mk (st := s_do_would) l_do_would e_do_would k_do_would, (fun_mk (st := s_do_would) l_do_would e_do_would k_do_would).binds (ps := ["box", "numbers", "row"]) fun _ _ _ _ _ _ us hl => match us, hl with | [_, _, _], _ => rfl⟩,
    g_do_bolt := PySem.W.mg_of X G a_do_bolt,
    d_do_bolt := ⟨_, fun_mk (st := s_do_bolt) l_do_bolt e_do_bolt k_do_bolt, (fun_mk (st := s_do_bolt) l_do_bolt e_do_bolt k_do_bolt).binds (ps := ["box", "numbers", "row"]) fun _ _ _ _ _ _ us hl => match us, hl with | [_, _, _], _ => rfl⟩,
    g_do_book := PySem.W.mg_of X G a_do_book,
    d_do_book := ⟨_, fun_mk (st := s_do_book) l_do_book e_do_book k_do_book, (fun_mk (st := s_do_book) l_do_book e_do_book k_do_book).binds (ps := ["box", "numbers", "row"]) fun _ _ _ _ _ _ us hl => match us, hl with | [_, _, _], _ => rfl⟩,
    g_do_state := PySem.W.mg_of X G a_do_state,
    d_do_state := ⟨_, fun_mk (st := s_do_state) l_do_state e_do_state k_do_state, (fun_mk (st := s_do_state) l_do_state e_do_state k_do_state).binds (ps := ["box", "numbers", "row"]) fun _ _ _ _ _ _ us hl => match us, hl with | [_, _, _], _ => rfl⟩,
    g_answer := PySem.W.mg_of X G a_answer,
    d_answer := ⟨_, fun_mk (st := s_answer) l_answer e_answer k_answer, (fun_mk (st := s_answer) l_answer e_answer k_answer).binds (ps := ["box", "tape"]) fun _ _ _ _ _ _ us hl => match us, hl with | [_, _], _ => rfl⟩,
    g_answers := PySem.W.mg_of X G a_answers,
    d_answers := ⟨_, fun_mk (st := s_answers) l_answers e_answers k_answers, (fun_mk (st := s_answers) l_answers e_answers k_answers).binds (ps := ["calls"]) fun _ _ _ _ _ _ us hl => match us, hl with | [_], _ => rfl⟩,
    g_DEEDS := PySem.W.mg_of X G a_DEEDS,
    t_DEEDS := fun H => .inr ⟨_, _, _, z_DEEDS, rfl, rfl, by show 7 ≤ sizeLine; decide, (.cons rfl (.cons rfl (.cons rfl (.cons rfl (.cons rfl (.cons rfl (.cons rfl .nil)))))))⟩,
    t_D0 := fun H => .inr ⟨_, _, _, z_D0, rfl, rfl, by show 3 ≤ sizeLine; decide, (.cons ⟨_, rfl⟩ (.cons rfl (.cons rfl .nil)))⟩,
    t_D1 := fun H => .inr ⟨_, _, _, z_D1, rfl, rfl, by show 3 ≤ sizeLine; decide, (.cons ⟨_, rfl⟩ (.cons rfl (.cons rfl .nil)))⟩,
    t_D2 := fun H => .inr ⟨_, _, _, z_D2, rfl, rfl, by show 3 ≤ sizeLine; decide, (.cons ⟨_, rfl⟩ (.cons rfl (.cons rfl .nil)))⟩,
    t_D3 := fun H => .inr ⟨_, _, _, z_D3, rfl, rfl, by show 3 ≤ sizeLine; decide, (.cons ⟨_, rfl⟩ (.cons rfl (.cons rfl .nil)))⟩,
    t_D4 := fun H => .inr ⟨_, _, _, z_D4, rfl, rfl, by show 3 ≤ sizeLine; decide, (.cons ⟨_, rfl⟩ (.cons rfl (.cons rfl .nil)))⟩,
    t_D5 := fun H => .inr ⟨_, _, _, z_D5, rfl, rfl, by show 3 ≤ sizeLine; decide, (.cons ⟨_, rfl⟩ (.cons rfl (.cons rfl .nil)))⟩,
    t_D6 := fun H => .inr ⟨_, _, _, z_D6, rfl, rfl, by show 3 ≤ sizeLine; decide, (.cons ⟨_, rfl⟩ (.cons rfl (.cons rfl .nil)))⟩
  }
theorem all_mk {P : Program} {w : World} {K : PySem.W.Frag} {mg : Str → Option Value} {fa : Addr} {a : Ad} (T : Txt K mg a) (hfa : mg "answers" = some (.ref fa)) :
    ∃ fd : FuncData, (∀ (s : Shared) (us : List Value), us.length = (["calls"] : List Str).length → BindsTo s fd ⟨us, []⟩ ((["calls"] : List Str).zip us)) ∧ ∀ base : Heap, K.In base → base.Ns mainGlobals mg → FnOk P w K mg base CX0 10 fa fd ["calls"] (spAns K) := by
  have e := hfa.symm.trans T.C.g_answers
  cases e
  obtain ⟨fd, F, b⟩ := T.C.d_answers
  have F' := F
  obtain ⟨oc, od, kV, doc, pm, an, cdv, ct, osl, rfl, lk, hcd⟩ := F'.ex
  exact ⟨_, fun s us hu => match us, hu with | [_], _ => .of_eq rfl, fun base _ _ => fn_answers T F⟩
end Ld
open PySem PySem.W PyProof.Rows
set_option maxRecDepth 100000 in
set_option maxHeartbeats 8000000 in
theorem PySem.Challenge.cw_learningdoor_s01_answers_holds : PySem.Challenge.rw_learningdoor_s01_answers.Holds := by
  w_on; k_headS; (case hw => exact ⟨[.list [.int 6]], by decide +kernel, by decide +kernel⟩)
  k_fillS
  refine L2.walk_specK (r := PySem.Challenge.rw_learningdoor_s01_answers) (k := 10) (CX := L2.CX0) (ps := ["calls"]) (sp := Ld.spAns) (by decide +kernel) rfl rfl ⟨rfl, by decide, by decide⟩ (fun w h Y => PySem.W.kIn_of Y) ?F ?S (fun _ _ _ _ z => z)
  case F =>
    intro w mg fa h Y KX G hmg
    refine' Ld.mkA KX G ?An_len ?An_int ?An_list ?An_range ?An_reversed ?Aq_WHOLE ?Aq_WORD ?Aq_LAST_MARK ?Aa_Mixer ?Apg_Mixer ?Ahd_Mixer ?Apo_Mixer ?Asa_Mixer ?Amk_Mixer ?Akc_Mixer ?An_Mixer_a ?An_Mixer_b ?An_Mixer_c ?An_Mixer_d ?Aa_Mixer_init ?Ai_Mixer_init ?Aa_Mixer_turn_once ?Ai_Mixer_turn_once ?Aa_Mixer_rounds ?Ai_Mixer_rounds ?Aa_Mixer_take ?Ai_Mixer_take ?Aa_Mixer_result ?Ai_Mixer_result ?Al_Mixer_init ?Ae_Mixer_init ?Ak_Mixer_init ?Al_Mixer_turn_once ?Ae_Mixer_turn_once ?Ak_Mixer_turn_once ?Al_Mixer_rounds ?Ae_Mixer_rounds ?Ak_Mixer_rounds ?Al_Mixer_take ?Ae_Mixer_take ?Ak_Mixer_take ?Al_Mixer_result ?Ae_Mixer_result ?Ak_Mixer_result ?Aa_turned ?Al_turned ?Ae_turned ?Ak_turned ?Aa_number_of ?Al_number_of ?Ae_number_of ?Ak_number_of ?Aa_bytes_of ?Al_bytes_of ?Ae_bytes_of ?Ak_bytes_of ?Aa_tag_of ?Al_tag_of ?Ae_tag_of ?Ak_tag_of ?Aa_STARTS ?Az_STARTS ?goA
    (case An_len => k_is); (case An_int => k_is); (case An_list => k_is); (case An_range => k_is); (case An_reversed => k_is); (case Aq_WHOLE => k_is); (case Aq_WORD => k_is)
    (case Aq_LAST_MARK => k_is); (case Aa_Mixer => k_is); (case Apg_Mixer => k_is); (case Ahd_Mixer => k_is); (case Apo_Mixer => k_is); (case Asa_Mixer => k_is); (case Amk_Mixer => k_is)
    (case Akc_Mixer => k_is); (case An_Mixer_a => k_is); (case An_Mixer_b => k_is); (case An_Mixer_c => k_is); (case An_Mixer_d => k_is); (case Aa_Mixer_init => k_is); (case Ai_Mixer_init => k_is)
    (case Aa_Mixer_turn_once => k_is); (case Ai_Mixer_turn_once => k_is); (case Aa_Mixer_rounds => k_is); (case Ai_Mixer_rounds => k_is); (case Aa_Mixer_take => k_is); (case Ai_Mixer_take => k_is)
    (case Aa_Mixer_result => k_is); (case Ai_Mixer_result => k_is); (case Al_Mixer_init => k_is); (case Ae_Mixer_init => k_is); (case Ak_Mixer_init => k_is); (case Al_Mixer_turn_once => k_is)
    (case Ae_Mixer_turn_once => k_is); (case Ak_Mixer_turn_once => k_is); (case Al_Mixer_rounds => k_is); (case Ae_Mixer_rounds => k_is); (case Ak_Mixer_rounds => k_is); (case Al_Mixer_take => k_is)
    (case Ae_Mixer_take => k_is); (case Ak_Mixer_take => k_is); (case Al_Mixer_result => k_is); (case Ae_Mixer_result => k_is); (case Ak_Mixer_result => k_is); (case Aa_turned => k_is)
    (case Al_turned => k_is); (case Ae_turned => k_is); (case Ak_turned => k_is); (case Aa_number_of => k_is); (case Al_number_of => k_is); (case Ae_number_of => k_is); (case Ak_number_of => k_is)
    (case Aa_bytes_of => k_is); (case Al_bytes_of => k_is); (case Ae_bytes_of => k_is); (case Ak_bytes_of => k_is); (case Aa_tag_of => k_is); (case Al_tag_of => k_is); (case Ae_tag_of => k_is)
    (case Ak_tag_of => k_is); (case Aa_STARTS => k_is); (case Az_STARTS => k_is)
    case goA =>
    intro aA TA
    refine' Ld.mkB KX G ?Bq_CARD_BYTES ?Bq_SIGNED ?Bq_GUEST ?Bq_STAFF ?Bq_SHUTS ?Bq_EMERGENCY ?Bq_MOST_ROOM ?Bq_EMERGENCY_PLACE ?Bq_MOST_BOOK ?Bq_OTHER_PLACE ?Bq_BOLTED ?Bq_TOO_OLD ?Bq_OVER ?Ba_Card ?Bpg_Card ?Bhd_Card ?Bpo_Card ?Bsa_Card ?Bmk_Card ?Bkc_Card ?Bn_Card_kind ?Bn_Card_place ?Bn_Card_number ?Bn_Card_last ?Bn_Card_serial ?Ba_Card_init ?Bi_Card_init ?Ba_Entry ?Bpg_Entry ?Bhd_Entry ?Bpo_Entry ?Bsa_Entry ?Bmk_Entry ?Bkc_Entry ?Bn_Entry_kind ?Bn_Entry_number ?Bn_Entry_serial ?Bn_Entry_day ?Ba_Entry_init ?Bi_Entry_init ?Ba_Door ?Bpg_Door ?Bhd_Door ?Bpo_Door ?Bsa_Door ?Bmk_Door ?Bkc_Door ?Bn_Door_room ?Bn_Door_zone ?Bn_Door_key ?Bn_Door_day ?Bn_Door_number ?Bn_Door_round ?Bn_Door_is_bolted ?Bn_Door_book ?Ba_Door_init ?Bi_Door_init ?Bl_Card_init ?Be_Card_init ?Bk_Card_init ?Bl_Entry_init ?Be_Entry_init ?Bk_Entry_init ?Bl_Door_init ?Be_Door_init ?Bk_Door_init ?Ba_is_place ?Bl_is_place ?Be_is_place ?Bk_is_place ?Ba_card_of ?Bl_card_of ?Be_card_of ?Bk_card_of ?Ba_is_room_card ?Bl_is_room_card ?Be_is_room_card ?Bk_is_room_card ?Ba_is_of_zone ?Bl_is_of_zone ?Be_is_of_zone ?Bk_is_of_zone ?Ba_shown_room ?Bl_shown_room ?Be_shown_room ?Bk_shown_room ?Ba_shown_zone ?Bl_shown_zone ?Be_shown_zone ?Bk_shown_zone ?Ba_shown ?Bl_shown ?Be_shown ?Bk_shown ?Ba_learn ?Bl_learn ?Be_learn ?Bk_learn ?goB
    (case Bq_CARD_BYTES => k_is); (case Bq_SIGNED => k_is); (case Bq_GUEST => k_is); (case Bq_STAFF => k_is); (case Bq_SHUTS => k_is); (case Bq_EMERGENCY => k_is); (case Bq_MOST_ROOM => k_is)
    (case Bq_EMERGENCY_PLACE => k_is); (case Bq_MOST_BOOK => k_is); (case Bq_OTHER_PLACE => k_is); (case Bq_BOLTED => k_is); (case Bq_TOO_OLD => k_is); (case Bq_OVER => k_is); (case Ba_Card => k_is)
    (case Bpg_Card => k_is); (case Bhd_Card => k_is); (case Bpo_Card => k_is); (case Bsa_Card => k_is); (case Bmk_Card => k_is); (case Bkc_Card => k_is); (case Bn_Card_kind => k_is)
    (case Bn_Card_place => k_is); (case Bn_Card_number => k_is); (case Bn_Card_last => k_is); (case Bn_Card_serial => k_is); (case Ba_Card_init => k_is); (case Bi_Card_init => k_is)
    (case Ba_Entry => k_is); (case Bpg_Entry => k_is); (case Bhd_Entry => k_is); (case Bpo_Entry => k_is); (case Bsa_Entry => k_is); (case Bmk_Entry => k_is); (case Bkc_Entry => k_is)
    (case Bn_Entry_kind => k_is); (case Bn_Entry_number => k_is); (case Bn_Entry_serial => k_is); (case Bn_Entry_day => k_is); (case Ba_Entry_init => k_is); (case Bi_Entry_init => k_is)
    (case Ba_Door => k_is); (case Bpg_Door => k_is); (case Bhd_Door => k_is); (case Bpo_Door => k_is); (case Bsa_Door => k_is); (case Bmk_Door => k_is); (case Bkc_Door => k_is)
    (case Bn_Door_room => k_is); (case Bn_Door_zone => k_is); (case Bn_Door_key => k_is); (case Bn_Door_day => k_is); (case Bn_Door_number => k_is); (case Bn_Door_round => k_is)
    (case Bn_Door_is_bolted => k_is); (case Bn_Door_book => k_is); (case Ba_Door_init => k_is); (case Bi_Door_init => k_is); (case Bl_Card_init => k_is); (case Be_Card_init => k_is)
    (case Bk_Card_init => k_is); (case Bl_Entry_init => k_is); (case Be_Entry_init => k_is); (case Bk_Entry_init => k_is); (case Bl_Door_init => k_is); (case Be_Door_init => k_is)
    (case Bk_Door_init => k_is); (case Ba_is_place => k_is); (case Bl_is_place => k_is); (case Be_is_place => k_is); (case Bk_is_place => k_is); (case Ba_card_of => k_is); (case Bl_card_of => k_is)
    (case Be_card_of => k_is); (case Bk_card_of => k_is); (case Ba_is_room_card => k_is); (case Bl_is_room_card => k_is); (case Be_is_room_card => k_is); (case Bk_is_room_card => k_is)
    (case Ba_is_of_zone => k_is); (case Bl_is_of_zone => k_is); (case Be_is_of_zone => k_is); (case Bk_is_of_zone => k_is); (case Ba_shown_room => k_is); (case Bl_shown_room => k_is)
    (case Be_shown_room => k_is); (case Bk_shown_room => k_is); (case Ba_shown_zone => k_is); (case Bl_shown_zone => k_is); (case Be_shown_zone => k_is); (case Bk_shown_zone => k_is)
    (case Ba_shown => k_is); (case Bl_shown => k_is); (case Be_shown => k_is); (case Bk_shown => k_is); (case Ba_learn => k_is); (case Bl_learn => k_is); (case Be_learn => k_is)
    (case Bk_learn => k_is)
    case goB =>
    intro aB TB
    refine' Ld.mkC KX G ?Cq_NO_ENTRY ?Cq_WRONG ?Cq_NO_DOOR ?Cq_NO_CARD ?Cq_MOST_ZONE ?Cq_MOST_DAY ?Ca_Refused ?Cr_xL ?Cr_sa ?Cr_ga ?Cr_gg ?Cr_nb ?Cr_a1 ?Cr_t1 ?Cr_l1 ?Cr_c1 ?Cr_kC ?Cr_eC ?Cr_tC ?Cr_hC ?Cr_iC ?Cr_sC ?Ca_Box ?Cpg_Box ?Chd_Box ?Cpo_Box ?Csa_Box ?Cmk_Box ?Ckc_Box ?Cn_Box_door ?Ca_Box_init ?Ci_Box_init ?Ca_Tape ?Cpg_Tape ?Chd_Tape ?Cpo_Tape ?Csa_Tape ?Cmk_Tape ?Ckc_Tape ?Cn_Tape_numbers ?Cn_Tape_at ?Ca_Tape_init ?Ci_Tape_init ?Ca_Tape_is_done ?Ci_Tape_is_done ?Ca_Tape_take_many ?Ci_Tape_take_many ?Ca_Tape_take_row ?Ci_Tape_take_row ?Cl_Box_init ?Ce_Box_init ?Ck_Box_init ?Cl_Tape_init ?Ce_Tape_init ?Ck_Tape_init ?Cl_Tape_is_done ?Ce_Tape_is_done ?Ck_Tape_is_done ?Cl_Tape_take_many ?Ce_Tape_take_many ?Ck_Tape_take_many ?Cl_Tape_take_row ?Ce_Tape_take_row ?Ck_Tape_take_row ?Ca_ask ?Cl_ask ?Ce_ask ?Ck_ask ?Ca_door_of ?Cl_door_of ?Ce_door_of ?Ck_door_of ?Ca_do_begin ?Cl_do_begin ?Ce_do_begin ?Ck_do_begin ?Ca_do_day ?Cl_do_day ?Ce_do_day ?Ck_do_day ?Ca_card_in ?Cl_card_in ?Ce_card_in ?Ck_card_in ?Ca_do_open ?Cl_do_open ?Ce_do_open ?Ck_do_open ?Ca_do_would ?Cl_do_would ?Ce_do_would ?Ck_do_would ?Ca_do_bolt ?Cl_do_bolt ?Ce_do_bolt ?Ck_do_bolt ?Ca_do_book ?Cl_do_book ?Ce_do_book ?Ck_do_book ?Ca_do_state ?Cl_do_state ?Ce_do_state ?Ck_do_state ?Ca_answer ?Cl_answer ?Ce_answer ?Ck_answer ?Ca_answers ?Cl_answers ?Ce_answers ?Ck_answers ?Ca_DEEDS ?Cz_DEEDS ?Cz_D0 ?Cz_D1 ?Cz_D2 ?Cz_D3 ?Cz_D4 ?Cz_D5 ?Cz_D6 ?goC
    (case Cq_NO_ENTRY => k_is); (case Cq_WRONG => k_is); (case Cq_NO_DOOR => k_is); (case Cq_NO_CARD => k_is); (case Cq_MOST_ZONE => k_is); (case Cq_MOST_DAY => k_is); (case Ca_Refused => k_is)
    (case Cr_xL => k_is); (case Cr_sa => k_is); (case Cr_ga => k_is); (case Cr_gg => k_is); (case Cr_nb => k_is); (case Cr_a1 => k_is); (case Cr_t1 => k_is); (case Cr_l1 => k_is)
    (case Cr_c1 => k_is); (case Cr_kC => k_is); (case Cr_eC => k_is); (case Cr_tC => k_is); (case Cr_hC => k_is); (case Cr_iC => k_is); (case Cr_sC => first | rfl | k_is); (case Ca_Box => k_is)
    (case Cpg_Box => k_is); (case Chd_Box => k_is); (case Cpo_Box => k_is); (case Csa_Box => k_is); (case Cmk_Box => k_is); (case Ckc_Box => k_is); (case Cn_Box_door => k_is)
    (case Ca_Box_init => k_is); (case Ci_Box_init => k_is); (case Ca_Tape => k_is); (case Cpg_Tape => k_is); (case Chd_Tape => k_is); (case Cpo_Tape => k_is); (case Csa_Tape => k_is)
    (case Cmk_Tape => k_is); (case Ckc_Tape => k_is); (case Cn_Tape_numbers => k_is); (case Cn_Tape_at => k_is); (case Ca_Tape_init => k_is); (case Ci_Tape_init => k_is)
    (case Ca_Tape_is_done => k_is); (case Ci_Tape_is_done => k_is); (case Ca_Tape_take_many => k_is); (case Ci_Tape_take_many => k_is); (case Ca_Tape_take_row => k_is)
    (case Ci_Tape_take_row => k_is); (case Cl_Box_init => k_is); (case Ce_Box_init => k_is); (case Ck_Box_init => k_is); (case Cl_Tape_init => k_is); (case Ce_Tape_init => k_is)
    (case Ck_Tape_init => k_is); (case Cl_Tape_is_done => k_is); (case Ce_Tape_is_done => k_is); (case Ck_Tape_is_done => k_is); (case Cl_Tape_take_many => k_is); (case Ce_Tape_take_many => k_is)
    (case Ck_Tape_take_many => k_is); (case Cl_Tape_take_row => k_is); (case Ce_Tape_take_row => k_is); (case Ck_Tape_take_row => k_is); (case Ca_ask => k_is); (case Cl_ask => k_is)
    (case Ce_ask => k_is); (case Ck_ask => k_is); (case Ca_door_of => k_is); (case Cl_door_of => k_is); (case Ce_door_of => k_is); (case Ck_door_of => k_is); (case Ca_do_begin => k_is)
    (case Cl_do_begin => k_is); (case Ce_do_begin => k_is); (case Ck_do_begin => k_is); (case Ca_do_day => k_is); (case Cl_do_day => k_is); (case Ce_do_day => k_is); (case Ck_do_day => k_is)
    (case Ca_card_in => k_is); (case Cl_card_in => k_is); (case Ce_card_in => k_is); (case Ck_card_in => k_is); (case Ca_do_open => k_is); (case Cl_do_open => k_is); (case Ce_do_open => k_is)
    (case Ck_do_open => k_is); (case Ca_do_would => k_is); (case Cl_do_would => k_is); (case Ce_do_would => k_is); (case Ck_do_would => k_is); (case Ca_do_bolt => k_is); (case Cl_do_bolt => k_is)
    (case Ce_do_bolt => k_is); (case Ck_do_bolt => k_is); (case Ca_do_book => k_is); (case Cl_do_book => k_is); (case Ce_do_book => k_is); (case Ck_do_book => k_is); (case Ca_do_state => k_is)
    (case Cl_do_state => k_is); (case Ce_do_state => k_is); (case Ck_do_state => k_is); (case Ca_answer => k_is); (case Cl_answer => k_is); (case Ce_answer => k_is); (case Ck_answer => k_is)
    (case Ca_answers => k_is); (case Cl_answers => k_is); (case Ce_answers => k_is); (case Ck_answers => k_is); (case Ca_DEEDS => k_is); (case Cz_DEEDS => k_is); (case Cz_D0 => k_is)
    (case Cz_D1 => k_is); (case Cz_D2 => k_is); (case Cz_D3 => k_is); (case Cz_D4 => k_is); (case Cz_D5 => k_is); (case Cz_D6 => k_is)
    case goC =>
    intro aC TC
    exact Ld.all_mk (a := ⟨aA, aB, aC⟩) ⟨TA, TB, TC⟩ hmg
  case S =>
    intro K H xs a hO hwi hask hx
    cases hx with
    | cons h1 h2 =>
      cases h2
      cases h1 with
      | lst hs ha =>
        have e := L2.ints_dw a.1 _ ha
        subst e
        have q : ((Codec.inLen 0 31000 a.1 && a.1.all (Codec.inInt 0 4294967295)) && true) = true := hwi
        rw [Bool.and_eq_true, Bool.and_eq_true] at q
        obtain ⟨ms, raw, Li⟩ := Ld.line_of (ns := a.1) (fun x hx => (Codec.inInt_iff.mp (List.all_eq_true.mp q.1.2 x hx)).1) hask
        exact ⟨_, a.1, ms, raw, rfl, hs, Li, fun H' p hp => .lst (L2.SqL.of hp) (L2.dw_ints _)⟩
#print axioms PySem.Challenge.cw_learningdoor_s01_answers_holds
