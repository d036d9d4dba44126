import PyProof.Rows.All
import Wide.All
import OpenK.AllK
import Wide.FinOn
import Open.SpecLaws
import KE.OsGo
import HandS.ForSpec
import HandS.Dict
import HandS.WordsDict
import HandS.Iter
import HandS.Text
import HandS.Rev
import HandS.TupLe
import PySem.Challenge.RW_mostcell_s01_answers
set_option Elab.async false
set_option maxRecDepth 100000
set_option maxHeartbeats 4000000
/-! # mostcell.cell.answers gives back just what the document promises, at every list of calls that may be handed in.
Plain lemmas over the specification first; then how objects lie in the heap, one promise and one theorem for each def of the program; the head at the end. -/
namespace MC
open Km356

/-! ## crc -/
theorem crcBit_lt {c : Nat} (h : c < 2 ^ 32) : crcBit c < 2 ^ 32 := by
  unfold crcBit
  split
  · exact Nat.xor_lt_two_pow (by omega) (by decide)
  · omega
theorem bits_lt : ∀ (l : List Nat) {c : Nat}, c < 2 ^ 32 → l.foldl (fun x _ => crcBit x) c < 2 ^ 32
  | [], _, h => h
  | _ :: r, _, h => bits_lt r (crcBit_lt h)
theorem crcByte_lt {c b : Nat} (h : c < 2 ^ 32) (hb : b < 256) : crcByte c b < 2 ^ 32 :=
  bits_lt _ (Nat.xor_lt_two_pow h (by omega))
theorem crcs_lt : ∀ (l : Bytes) {c : Nat}, c < 2 ^ 32 → (∀ b ∈ l, b < 256) → l.foldl crcByte c < 2 ^ 32
  | [], _, h, _ => h
  | a :: r, _, h, hl => crcs_lt r (crcByte_lt h (hl a List.mem_cons_self)) fun b hb => hl b (List.mem_cons_of_mem _ hb)
theorem crc_lt {l : Bytes} (hl : ∀ b ∈ l, b < 256) : crc l < 2 ^ 32 :=
  Nat.xor_lt_two_pow (crcs_lt l (by decide) hl) (by decide)

/-- the check behind so many bits of a byte -/
def bitsOf (c : Nat) (i : Nat) : Nat := (List.range i).foldl (fun x _ => crcBit x) c
theorem bitsOf_zero (c : Nat) : bitsOf c 0 = c := rfl
theorem bitsOf_succ (c i : Nat) : bitsOf c (i + 1) = crcBit (bitsOf c i) := by
  unfold bitsOf
  rw [List.range_succ, List.foldl_append]
  rfl
theorem crcByte_bits (c b : Nat) : crcByte c b = bitsOf (c ^^^ b) 8 := rfl

/-! ## one more of a list -/
theorem take_more {α : Type} : ∀ {l : List α} {i : Nat} {x : α}, l[i]? = some x → l.take (i + 1) = l.take i ++ [x]
  | [], i, x, h => by simp at h
  | a :: l, 0, x, h => by
    have e : a = x := Option.some.inj h
    subst e
    rfl
  | a :: l, i + 1, x, h => by
    have ih := take_more (l := l) (i := i) (x := x) h
    show a :: l.take (i + 1) = a :: l.take i ++ [x]
    rw [ih]
    rfl
theorem fold_more {α β : Type} {f : β → α → β} {b : β} {l : List α} {i : Nat} {x : α} (h : l[i]? = some x) : (l.take (i + 1)).foldl f b = f ((l.take i).foldl f b) x := by
  rw [take_more h, List.foldl_append]
  rfl

/-! ## numbers and bytes -/
def val (l : Bytes) : Nat := l.foldr (fun b v => b + 256 * v) 0
theorem val_nil : val [] = 0 := rfl
theorem val_cons (a : Nat) (r : Bytes) : val (a :: r) = a + 256 * val r := rfl
theorem num_val (l : Bytes) (k w : Nat) : num l k w = val ((l.drop k).take w) := rfl
theorem val_lt : ∀ (l : Bytes), (∀ b ∈ l, b < 256) → val l < 256 ^ l.length
  | [], _ => by simp [val_nil]
  | a :: r, h => by
    have h1 := val_lt r fun b hb => h b (List.mem_cons_of_mem _ hb)
    have h2 := h a List.mem_cons_self
    rw [val_cons, List.length_cons, Nat.pow_succ]
    omega
theorem le_zero (v : Nat) : le 0 v = [] := rfl
theorem le_succ (w v : Nat) : le (w + 1) v = (v % 256) :: le w (v / 256) := by
  unfold le
  rw [List.range_succ_eq_map, List.map_cons, List.map_map]
  simp only [Nat.pow_zero, Nat.div_one]
  congr 1
  apply List.map_congr_left
  intro i _
  show v / 256 ^ (i + 1) % 256 = v / 256 / 256 ^ i % 256
  rw [Nat.div_div_eq_div_mul, Nat.pow_succ, Nat.mul_comm]
theorem le_snoc (w v : Nat) : le (w + 1) v = le w v ++ [v / 256 ^ w % 256] := by
  unfold le
  rw [List.range_succ, List.map_append]
  rfl
theorem le_length (w v : Nat) : (le w v).length = w := by simp [le]
theorem le_byte {w v : Nat} : ∀ b ∈ le w v, b < 256 := by
  intro b hb
  unfold le at hb
  obtain ⟨i, _, rfl⟩ := List.mem_map.mp hb
  exact Nat.mod_lt _ (by decide)
theorem le_val : ∀ (l : Bytes), (∀ b ∈ l, b < 256) → le l.length (val l) = l
  | [], _ => rfl
  | a :: r, h => by
    have h1 := le_val r fun b hb => h b (List.mem_cons_of_mem _ hb)
    have h2 := h a List.mem_cons_self
    rw [List.length_cons, le_succ, val_cons]
    have e1 : (a + 256 * val r) % 256 = a := by omega
    have e2 : (a + 256 * val r) / 256 = val r := by omega
    rw [e1, e2, h1]
theorem val_le : ∀ (w v : Nat), v < 256 ^ w → val (le w v) = v
  | 0, v, h => by
    have : v = 0 := by simpa using h
    subst this
    rfl
  | w + 1, v, h => by
    have h' : v / 256 < 256 ^ w := by
      rw [Nat.pow_succ] at h
      exact Nat.div_lt_of_lt_mul (by rw [Nat.mul_comm]; exact h)
    rw [le_succ, val_cons, val_le w (v / 256) h']
    omega

/-! ## messages -/
def decoded (l : Bytes) : Message := ⟨num l 0 1, num l 1 1, num l 2 1, num l 4 4, ⟨⟨num l 8 4, num l 3 1⟩, num l 12 8⟩⟩
def headOf (m : Message) : Bytes := [m.kind, m.client, m.keeper, m.held.stamp.client] ++ (le 4 m.op ++ (le 4 m.held.stamp.number ++ le 8 m.held.value))
theorem bytes_head (m : Message) : m.bytes = headOf m ++ le 4 (crc (headOf m)) := rfl
theorem list24 {l : Bytes} (h : l.length = 24) : ∃ a0 a1 a2 a3 a4 a5 a6 a7 a8 a9 a10 a11 a12 a13 a14 a15 a16 a17 a18 a19 a20 a21 a22 a23, l = [a0, a1, a2, a3, a4, a5, a6, a7, a8, a9, a10, a11, a12, a13, a14, a15, a16, a17, a18, a19, a20, a21, a22, a23] := by
  match l, h with
  | [a0, a1, a2, a3, a4, a5, a6, a7, a8, a9, a10, a11, a12, a13, a14, a15, a16, a17, a18, a19, a20, a21, a22, a23], _ => exact ⟨_, _, _, _, _, _, _, _, _, _, _, _, _, _, _, _, _, _, _, _, _, _, _, _, rfl⟩
theorem le_part {l : Bytes} (hb : ∀ b ∈ l, b < 256) {k w : Nat} (h : k + w ≤ l.length) : le w (num l k w) = (l.drop k).take w := by
  have q := le_val ((l.drop k).take w) fun b z => hb b (List.mem_of_mem_drop (List.mem_of_mem_take z))
  have e : ((l.drop k).take w).length = w := by rw [List.length_take, List.length_drop]; omega
  rw [e] at q
  exact q
theorem parts24 {l : Bytes} (h : l.length = 24) : [num l 0 1, num l 1 1, num l 2 1, num l 3 1] ++ ((l.drop 4).take 4 ++ ((l.drop 8).take 4 ++ (l.drop 12).take 8)) = l.take 20 := by
  obtain ⟨a0, a1, a2, a3, a4, a5, a6, a7, a8, a9, a10, a11, a12, a13, a14, a15, a16, a17, a18, a19, a20, a21, a22, a23, rfl⟩ := list24 h
  rfl
theorem head_decoded {l : Bytes} (h : l.length = 24) (hb : ∀ b ∈ l, b < 256) : headOf (decoded l) = l.take 20 := by
  show [num l 0 1, num l 1 1, num l 2 1, num l 3 1] ++ (le 4 (num l 4 4) ++ (le 4 (num l 8 4) ++ le 8 (num l 12 8))) = _
  rw [le_part hb (by omega), le_part hb (by omega), le_part hb (by omega), parts24 h]
theorem bytes_iff {l : Bytes} (h : l.length = 24) (hb : ∀ b ∈ l, b < 256) : l = (decoded l).bytes ↔ val (l.drop 20) = crc (l.take 20) := by
  have hd : (l.drop 20).length = 4 := by rw [List.length_drop, h]
  have hdb : ∀ b ∈ l.drop 20, b < 256 := fun b q => hb b (List.mem_of_mem_drop q)
  have hc : crc (l.take 20) < 256 ^ 4 := crc_lt fun b q => hb b (List.mem_of_mem_take q)
  rw [bytes_head, head_decoded h hb]
  constructor
  · intro e
    have e2 : l.drop 20 = le 4 (crc (l.take 20)) := by
      have e3 : l.take 20 ++ l.drop 20 = l.take 20 ++ le 4 (crc (l.take 20)) := by rw [List.take_append_drop]; exact e
      exact List.append_cancel_left e3
    rw [e2, val_le 4 _ hc]
  · intro e
    have e2 : le 4 (val (l.drop 20)) = l.drop 20 := by
      have q := le_val _ hdb
      rw [hd] at q
      exact q
    rw [← e, e2, List.take_append_drop]
/-- the program's two looks -/
def inRange (m : Message) : Bool := if (!(decide (1 ≤ m.kind) && decide (m.kind ≤ 4)) || (decide (14 < m.keeper) || decide (m.op = 0))) = true then false else decide (m.client ≤ 15) && decide (m.held.stamp.client ≤ 15)
def isQ (m : Message) : Bool := decide (m.kind = 1) || decide (m.kind = 3)
def isNo (h : Held) : Bool := decide (h.stamp.number = 0) && (decide (h.stamp.client = 0) && decide (h.value = 0))
def noughts (m : Message) : Bool := if (isQ m && !decide (m.keeper = 0)) = true then false else if ((decide (m.kind = 1) || decide (m.kind = 4)) && !isNo m.held) = true then false else decide (0 < m.held.stamp.number) || isNo m.held
theorem isNo_iff (h : Held) : isNo h = (h == nothing) := by
  obtain ⟨⟨n, c⟩, v⟩ := h
  rw [Bool.eq_iff_iff]
  simp [isNo, nothing, and_assoc]
theorem good_iff (m : Message) : m.good = (inRange m && noughts m) := by
  unfold noughts
  rw [isNo_iff]
  unfold Message.good inRange isQ
  obtain ⟨k, c, kp, op, ⟨⟨n, hc⟩, v⟩⟩ := m
  generalize (({ stamp := { number := n, client := hc }, value := v } : Held) == nothing) = z
  show (decide (1 ≤ k) && (decide (k ≤ 4) && (decide (c < 16) && (decide (kp < 15) && (decide (1 ≤ op) && (decide (hc < 16) && ((k % 2 == 0 || kp == 0) && ((k == 2 || k == 3 || z) && (n != 0 || z))))))))) =
    ((if (!(decide (1 ≤ k) && decide (k ≤ 4)) || (decide (14 < kp) || decide (op = 0))) = true then false
      else decide (c ≤ 15) && decide (hc ≤ 15)) &&
      if ((decide (k = 1) || decide (k = 3)) && !decide (kp = 0)) = true then false
      else if ((decide (k = 1) || decide (k = 4)) && !z) = true then false else decide (0 < n) || z)
  have e1 : ∀ x : Nat, decide (x < 16) = decide (x ≤ 15) := fun x => by rw [decide_eq_decide]; omega
  have e2 : decide (kp < 15) = !decide (14 < kp) := by rw [← decide_not, decide_eq_decide]; omega
  have e3 : decide (1 ≤ op) = !decide (op = 0) := by rw [← decide_not, decide_eq_decide]; omega
  have e4 : (kp == 0) = decide (kp = 0) := by rw [Bool.eq_iff_iff]; simp
  have e5 : (n != 0) = decide (0 < n) := by rw [Bool.eq_iff_iff]; simp; omega
  rw [e1, e1, e2, e3, e4, e5]
  generalize decide (c ≤ 15) = b1
  generalize decide (hc ≤ 15) = b2
  generalize decide (14 < kp) = b3
  generalize decide (op = 0) = b4
  generalize decide (kp = 0) = b5
  generalize decide (0 < n) = b6
  rcases k with _ | _ | _ | _ | _ | k
  case succ.succ.succ.succ.succ =>
    have q1 : decide (k + 1 + 1 + 1 + 1 + 1 ≤ 4) = false := decide_eq_false (by omega)
    simp [q1]
  all_goals cases b1 <;> cases b2 <;> cases b3 <;> cases b4 <;> cases b5 <;> cases b6 <;> cases z <;> rfl
/-- what the program finds of 24 bytes -/
theorem messageOf_eq {l : Bytes} (h : l.length = 24) (hb : ∀ b ∈ l, b < 256) : messageOf l = if val (l.drop 20) = crc (l.take 20) then (if (inRange (decoded l) && noughts (decoded l)) = true then some (decoded l) else none) else none := by
  show (if (decoded l).good = true ∧ l = (decoded l).bytes then some (decoded l) else none) = _
  by_cases h1 : val (l.drop 20) = crc (l.take 20)
  · rw [if_pos h1]
    by_cases h2 : (inRange (decoded l) && noughts (decoded l)) = true
    · rw [if_pos h2, if_pos ⟨(good_iff _).trans h2, (bytes_iff h hb).mpr h1⟩]
    · rw [if_neg h2, if_neg fun q => h2 ((good_iff _).symm.trans q.1)]
  · rw [if_neg h1, if_neg fun q => h1 ((bytes_iff h hb).mp q.2)]
theorem decoded_bounds {l : Bytes} (hb : ∀ b ∈ l, b < 256) : (decoded l).held.stamp.number < 2 ^ 32 ∧ (decoded l).op < 2 ^ 32 := by
  have q : ∀ k, ((l.drop k).take 4).length ≤ 4 := fun k => by rw [List.length_take]; omega
  have z : ∀ k, val ((l.drop k).take 4) < 2 ^ 32 := fun k => by
    have h1 := val_lt ((l.drop k).take 4) fun b hb' => hb b (List.mem_of_mem_drop (List.mem_of_mem_take hb'))
    have h2 : 256 ^ ((l.drop k).take 4).length ≤ 256 ^ 4 := Nat.pow_le_pow_right (by decide) (q k)
    exact Nat.lt_of_lt_of_le h1 h2
  exact ⟨z 8, z 4⟩
end MC
namespace MC
open Km356

/-! ## the order of stamps -/
/-- the client's sets of who answered -/
theorem filter_set : ∀ {l : List Bool} {k : Nat}, k < l.length → l.getD k false = false → ((l.set k true).filter fun b => b).length = (l.filter fun b => b).length + 1
  | [], k, h, _ => by simp at h
  | a :: r, 0, _, h => by
    have e : a = false := h
    subst e
    rfl
  | a :: r, k + 1, h, q => by
    have ih := filter_set (l := r) (k := k) (by simpa using h) (by simpa using q)
    rw [List.set_cons_succ]
    cases a
    · show ((r.set k true).filter fun b => b).length = (r.filter fun b => b).length + 1
      exact ih
    · show ((r.set k true).filter fun b => b).length + 1 = (r.filter fun b => b).length + 1 + 1
      rw [ih]
theorem getD_set {l : List Bool} {k i : Nat} (h : k < l.length) : (l.set k true).getD i false = if i = k then true else l.getD i false := by
  rw [List.getD_eq_getElem?_getD, List.getD_eq_getElem?_getD, List.getElem?_set]
  by_cases e : i = k
  · subst e
    simp [h]
  · rw [if_neg (fun q => e q.symm), if_neg e]
theorem noOne_length : noOne.length = 15 := rfl
theorem noOne_get (i : Nat) : noOne.getD i false = false := by
  rw [List.getD_eq_getElem?_getD]
  unfold noOne
  rw [List.getElem?_replicate]
  split <;> rfl
theorem noOne_filter : (noOne.filter fun b => b).length = 0 := rfl

/-! ## calls, one behind another -/
theorem call_cases {shape : Int → Option (Nat × Nat)} {p : Int} {r : List Int} {c : List (List Int)} {t : List Int} (h : PyFlat.call shape (p :: r) = some (c, t)) (hk : ∀ p n k, shape p = some (n, k) → k = 0 ∨ k = 1) :
    ∃ n k, shape p = some (n, k) ∧ n ≤ r.length ∧ ((k = 0 ∧ c = [p :: r.take n] ∧ t = r.drop n) ∨
      (k = 1 ∧ ∃ cnt r2, r.drop n = cnt :: r2 ∧ 0 ≤ cnt ∧ cnt.toNat ≤ r2.length ∧ c = [p :: r.take n, r2.take cnt.toNat] ∧ t = r2.drop cnt.toNat)) := by
  unfold PyFlat.call at h
  simp only at h
  cases e : shape p with
  | none => rw [e] at h; cases h
  | some nk =>
    obtain ⟨n, k⟩ := nk
    rw [e] at h
    simp only at h
    by_cases hn : r.length < n
    · rw [if_pos hn] at h; cases h
    · rw [if_neg hn] at h
      refine ⟨n, k, rfl, by omega, ?_⟩
      rcases hk p n k e with rfl | rfl
      · left
        simp only [PyFlat.rows] at h
        cases h
        exact ⟨rfl, rfl, rfl⟩
      · right
        refine ⟨rfl, ?_⟩
        simp only [PyFlat.rows] at h
        cases e2 : r.drop n with
        | nil => rw [e2] at h; simp only [PyFlat.row] at h; cases h
        | cons cnt r2 =>
          rw [e2] at h
          simp only [PyFlat.row] at h
          by_cases hc : 0 ≤ cnt ∧ cnt.toNat ≤ r2.length
          · rw [if_pos hc] at h
            cases h
            exact ⟨cnt, r2, rfl, hc.1, hc.2, rfl, rfl⟩
          · rw [if_neg hc] at h
            cases h
def wholeNumbers : List Int := [2, 1, 3, 1, 2, 1, 1, 1]
def rowsOf : List Int := [0, 1, 0, 0, 0, 0, 1, 0]
theorem shape_cases {p : Int} {n k : Nat} (h : PyKm356.shape p = some (n, k)) : ∃ q : Nat, p = (q : Int) ∧ q < 8 ∧ wholeNumbers[q]? = some (n : Int) ∧ rowsOf[q]? = some (k : Int) ∧ (k = 0 ∨ k = 1) := by
  unfold PyKm356.shape at h
  repeat' split at h
  all_goals first
    | (cases h; subst_vars; first
        | exact ⟨0, rfl, by decide, rfl, rfl, by decide⟩
        | exact ⟨1, rfl, by decide, rfl, rfl, by decide⟩
        | exact ⟨2, rfl, by decide, rfl, rfl, by decide⟩
        | exact ⟨3, rfl, by decide, rfl, rfl, by decide⟩
        | exact ⟨4, rfl, by decide, rfl, rfl, by decide⟩
        | exact ⟨5, rfl, by decide, rfl, rfl, by decide⟩
        | exact ⟨6, rfl, by decide, rfl, rfl, by decide⟩
        | exact ⟨7, rfl, by decide, rfl, rfl, by decide⟩)
    | cases h
theorem calls_cons {shape : Int → Option (Nat × Nat)} {f : Nat} {p : Int} {r : List Int} {cs : List (List (List Int))} (h : PyFlat.calls shape f (p :: r) = some cs) :
    ∃ f' c t cs', PyFlat.call shape (p :: r) = some (c, t) ∧ PyFlat.calls shape f' t = some cs' ∧ cs = c :: cs' := by
  cases f with
  | zero => simp [PyFlat.calls] at h
  | succ f =>
    unfold PyFlat.calls at h
    cases e : PyFlat.call shape (p :: r) with
    | none => rw [e] at h; cases h
    | some ct =>
      obtain ⟨c, t⟩ := ct
      rw [e] at h
      simp only at h
      cases e2 : PyFlat.calls shape f t with
      | none => rw [e2] at h; cases h
      | some cs' =>
        rw [e2] at h
        cases h
        exact ⟨f, c, t, cs', rfl, e2, rfl⟩
theorem calls_nil {shape : Int → Option (Nat × Nat)} {f : Nat} {cs : List (List (List Int))} (h : PyFlat.calls shape f [] = some cs) : cs = [] := by
  cases f <;> (simp only [PyFlat.calls] at h; cases h; rfl)
theorem whole_id (c : List (List Int)) : PyKm356.whole c = c := by
  unfold PyKm356.whole
  split <;> rfl
theorem whole_map (cs : List (List (List Int))) : cs.map PyKm356.whole = cs := by
  have e : PyKm356.whole = id := funext whole_id
  rw [e, List.map_id]
/-- what's asked of the list that is handed in -/
theorem asked_of {l : List Int} (h : PyKm356.answers_asked l = true) : ∃ raw, PyFlat.calls PyKm356.shape l.length l = some raw ∧ PyInside.calls PyKm356.bound raw = true ∧ raw.all Km356Neutral.asked1 = true ∧
    Km356Neutral.may Km356Neutral.start raw = true ∧ PyKm356.answers l = PyFlat.told (PyFlat.played Km356Neutral.step Km356Neutral.start raw) ∧ (PyKm356.answers l).length ≤ 10000000 := by
  unfold PyKm356.answers_asked at h
  cases e : PyFlat.calls PyKm356.shape l.length l with
  | none => rw [e] at h; cases h
  | some raw =>
    rw [e] at h
    simp only [Bool.and_eq_true] at h
    obtain ⟨⟨⟨⟨_, _⟩, h3⟩, h4⟩, h5⟩ := h
    rw [whole_map] at h4
    unfold Km356Neutral.asked at h4
    simp only [Bool.and_eq_true] at h4
    refine ⟨raw, rfl, h3, h4.2.2.1, h4.2.2.2, ?_, of_decide_eq_true h5⟩
    unfold PyKm356.answers PyKm356.calls
    rw [e]
    simp only
    rw [whole_map]
theorem told_cons (a : List Int) (l : List (List Int)) : PyFlat.told (a :: l) = ((a.length : Int) :: a) ++ PyFlat.told l := rfl
theorem played_cons {S : Type} (step : S → List (List Int) → S × List Int) (s : S) (c : List (List Int)) (r : List (List (List Int))) : PyFlat.played step s (c :: r) = (step s c).2 :: PyFlat.played step (step s c).1 r := rfl
theorem may_cons {s : Km356Neutral.S} {c : List (List Int)} {l : List (List (List Int))} (h : Km356Neutral.may s (c :: l) = true) : (Km356Neutral.step s c).2 ≠ [] ∧ Km356Neutral.may (Km356Neutral.step s c).1 l = true := by
  have h' : (!((Km356Neutral.step s c).2.isEmpty) && Km356Neutral.may (Km356Neutral.step s c).1 l) = true := h
  rw [Bool.and_eq_true] at h'
  refine ⟨fun e => ?_, h'.2⟩
  have q := h'.1
  rw [e] at q
  cases q
end MC
namespace MC
open Km356 Km356Neutral

/-! ## one step, call by call -/
theorem getD_some {α : Type} {l : List (Option α)} {k : Nat} {a : α} (h : l.getD k none = some a) : l[k]? = some (some a) := by
  rw [List.getD_eq_getElem?_getD] at h
  cases e : l[k]? with
  | none => rw [e] at h; cases h
  | some x => rw [e] at h; exact congrArg some h
theorem set_same {α : Type} : ∀ {l : List α} {k : Nat} {a : α}, l[k]? = some a → l.set k a = l
  | [], _, _, h => by simp at h
  | b :: r, 0, a, h => by
    have e : b = a := Option.some.inj h
    rw [e]; rfl
  | b :: r, k + 1, a, h => by
    show b :: r.set k a = b :: r
    rw [set_same (l := r) (k := k) h]
theorem kDoes_start (a : Keeper) (me : Nat) : kDoes a (.kStart me) = if 15 ≤ me then (a, only (-22)) else (⟨me, nothing⟩, only 0) := rfl
theorem cDoes_start (a : Client) (me n : Nat) : cDoes a (.cStart me n) = if 16 ≤ me ∨ n = 0 ∨ 15 < n then (a, only (-22)) else (client0 me n, only 0) := rfl
/-- a keeper's start -/
theorem step_kStart (s : S) (k b0 : Int) (hk : k.toNat < 4) : step s [[0, k, b0]] = if 15 ≤ b0.toNat then (s, [-22]) else ((s.1.set k.toNat (some ⟨b0.toNat, nothing⟩), s.2), [0]) := by
  show step0 s k.toNat (.kStart b0.toNat) = _
  unfold step0
  rw [if_neg (by omega)]
  cases e : s.1.getD k.toNat none with
  | some a =>
    simp only
    rw [kDoes_start]
    by_cases h : 15 ≤ b0.toNat
    · rw [if_pos h, if_pos h]
      simp only [set_same (getD_some e)]
      rfl
    · rw [if_neg h, if_neg h]
      rfl
  | none =>
    simp only
    rw [if_pos (by rfl)]
    rw [kDoes_start]
    by_cases h : 15 ≤ b0.toNat
    · rw [if_pos h, if_pos h]
      rfl
    · rw [if_neg h, if_neg h]
      rfl
theorem step_kHeard (s : S) (k : Int) (r0 : List Int) (hk : k.toNat < 4) (h : (step s [[1, k], r0]).2 ≠ []) : ∃ a, s.1.getD k.toNat none = some a ∧
    step s [[1, k], r0] = ((s.1.set k.toNat (some (kDoes a (.kHeard (nats r0))).1), s.2), told (kDoes a (.kHeard (nats r0))).2) := by
  have e0 : step s [[1, k], r0] = step0 s k.toNat (.kHeard (nats r0)) := rfl
  rw [e0] at h ⊢
  unfold step0 at h ⊢
  rw [if_neg (by omega)] at h ⊢
  cases e : s.1.getD k.toNat none with
  | some a => exact ⟨a, rfl, rfl⟩
  | none =>
    rw [e] at h
    exact absurd rfl h
theorem step_cStart (s : S) (k b0 b1 : Int) (hk : k.toNat < 2) : step s [[2, k, b0, b1]] = if 16 ≤ b0.toNat ∨ b1.toNat = 0 ∨ 15 < b1.toNat then (s, [-22]) else ((s.1, s.2.set k.toNat (some (client0 b0.toNat b1.toNat))), [0]) := by
  show step1 s k.toNat (.cStart b0.toNat b1.toNat) = _
  unfold step1
  rw [if_neg (by omega)]
  cases e : s.2.getD k.toNat none with
  | some a =>
    simp only
    rw [cDoes_start]
    by_cases h : 16 ≤ b0.toNat ∨ b1.toNat = 0 ∨ 15 < b1.toNat
    · rw [if_pos h, if_pos h]
      simp only [set_same (getD_some e)]
      rfl
    · rw [if_neg h, if_neg h]
      rfl
  | none =>
    simp only
    rw [if_pos (by rfl)]
    rw [cDoes_start]
    by_cases h : 16 ≤ b0.toNat ∨ b1.toNat = 0 ∨ 15 < b1.toNat
    · rw [if_pos h, if_pos h]
      rfl
    · rw [if_neg h, if_neg h]
      rfl
/-- a call of a client that is no start -/
theorem step1_some {s : S} {k : Nat} {x : Km356.Call} (hk : k < 2) (hx : isStart x = false) (h : (step1 s k x).2 ≠ []) : ∃ a, s.2.getD k none = some a ∧
    step1 s k x = ((s.1, s.2.set k (some (cDoes a x).1)), told (cDoes a x).2) := by
  unfold step1 at h ⊢
  rw [if_neg (by omega)] at h ⊢
  cases e : s.2.getD k none with
  | some a => exact ⟨a, rfl, rfl⟩
  | none =>
    rw [e] at h
    simp only [hx] at h
    exact absurd rfl h
/-- the call that a client's call of the list is -/
def cCall : Int → Int → List Int → Km356.Call
  | 3, _, _ => .cRead
  | 4, v, _ => .cWrite v.toNat
  | 5, _, _ => .cSay
  | 6, _, r => .cHeard (nats r)
  | _, _, _ => .cDone
end MC
namespace MC
open Km356 Km356Neutral
/-! ## what a good message is -/
theorem messageOf_good {l : Bytes} {m : Message} (h : messageOf l = some m) : m.good = true ∧ m = decoded l := by
  have h' : (if (decoded l).good = true ∧ l = (decoded l).bytes then some (decoded l) else none) = some m := h
  by_cases q : (decoded l).good = true ∧ l = (decoded l).bytes
  · rw [if_pos q] at h'
    have e := Option.some.inj h'
    rw [← e]
    exact ⟨q.1, rfl⟩
  · rw [if_neg q] at h'
    cases h'
theorem good_kind {m : Message} (h : m.good = true) : 1 ≤ m.kind ∧ m.kind ≤ 4 := by
  unfold Message.good at h
  simp only [Bool.and_eq_true, decide_eq_true_eq] at h
  exact ⟨h.1, h.2.1⟩
theorem isQ_not {m : Message} (h : m.good = true) (q : isQ m = false) : m.kind = 2 ∨ m.kind = 4 := by
  have k := good_kind h
  unfold isQ at q
  simp only [Bool.or_eq_false_iff, decide_eq_false_iff_not] at q
  omega
theorem isQ_yes {m : Message} (q : isQ m = true) : m.kind = 1 ∨ m.kind = 3 := by
  unfold isQ at q
  simpa using q
/-- a keeper's and a client's answers, by what the program looks at -/
theorem kHeard_none {k : Keeper} {l : Bytes} (h : messageOf l = none) : kDoes k (.kHeard l) = (k, only (-71)) := by
  show (match messageOf l with | none => (k, only (-71)) | some m => if m.kind = 2 ∨ m.kind = 4 then (k, only (-71)) else ((k.hears m).1, { value := 0, out := (k.hears m).2.bytes })) = _
  rw [h]
theorem kHeard_not {k : Keeper} {l : Bytes} {m : Message} (h : messageOf l = some m) (q : isQ m = false) : kDoes k (.kHeard l) = (k, only (-71)) := by
  show (match messageOf l with | none => (k, only (-71)) | some m => if m.kind = 2 ∨ m.kind = 4 then (k, only (-71)) else ((k.hears m).1, { value := 0, out := (k.hears m).2.bytes })) = _
  rw [h]
  exact if_pos (isQ_not (messageOf_good h).1 q)
theorem kHeard_yes {k : Keeper} {l : Bytes} {m : Message} (h : messageOf l = some m) (q : isQ m = true) : kDoes k (.kHeard l) = ((k.hears m).1, { value := 0, out := (k.hears m).2.bytes }) := by
  show (match messageOf l with | none => (k, only (-71)) | some m => if m.kind = 2 ∨ m.kind = 4 then (k, only (-71)) else ((k.hears m).1, { value := 0, out := (k.hears m).2.bytes })) = _
  rw [h]
  exact if_neg (by have := isQ_yes q; omega)
theorem cHeard_none {c : Client} {l : Bytes} (h : messageOf l = none) : cDoes c (.cHeard l) = (c, only (-71)) := by
  show (match messageOf l with | none => (c, only (-71)) | some m => if c.wants m = true then (c.hears m, only 1) else (c, only 0)) = _
  rw [h]
theorem cHeard_some {c : Client} {l : Bytes} {m : Message} (h : messageOf l = some m) : cDoes c (.cHeard l) = if c.wants m = true then (c.hears m, only 1) else (c, only 0) := by
  show (match messageOf l with | none => (c, only (-71)) | some m => if c.wants m = true then (c.hears m, only 1) else (c, only 0)) = _
  rw [h]
end MC
namespace MC
open Km356 Km356Neutral
/-! ## the calls that are asked, form by form -/
inductive Form : List (List Int) → Prop where
  | f0 (k b0 : Int) : 0 ≤ k → k ≤ 3 → 0 ≤ b0 → Form [[0, k, b0]]
  | f1 (k : Int) (r0 : List Int) : 0 ≤ k → k ≤ 3 → r0.length = 24 → (∀ z ∈ r0, 0 ≤ z ∧ z < 256) → Form [[1, k], r0]
  | f2 (k b0 b1 : Int) : 0 ≤ k → k ≤ 1 → 0 ≤ b0 → 0 ≤ b1 → Form [[2, k, b0, b1]]
  | f3 (k : Int) : 0 ≤ k → k ≤ 1 → Form [[3, k]]
  | f4 (k b0 : Int) : 0 ≤ k → k ≤ 1 → 0 ≤ b0 → Form [[4, k, b0]]
  | f5 (k : Int) : 0 ≤ k → k ≤ 1 → Form [[5, k]]
  | f6 (k : Int) (r0 : List Int) : 0 ≤ k → k ≤ 1 → r0.length = 24 → (∀ z ∈ r0, 0 ≤ z ∧ z < 256) → Form [[6, k], r0]
  | f7 (k : Int) : 0 ≤ k → k ≤ 1 → Form [[7, k]]
theorem natural_pos {z : Int} {b : Nat} (h : natural z b = true) : 0 ≤ z := by
  unfold natural at h
  rw [Bool.and_eq_true] at h
  exact of_decide_eq_true h.1
theorem natural_8 {z : Int} (h : natural z 8 = true) : 0 ≤ z ∧ z < 256 := by
  unfold natural at h
  rw [Bool.and_eq_true] at h
  exact ⟨of_decide_eq_true h.1, of_decide_eq_true h.2⟩
theorem within_of {lo hi z : Int} (h : PyInside.within lo hi z = true) : lo ≤ z ∧ z ≤ hi := by
  unfold PyInside.within at h
  rw [Bool.and_eq_true] at h
  exact ⟨of_decide_eq_true h.1, of_decide_eq_true h.2⟩
theorem first_bound {lo hi k : Int} {b : List (Int × Int)} {xs : List Int} (h : PyInside.each ((lo, hi) :: b) (k :: xs) = true) : lo ≤ k ∧ k ≤ hi := by
  unfold PyInside.each at h
  rw [Bool.and_eq_true] at h
  exact within_of h.1
theorem rows_of {r0 : List Int} (h : (decide (r0.length = 24) && r0.all (fun (z : Int) => natural z 8)) = true) : r0.length = 24 ∧ ∀ z ∈ r0, 0 ≤ z ∧ z < 256 := by
  rw [Bool.and_eq_true] at h
  exact ⟨of_decide_eq_true h.1, fun z hz => natural_8 (List.all_eq_true.mp h.2 z hz)⟩
theorem inside_first {p k : Int} {xs : List Int} {rows : List (List Int)} {lo hi : Int} {b : List (Int × Int)} {q : List (Int × Int × Nat × Nat)} (h : PyInside.call PyKm356.bound ((p :: k :: xs) :: rows) = true) (e : PyKm356.bound p = ((lo, hi) :: b, q)) : lo ≤ k ∧ k ≤ hi := by
  have h' : (PyInside.each (PyKm356.bound p).1 (k :: xs) && PyInside.lists (PyKm356.bound p).2 rows) = true := h
  rw [Bool.and_eq_true, e] at h'
  exact first_bound h'.1
theorem form_of {c : List (List Int)} (h : asked1 c = true) (hb : PyInside.call PyKm356.bound c = true) : Form c := by
  unfold asked1 at h
  split at h
  · rename_i k b0
    rw [Bool.and_eq_true] at h
    have q := inside_first hb rfl
    exact .f0 k b0 q.1 q.2 (natural_pos h.2)
  · rename_i k r0
    rw [Bool.and_eq_true] at h
    have q := inside_first hb rfl
    have r := rows_of h.2
    exact .f1 k r0 q.1 q.2 r.1 r.2
  · rename_i k b0 b1
    rw [Bool.and_eq_true, Bool.and_eq_true] at h
    have q := inside_first hb rfl
    exact .f2 k b0 b1 q.1 q.2 (natural_pos h.1.2) (natural_pos h.2)
  · rename_i k
    have q := inside_first hb rfl
    exact .f3 k q.1 q.2
  · rename_i k b0
    rw [Bool.and_eq_true] at h
    have q := inside_first hb rfl
    exact .f4 k b0 q.1 q.2 (natural_pos h.2)
  · rename_i k
    have q := inside_first hb rfl
    exact .f5 k q.1 q.2
  · rename_i k r0
    rw [Bool.and_eq_true] at h
    have q := inside_first hb rfl
    have r := rows_of h.2
    exact .f6 k r0 q.1 q.2 r.1 r.2
  · rename_i k
    have q := inside_first hb rfl
    exact .f7 k q.1 q.2
  · cases h
end MC
namespace MC
open Km356 Km356Neutral
theorem shape_rows (p : Int) (n k : Nat) (h : PyKm356.shape p = some (n, k)) : k = 0 ∨ k = 1 := by
  obtain ⟨_, _, _, _, _, q⟩ := shape_cases h
  exact q
/-- a call at a place of the list -/
theorem call_at_facts {L : List Int} {i : Nat} {c : List (List Int)} {t : List Int} (hi : i < L.length) (h : PyFlat.call PyKm356.shape (L.drop i) = some (c, t)) :
    ∃ q n k : Nat, L[i]? = some (q : Int) ∧ wholeNumbers[q]? = some (n : Int) ∧ rowsOf[q]? = some (k : Int) ∧ i + 1 + n ≤ L.length ∧
      ((k = 0 ∧ c = [(q : Int) :: (L.drop (i + 1)).take n] ∧ L.drop (i + 1 + n) = t) ∨
        (k = 1 ∧ ∃ cnt : Nat, L[i + 1 + n]? = some (cnt : Int) ∧ i + 1 + n + 1 + cnt ≤ L.length ∧ c = [(q : Int) :: (L.drop (i + 1)).take n, (L.drop (i + 1 + n + 1)).take cnt] ∧ L.drop (i + 1 + n + 1 + cnt) = t)) := by
  rw [List.drop_eq_getElem_cons hi] at h
  obtain ⟨n, k, hs, hn, hc⟩ := call_cases h shape_rows
  obtain ⟨q, hq, _, hw, hr, _⟩ := shape_cases hs
  have hl : n ≤ L.length - (i + 1) := by
    rw [List.length_drop] at hn
    exact hn
  have hd : (L.drop (i + 1)).drop n = L.drop (i + 1 + n) := by rw [List.drop_drop]
  refine ⟨q, n, k, ?_, hw, hr, by omega, ?_⟩
  · rw [List.getElem?_eq_getElem hi, hq]
  · rcases hc with ⟨k0, ec, et⟩ | ⟨k1, cnt, r2, er, h0, hle, ec, et⟩
    · left
      refine ⟨k0, ?_, ?_⟩
      · rw [ec, hq]
      · rw [et, hd]
    · right
      rw [hd] at er
      have hlt : i + 1 + n < L.length := by
        have z := congrArg List.length er
        rw [List.length_drop, List.length_cons] at z
        omega
      rw [List.drop_eq_getElem_cons hlt] at er
      injection er with er1 er2
      have hcast : cnt = ((cnt.toNat : Nat) : Int) := by omega
      refine ⟨k1, cnt.toNat, ?_, ?_, ?_, ?_⟩
      · rw [List.getElem?_eq_getElem hlt, er1]
        exact congrArg some hcast
      · rw [← er2, List.length_drop] at hle
        omega
      · rw [ec, hq, er2]
      · rw [et, ← er2, List.drop_drop]
end MC
namespace MC
open PySem PySem.Spec PyProof.Rows L2
/-! ### the text by places -/
def top (i : Nat) : Stmt := PySem.Challenge.pw_mostcell_s01_answers.main.body.getD i (.Pass ⟨0, 0, 0, 0⟩)
abbrev sBehind : Stmt := top 4
abbrev sCheck : Stmt := top 5
abbrev sNumBytes : Stmt := top 6
abbrev sBytesNum : Stmt := top 7
abbrev sHeldInit : Stmt := inClass (top 18) 0
abbrev sStamp : Stmt := inClass (top 18) 1
abbrev sIsNothing : Stmt := inClass (top 18) 2
abbrev sMsgInit : Stmt := inClass (top 19) 0
abbrev sIsQ : Stmt := inClass (top 19) 1
abbrev sAsBytes : Stmt := inClass (top 19) 2
abbrev sNothing : Stmt := top 20
abbrev sInRange : Stmt := top 21
abbrev sNoughts : Stmt := top 22
abbrev sMsgOf : Stmt := top 23
abbrev sClInit : Stmt := inClass (top 33) 0
abbrev sGoesOn : Stmt := inClass (top 33) 1
abbrev sBegin : Stmt := inClass (top 33) 2
abbrev sQuestion : Stmt := inClass (top 33) 3
abbrev sIsAnswer : Stmt := inClass (top 33) 4
abbrev sClHear : Stmt := inClass (top 33) 5
abbrev sGoOn : Stmt := inClass (top 33) 6
abbrev sClStarted : Stmt := top 34
abbrev sClBegins : Stmt := top 35
abbrev sClSays : Stmt := top 36
abbrev sClHeard : Stmt := top 37
abbrev sClDone : Stmt := top 38
abbrev sKpInit : Stmt := inClass (top 40) 0
abbrev sKpHear : Stmt := inClass (top 40) 1
abbrev sKpStarted : Stmt := top 41
abbrev sKpHeard : Stmt := top 42
abbrev sMaInit : Stmt := inClass (top 46) 0
abbrev sOfClient : Stmt := top 47
abbrev sAnswer : Stmt := top 48
abbrev sCallAt : Stmt := top 49
abbrev sAnswers : Stmt := top 50
/-! ### numbers in lists -/
def iv (l : List Nat) : List V := l.map fun n : Nat => V.int (n : Int)
theorem iv_length (l : List Nat) : (iv l).length = l.length := by simp [iv]
theorem iv_append (l m : List Nat) : iv (l ++ m) = iv l ++ iv m := by simp [iv]
theorem iv_get {l : List Nat} {i : Nat} {x : V} (h : (iv l)[i]? = some x) : ∃ n, l[i]? = some n ∧ x = .int (n : Int) := by
  unfold iv at h
  rw [List.getElem?_map] at h
  cases e : l[i]? with
  | none => rw [e] at h; cases h
  | some n => rw [e] at h; exact ⟨n, rfl, (Option.some.inj h).symm⟩
theorem iv_at {l : List Nat} {i n : Nat} (h : l[i]? = some n) : (iv l)[i]? = some (.int (n : Int)) := by
  unfold iv
  rw [List.getElem?_map, h]
  rfl
/-! ### where what stands -/
section
variable {P : Program} {w : World} {K : PySem.W.Frag} {mg : Str → Option Value} {base : Heap}
/-- a constant of the module, a whole number -/
def GiM (mg : Str → Option Value) (x : Str) (n : Int) : Prop := ∃ t, mg x = some (.int n t)
theorem pe_gi {X : Cx} {x : Str} {n : Int} {pos : Pos} (hg : Gl X x) (h : GiM X.mg x n) (hd : (x == ("__debug__" : Str)) = false := by decide) : PE X (.Name x pos) (tC (.int n)) := by
  obtain ⟨t, h⟩ := h
  exact pe_glob hg h ⟨t, rfl⟩ hd
/-- .. a tuple of whole numbers -/
def GtM (K : PySem.W.Frag) (mg : Str → Option Value) (x : Str) (ns : List Int) (a : Addr) : Prop := mg x = some (.ref a) ∧ ∃ (o : Obj) (its : Array Value) (n : Nat), K.lookup a = some o ∧ o.cls = .type "tuple" ∧ o.data = .seq its n ∧ its.size ≤ sizeLine ∧ Vals (ns.map V.int) its.toList
theorem GtM.sq {x : Str} {ns : List Int} {a : Addr} (h : GtM K mg x ns a) (H : Hp) : SqT K H a (ns.map V.int) := .inr h.2
theorem pe_gt {X : Cx} {x : Str} {ns : List Int} {a : Addr} {pos : Pos} (hg : Gl X x) (h : GtM X.K X.mg x ns a) (hd : (x == ("__debug__" : Str)) = false := by decide) : PE X (.Name x pos) (tC (.ref a)) := pe_glob hg h.1 rfl hd
/-- a def of the module, as it stands in the text -/
structure DefAt (K : PySem.W.Frag) (mg : Str → Option Value) (x : Str) (st : Stmt) (ps : List Str) : Prop where
  ex : ∃ f fd, mg x = some (.ref f) ∧ Fun K x x st f fd ∧ Binds K fd ps []
structure MethAt (K : PySem.W.Frag) (C : Addr) (x qual : Str) (st : Stmt) (ps : List Str) : Prop where
  ex : ∃ f fd, Meth K C x f ∧ Fun K x qual st f fd ∧ Binds K fd ps []
structure InitAt (K : PySem.W.Frag) (C : Addr) (qual : Str) (st : Stmt) (ps : List Str) : Prop where
  ex : ∃ f fd, Mk K C f ∧ Fun K "__init__" qual st f fd ∧ Binds K fd ps []
/-- .. and what it promises -/
structure DefOk (P : Program) (w : World) (K : PySem.W.Frag) (mg : Str → Option Value) (base : Heap) (k : Nat) (x : Str) (ps : List Str) (sp : Sp) : Prop where
  ex : ∃ f fd, mg x = some (.ref f) ∧ PySem.W.keepIn K (.ref f) = true ∧ Binds K fd ps [] ∧ FnOk P w K mg base CX0 k f fd ps sp
structure MethOk (P : Program) (w : World) (K : PySem.W.Frag) (mg : Str → Option Value) (base : Heap) (k : Nat) (C : Addr) (x : Str) (ps : List Str) (sp : Sp) : Prop where
  ex : ∃ f fd, Meth K C x f ∧ Binds K fd ps [] ∧ FnOk P w K mg base CX0 k f fd ps sp
structure InitOk (P : Program) (w : World) (K : PySem.W.Frag) (mg : Str → Option Value) (base : Heap) (k : Nat) (C : Addr) (ps : List Str) (sp : Sp) : Prop where
  ex : ∃ f fd, Mk K C f ∧ Binds K fd ps [] ∧ FnOk P w K mg base CX0 k f fd ps sp
theorem DefAt.ok {k : Nat} {x : Str} {st : Stmt} {ps : List Str} {sp : Sp} (D : DefAt K mg x st ps) (h : ∀ f fd, Fun K x x st f fd → FnOk P w K mg base CX0 k f fd ps sp) : DefOk P w K mg base k x ps sp := by
  obtain ⟨f, fd, m, F, b⟩ := D.ex
  exact ⟨f, fd, m, F.kp, b, h f fd F⟩
theorem MethAt.ok {k : Nat} {C : Addr} {x qual : Str} {st : Stmt} {ps : List Str} {sp : Sp} (D : MethAt K C x qual st ps) (h : ∀ f fd, Fun K x qual st f fd → FnOk P w K mg base CX0 k f fd ps sp) : MethOk P w K mg base k C x ps sp := by
  obtain ⟨f, fd, m, F, b⟩ := D.ex
  exact ⟨f, fd, m, b, h f fd F⟩
theorem InitAt.ok {k : Nat} {C : Addr} {qual : Str} {st : Stmt} {ps : List Str} {sp : Sp} (D : InitAt K C qual st ps) (h : ∀ f fd, Fun K "__init__" qual st f fd → FnOk P w K mg base CX0 k f fd ps sp) : InitOk P w K mg base k C ps sp := by
  obtain ⟨f, fd, m, F, b⟩ := D.ex
  exact ⟨f, fd, m, b, h f fd F⟩
end
section
variable {X : Cx} {k : Nat} {C : Addr} {ps : List Str} {sp : Sp} {x m : Str} {p pos apos : Pos} {e o : Expr} {es : List Expr} {ta : TE} {t : TA}
/-- f(e, ..) -/
theorem pe_f (D : DefOk X.prog X.w X.K X.mg X.base k x ps sp) (hr : Room k X.A) (hg : Gl X x) (ha : PA X (e :: es) t) (hdb : (x == ("__debug__" : Str)) = false := by decide) (he : starEach (e :: es) X.env = (false, eval e X.env) :: starEach es X.env := by rfl) (hpl : (backTo pos (starEach es X.env)).any (·.1) = false := by rfl) :
    PE X (.Call (.Name x p) (e :: es) [] pos) (tCall sp [] E0 t) := by
  obtain ⟨f, fd, hm, hk, hb, F⟩ := D.ex
  exact pe_call F hr hg hm hk hb .nil pass0 ha hdb he hpl
theorem pe_f0 (D : DefOk X.prog X.w X.K X.mg X.base k x ps sp) (hr : Room k X.A) (hg : Gl X x) (hdb : (x == ("__debug__" : Str)) = false := by decide) : PE X (.Call (.Name x p) [] [] pos) (tCall sp [] E0 tNil) := by
  obtain ⟨f, fd, hm, hk, hb, F⟩ := D.ex
  exact pe_call0 F hr hg hm hk hb .nil pass0 hdb
theorem pe_m {pl : Sem Bool} (he : PE X o ta) (c : Cls X.K C) (M : MethOk X.prog X.w X.K X.mg X.base k C m ps sp) (hr : Room k X.A) (ha : PA X (e :: es) t)
    (hst : starEach (e :: es) X.env = (false, eval e X.env) :: starEach es X.env := by rfl) (hpl : (backTo pos (starEach es X.env)).any (·.1) = false := by rfl)
    (ht : eval (.Call (.Attribute o m apos) (e :: es) [] pos) X.env = (do
      let ov ← eval o X.env
      standAt apos.atName
      let (f, first) ← holding [ov] (getMethod ov m pl)
      callWith pos f first (backTo pos (starEach (e :: es) X.env)) (backToKw pos (keywordEach [] X.env))) := by rfl) :
    PE X (.Call (.Attribute o m apos) (e :: es) [] pos) (tMeth C m sp [] E0 ta t) := by
  obtain ⟨f, fd, hm, hb, F⟩ := M.ex
  exact pe_meth he c hm F hr hb .nil pass0 ha hst hpl ht
theorem pe_m0 {pl : Sem Bool} (he : PE X o ta) (c : Cls X.K C) (M : MethOk X.prog X.w X.K X.mg X.base k C m ps sp) (hr : Room k X.A)
    (ht : eval (.Call (.Attribute o m apos) [] [] pos) X.env = (do
      let ov ← eval o X.env
      standAt apos.atName
      let (f, first) ← holding [ov] (getMethod ov m pl)
      callWith pos f first (backTo pos (starEach [] X.env)) (backToKw pos (keywordEach [] X.env))) := by rfl) :
    PE X (.Call (.Attribute o m apos) [] [] pos) (tMeth C m sp [] E0 ta tNil) := by
  obtain ⟨f, fd, hm, hb, F⟩ := M.ex
  exact pe_meth0 he c hm F hr hb .nil pass0 ht
theorem pe_c (M : InitOk X.prog X.w X.K X.mg X.base k C ps sp) (hr : Room (k + 1) X.A) (hg : Gl X x) (hm : X.mg x = some (.ref C)) (ha : PA X (e :: es) t)
    (hdb : (x == ("__debug__" : Str)) = false := by decide) (he : starEach (e :: es) X.env = (false, eval e X.env) :: starEach es X.env := by rfl) (hpl : (backTo pos (starEach es X.env)).any (·.1) = false := by rfl) :
    PE X (.Call (.Name x p) (e :: es) [] pos) (tMake C sp [] E0 t) := by
  obtain ⟨f, fd, hk, hb, F⟩ := M.ex
  exact pe_make hk F hr hg hm hb .nil pass0 ha hdb he hpl
theorem pe_c0 (M : InitOk X.prog X.w X.K X.mg X.base k C ps sp) (hr : Room (k + 1) X.A) (hg : Gl X x) (hm : X.mg x = some (.ref C)) (hdb : (x == ("__debug__" : Str)) = false := by decide) : PE X (.Call (.Name x p) [] [] pos) (tMake C sp [] E0 tNil) := by
  obtain ⟨f, fd, hk, hb, F⟩ := M.ex
  exact pe_make0 hk F hr hg hm hb .nil pass0 hdb
/-- an attribute of what stands in a slot -/
theorem fv {K : PySem.W.Frag} {i : Nat} {f : Str} {σ : L2.St} {H : Hp} {Q : VK} {a dx : Addr} {fs : List (Str × V)} {v : V} (hi : σ[i]? = some (some (.ref a))) (h : H a = some (.ins C dx fs)) (c : Cls K C) (n : NoAttr K C f) (l : fs.lookup f = some v) (q : Q v H) : tFld K (tVar i) f σ H Q :=
  ⟨_, hi, a, C, dx, fs, v, rfl, h, c, n, l, q⟩
/-- t > u of tuples of whole numbers: where the first pair that differs stands -/
def gtEq (ns ms : List Int) (j : Nat) : Bool := decide (ns.getD j 0 = ms.getD j 0)
def gtAt (ns ms : List Int) (j : Nat) : Bool := decide (ms.getD j 0 < ns.getD j 0)
def gtAll (ns ms : List Int) : Bool := Ob.lexAt (gtEq ns ms) (gtAt ns ms) (decide (ns.length > ms.length)) 0 (min ns.length ms.length)
def rGtT (K : PySem.W.Frag) : R2 := fun x y H Q => ∃ (p q : Addr) (ns ms : List Int), x = .ref p ∧ y = .ref q ∧ SqT K H p (ns.map V.int) ∧ SqT K H q (ms.map V.int) ∧ Q (.bl (gtAll ns ms)) H
theorem items_int {ns : List Int} {us : List Value} (h : Vals (ns.map V.int) us) (j : Nat) (hj : j < us.toArray.size) : ∃ t, us.toArray[j] = .int (ns.getD j 0) t :=
  PyProof.Rows.IntsAre.int_at (Vals.ints h) _ _ (by simp only [List.size_toArray] at hj; simp [hj])
theorem items_len {ns : List Int} {us : List Value} (h : Vals (ns.map V.int) us) : us.toArray.size = ns.length := by
  have e := h.length
  rw [List.length_map] at e
  rw [List.size_toArray, e]
theorem op_gtT (room : X.A.units < cLine) : OpR X (compareOp .Gt) (rGtT X.K) := by
  rintro pins s σ H x y v u Q I rx ry ⟨p, q, ns, ms, ex, ey, hp, hq, fin⟩
  subst ex ey
  obtain rfl : v = Value.ref p := rx
  obtain rfl : u = Value.ref q := ry
  obtain ⟨us, hu, tu, _⟩ := I.tuple hp
  obtain ⟨ws, hw, tw, _⟩ := I.tuple hq
  have cmp := Ob.RcOp.tuples_gt (A := X.A) (s := s) (e := gtEq ns ms) (r := gtAt ns ms) tu tw room
    (fun j h1 h2 => by
      obtain ⟨t1, e1⟩ := items_int hu j h1
      obtain ⟨t2, e2⟩ := items_int hw j h2
      rw [e1, e2, show gtEq ns ms j = (ns.getD j 0 == ms.getD j 0) from rfl]
      exact SeqAt.EqAt.int_int _ _ _ _)
    (fun j h1 h2 _ => by
      obtain ⟨t1, e1⟩ := items_int hu j h1
      obtain ⟨t2, e2⟩ := items_int hw j h2
      rw [e1, e2]
      exact Ob.RcOp.gt_int _ _ _ _)
  rw [items_len hu, items_len hw] at cmp
  exact cmp X.prog X.w X.xe (EP X pins σ Q) ⟨.bl (gtAll ns ms), H, I, rfl, fin⟩
/-- .. of two stamps -/
theorem lex_stamp (a b : Km356.Stamp) : gtAll [(a.number : Int), (a.client : Int)] [(b.number : Int), (b.client : Int)] = b.less a := by
  show (if decide ((a.number : Int) = (b.number : Int)) = true then (if decide ((a.client : Int) = (b.client : Int)) = true then false else decide ((b.client : Int) < (a.client : Int))) else decide ((b.number : Int) < (a.number : Int))) = _
  unfold Km356.Stamp.less
  rw [Bool.eq_iff_iff]
  by_cases h1 : a.number = b.number
  · by_cases h2 : a.client = b.client
    · simp [h1, h2]
    · have e1 : ¬ ((a.client : Int) = (b.client : Int)) := by omega
      simp [h1, e1]
  · have e1 : ¬ ((a.number : Int) = (b.number : Int)) := by omega
    simp [e1]
    omega
end
/-! ### attributes -/
theorem lk_here {k : Str} {v : V} {r : List (Str × V)} : List.lookup k ((k, v) :: r) = some v := by
  have e : (k == k) = true := beq_self_eq_true k
  simp only [List.lookup, e]
theorem lk_past {k g : Str} {v : V} {r : List (Str × V)} (h : (k == g) = false) : List.lookup k ((g, v) :: r) = List.lookup k r := by
  simp only [List.lookup, h]
theorem put_here {f : Str} {v x : V} {r : List (Str × V)} : putF f v ((f, x) :: r) = (f, v) :: r := if_pos rfl
theorem put_past {f g : Str} {v x : V} {r : List (Str × V)} (h : ¬ g = f) : putF f v ((g, x) :: r) = (g, x) :: putF f v r := if_neg h
theorem put_nil {f : Str} {v : V} : putF f v [] = [(f, v)] := rfl
end MC
namespace MC
open PySem PySem.Spec PyProof.Rows L2
/-! ### what the top has written, of constants -/
structure Txt (K : PySem.W.Frag) (mg : Str → Option Value) (CH CM CC CK CA q1 q2 q3 q4 : Addr) : Prop where
  gONES : GiM mg "ALL_ONES" 4294967295
  gPOLY : GiM mg "POLYNOMIAL" 2197175160
  gCB : GiM mg "CHECK_BYTES" 4
  gASK : GiM mg "ASK" 1
  gTELL : GiM mg "TELL_HELD" 2
  gHOLD : GiM mg "HOLD" 3
  gIS : GiM mg "IS_HELD" 4
  gMC : GiM mg "MOST_CLIENT" 15
  gMK : GiM mg "MOST_KEEPER" 14
  gLONG : GiM mg "LONG" 20
  gMKS : GiM mg "MOST_KEEPERS" 15
  gMO : GiM mg "MOST_OPERATIONS" 4294967295
  gMN : GiM mg "MOST_NUMBER" 4294967295
  gNB : GiM mg "NOTHING_BEGUN" 0
  gASKING : GiM mg "ASKING" 1
  gHOLDING : GiM mg "HOLDING" 2
  gDONE : GiM mg "DONE" 3
  gFAILED : GiM mg "FAILED" 4
  gQ : GtM K mg "QUESTIONS" [1, 3] q1
  gWH : GtM K mg "WITHOUT_HELD" [1, 4] q2
  gWN : GtM K mg "WHOLE_NUMBERS" [2, 1, 3, 1, 2, 1, 1, 1] q3
  gRO : GtM K mg "ROWS" [0, 1, 0, 0, 0, 0, 1, 0] q4
  range : mg "range" = none
  rev : mg "reversed" = none
  len : mg "len" = none
  int : mg "int" = none
  cH : mg "Held" = some (.ref CH)
  cM : mg "Message" = some (.ref CM)
  cC : mg "Client" = some (.ref CC)
  cK : mg "Keeper" = some (.ref CK)
  cA : mg "Machines" = some (.ref CA)
  lH : Cls K CH
  lM : Cls K CM
  lC : Cls K CC
  lK : Cls K CK
  lA : Cls K CA
  hNumber : NoAttr K CH "number"
  hClient : NoAttr K CH "client"
  hValue : NoAttr K CH "value"
  mKind : NoAttr K CM "kind"
  mClient : NoAttr K CM "client"
  mKeeper : NoAttr K CM "keeper"
  mOp : NoAttr K CM "operation"
  mHeld : NoAttr K CM "held"
  cMe : NoAttr K CC "me"
  cKeepers : NoAttr K CC "keepers"
  cBegun : NoAttr K CC "begun"
  cStands : NoAttr K CC "stands"
  cOwn : NoAttr K CC "own"
  cHeld : NoAttr K CC "held"
  cAnswered : NoAttr K CC "answered"
  kMe : NoAttr K CK "me"
  kHeld : NoAttr K CK "held"
  aKeepers : NoAttr K CA "keepers"
  aClients : NoAttr K CA "clients"

/-! ### whole numbers as Python has them -/
theorem bitXor_nat (a b : Nat) : Builtin.bitXor (a : Int) (b : Int) = ((a ^^^ b : Nat) : Int) := by
  rw [Bits.bitXor_pp (Int.natCast_nonneg _) (Int.natCast_nonneg _), Int.toNat_natCast, Int.toNat_natCast]
theorem half_nat (n : Nat) : (n : Int) / 2 ^ (1 : Int).toNat = ((n / 2 : Nat) : Int) := by
  show (n : Int) / 2 ^ 1 = _
  omega
theorem crcBit_one {n : Nat} (h : n % 2 = 1) : Builtin.bitXor ((n : Int) / 2 ^ (1 : Int).toNat) 2197175160 = ((Km356.crcBit n : Nat) : Int) := by
  rw [half_nat, show (2197175160 : Int) = ((2197175160 : Nat) : Int) from rfl, bitXor_nat]
  unfold Km356.crcBit
  rw [if_pos h]
theorem crcBit_zero {n : Nat} (h : ¬ n % 2 = 1) : (n : Int) / 2 ^ (1 : Int).toNat = ((Km356.crcBit n : Nat) : Int) := by
  rw [half_nat]
  unfold Km356.crcBit
  rw [if_neg h]
theorem odd_iff {n : Nat} : decide (V.int ((n : Int) % 2) = V.int 1) = true ↔ n % 2 = 1 := by
  rw [decide_eq_true_iff]
  constructor
  · intro h
    have q : (n : Int) % 2 = 1 := V.int.inj h
    omega
  · intro h
    have q : (n : Int) % 2 = 1 := by omega
    rw [q]
theorem byte_at (n k : Nat) : Builtin.bitAnd ((n : Int) / 2 ^ ((8 : Int) * (k : Int)).toNat) 255 = ((n / 256 ^ k % 256 : Nat) : Int) := by
  have e1 : ((8 : Int) * (k : Int)).toNat = 8 * k := by omega
  have e2 : (2 : Int) ^ (8 * k) = ((256 ^ k : Nat) : Int) := by
    rw [show (256 : Nat) = 2 ^ 8 from rfl, ← Nat.pow_mul]
    push_cast
    rfl
  rw [e1, e2, ← Int.natCast_ediv]
  have q := Bits.bitAnd_mask (x := ((n / 256 ^ k : Nat) : Int)) 8 (Int.natCast_nonneg _)
  rw [show (2 : Int) ^ 8 - 1 = 255 from rfl] at q
  rw [q]
  rfl

section
variable {P : Program} {w : World} {K : PySem.W.Frag} {mg : Str → Option Value} {base : Heap} {CH CM CC CK CA q1 q2 q3 q4 : Addr}
/-! ### checks -/
def spBehind : Sp := fun vs H Q _ => ∃ c b : Nat, vs = [.int c, .int b] ∧ Q (.int (Km356.crcByte c b)) H
theorem scBehind : FnScope ["check", "byte", "bit"] ["check", "byte"] (defScope sBehind) := ⟨rfl, rfl, rfl, by decide +kernel, rfl, by decide +kernel, by decide +kernel⟩
theorem ok_behind (D : DefAt K mg "behind_byte" sBehind ["check", "byte"]) (T : Txt K mg CH CM CC CK CA q1 q2 q3 q4) : DefOk P w K mg base 1 "behind_byte" ["check", "byte"] spBehind := by
  refine D.ok fun f fd F => F.ok scBehind (fun vs H Q E h => ?_) (fun cdv A outer s H vs Q E hr h => ?_)
  · obtain ⟨c, b, rfl, _⟩ := h
    rfl
  · obtain ⟨c, b, rfl, k⟩ := h
    refine ⟨_, pss_cons (ps_set (i := 0) scBehind.nd rfl (Or.inl rfl) (pe_op op_xor (pv 0) (pv 1)))
      (pss_cons (ps_for PassesOwn.never rfl (pi_range1 rfl T.range (pa_cons pe_int pa_nil)) (pg_name (i := 2) scBehind.nd rfl (Or.inl rfl))
        (pss_one (ps_if (pt_cmpR op_eq (pe_op op_mod (pv 0) pe_int) pe_int (nomark _))
          (pss_one (ps_set (i := 0) scBehind.nd rfl (Or.inl rfl) (pe_op op_xor (pe_op op_shr (pv 0) pe_int) (pe_gi rfl T.gPOLY))))
          (pss_one (ps_set (i := 0) scBehind.nd rfl (Or.inl rfl) (pe_op op_shr (pv 0) pe_int))))))
      (pss_one (ps_ret (pv 0)))), ?_⟩
    refine ⟨_, rfl, _, rfl, _, _, rfl, rfl, ?_⟩
    refine ⟨8, rfl, by decide, by decide, for_range (n := 8) (fun i σ H' => ∃ v, σ = [some (.int (bitsOf (c ^^^ b) i : Nat)), some (.int b), v] ∧ H' = H) ⟨none, ?_, rfl⟩ ?_ ?_⟩
    · show [some (V.int (Builtin.bitXor c b)), some (V.int b), none] = _
      rw [bitXor_nat]
      rfl
    · rintro i σ H' hi ⟨v, rfl, rfl⟩
      refine ⟨_, rfl, _, _, rfl, rfl, (by show (0 : Int) < 2; decide), rfl, _, rfl, ?_⟩
      refine ite2 (fun q => ?_) (fun q => ?_)
      · refine ⟨_, rfl, _, _, rfl, rfl, (by show (0 : Int) ≤ 1; decide), _, _, rfl, rfl, ?_⟩
        refine ⟨some (.int (0 + i)), ?_, rfl⟩
        rw [bitsOf_succ, ← crcBit_one (odd_iff.mp q)]
        rfl
      · refine ⟨_, rfl, _, _, rfl, rfl, (by show (0 : Int) ≤ 1; decide), ?_⟩
        refine ⟨some (.int (0 + i)), ?_, rfl⟩
        rw [bitsOf_succ, ← crcBit_zero fun z => q (odd_iff.mpr z)]
        rfl
    · rintro σ H' ⟨v, rfl, rfl⟩
      exact ⟨_, rfl, k⟩
def spCheck (K : PySem.W.Frag) : Sp := fun vs H Q _ => ∃ (a : Addr) (l : List Nat), vs = [.ref a] ∧ SqL K H a (iv l) ∧ Q (.int (Km356.crc l)) H
theorem scCheck : FnScope ["some", "check", "byte"] ["some"] (defScope sCheck) := ⟨rfl, rfl, rfl, by decide +kernel, rfl, by decide +kernel, by decide +kernel⟩
theorem ok_check (D : DefAt K mg "check_of" sCheck ["some"]) (T : Txt K mg CH CM CC CK CA q1 q2 q3 q4) (G : DefOk P w K mg base 1 "behind_byte" ["check", "byte"] spBehind) : DefOk P w K mg base 2 "check_of" ["some"] (spCheck K) := by
  refine D.ok fun f fd F => F.ok scCheck (fun vs H Q E h => ?_) (fun cdv A outer s H vs Q E hr h => ?_)
  · obtain ⟨a, l, rfl, _⟩ := h
    rfl
  · obtain ⟨a, l, rfl, hS, k⟩ := h
    refine ⟨_, pss_cons (ps_set (i := 1) scCheck.nd rfl (Or.inl rfl) (pe_gi rfl T.gONES))
      (pss_cons (ps_for PassesOwn.never rfl (pi_list (pv 0)) (pg_name (i := 2) scCheck.nd rfl (Or.inl rfl))
        (pss_one (ps_set (i := 1) scCheck.nd rfl (Or.inl rfl) (pe_f G hr rfl (pa_cons (pv 1) (pa_cons (pv 2) pa_nil))))))
      (pss_one (ps_ret (pe_op op_xor (pv 1) (pe_gi rfl T.gONES))))), ?_⟩
    refine ⟨_, rfl, a, rfl, ⟨_, hS⟩, for_list (K := K) (a := a) (xs := iv l) (fun i σ H' => ∃ v, σ = [some (.ref a), some (.int ((l.take i).foldl Km356.crcByte 4294967295 : Nat)), v] ∧ H' = H) ⟨none, rfl, rfl⟩ (fun i σ H' _ ⟨_, _, e⟩ => by rw [e]; exact hS) ?_ ?_⟩
    · rintro i y σ H' hi ⟨v, rfl, rfl⟩
      obtain ⟨n, hn, rfl⟩ := iv_get hi
      refine ⟨_, rfl, _, rfl, _, n, rfl, ?_⟩
      refine ⟨some (.int n), ?_, rfl⟩
      rw [fold_more hn]
      rfl
    · rintro σ H' ⟨v, rfl, rfl⟩
      refine ⟨_, rfl, _, _, rfl, rfl, ?_⟩
      rw [iv_length, List.take_length]
      show Q (.int (Builtin.bitXor ((l.foldl Km356.crcByte 4294967295 : Nat) : Int) ((4294967295 : Nat) : Int))) _
      rw [bitXor_nat]
      exact k
def spNumBytes : Sp := fun vs H Q _ => ∃ n m : Nat, vs = [.int n, .int m] ∧ m ≤ 8 ∧ ∀ (H' : Hp) (p : Addr), Same H H' → H p = none → H' p = some (.lst (iv (Km356.le m n))) → Q (.ref p) H'
theorem scNumBytes : FnScope ["number", "many", "found", "k"] ["number", "many"] (defScope sNumBytes) := ⟨rfl, rfl, rfl, by decide +kernel, rfl, by decide +kernel, by decide +kernel⟩
theorem ok_numBytes (D : DefAt K mg "number_bytes" sNumBytes ["number", "many"]) (T : Txt K mg CH CM CC CK CA q1 q2 q3 q4) : DefOk P w K mg base 1 "number_bytes" ["number", "many"] spNumBytes := by
  refine D.ok fun f fd F => F.ok scNumBytes (fun vs H Q E h => ?_) (fun cdv A outer s H vs Q E hr h => ?_)
  · obtain ⟨n, m, rfl, _⟩ := h
    rfl
  · obtain ⟨n, m, rfl, hm, k⟩ := h
    refine ⟨_, pss_cons (ps_set (i := 2) scNumBytes.nd rfl (Or.inl rfl) (pe_lst pa_nil))
      (pss_cons (ps_for PassesOwn.never rfl (pi_range1 rfl T.range (pa_cons (pv 1) pa_nil)) (pg_name (i := 3) scNumBytes.nd rfl (Or.inl rfl))
        (pss_one (ps_expr (pe_bm PySem.F.plainAttrs_list PySem.F.slot_list_append PySem.F.type_list_append mt_append (pv 2) (pa_cons (pe_op op_and (pe_op op_shr (pv 0) (pe_op op_mul pe_int (pv 3))) pe_int) pa_nil)))))
      (pss_one (ps_ret (pv 2)))), ?_⟩
    refine ⟨Nat.zero_le _, fun p hp => ?_⟩
    refine ⟨_, rfl, (m : Int), rfl, by omega, by omega, for_range (n := ((m : Int)).toNat) (fun i σ H' => ∃ v, σ = [some (.int n), some (.int m), some (.ref p), v] ∧ H' = upd H p (.lst (iv (Km356.le i n)))) ⟨none, rfl, rfl⟩ ?_ ?_⟩
    · rintro i σ H' hi ⟨v, rfl, rfl⟩
      refine ⟨_, rfl, .inl ⟨rfl, _, SqL.of upd_same⟩, _, rfl, _, rfl, _, _, rfl, rfl, .inl ⟨by decide, by decide⟩, _, _, rfl, rfl, ?_, _, _, rfl, rfl, p, _, _, rfl, rfl, upd_same, ?_, ?_⟩
      · show (0 : Int) ≤ 8 * (0 + (i : Int))
        omega
      · rw [iv_length, le_length, sizeLine_eq]
        omega
      · refine ⟨some (.int (0 + i)), rfl, ?_⟩
        rw [upd_upd, Int.zero_add, le_snoc, iv_append]
        show upd H p (.lst (iv (Km356.le i n) ++ [V.int (Builtin.bitAnd ((n : Int) / 2 ^ ((8 : Int) * (i : Int)).toNat) 255)])) = _
        rw [byte_at]
        rfl
    · rintro σ H' ⟨v, rfl, rfl⟩
      refine ⟨_, rfl, k _ p (fun b o e => ?_) hp upd_same⟩
      rw [upd_ne (ne_of_none e hp)]
      exact e
def spBytesNum (K : PySem.W.Frag) : Sp := fun vs H Q _ => ∃ (a : Addr) (l : List Nat), vs = [.ref a] ∧ SqL K H a (iv l) ∧ Q (.int (val l)) H
theorem scBytesNum : FnScope ["some", "found", "byte"] ["some"] (defScope sBytesNum) := ⟨rfl, rfl, rfl, by decide +kernel, rfl, by decide +kernel, by decide +kernel⟩
theorem drop_back {l : List Nat} {i n : Nat} (hi : i < l.length) (h : l[l.length - 1 - i]? = some n) : l.drop (l.length - (i + 1)) = n :: l.drop (l.length - i) := by
  have hj : l.length - 1 - i < l.length := by omega
  have e : l[l.length - 1 - i] = n := by
    rw [List.getElem?_eq_getElem hj] at h
    exact Option.some.inj h
  have q := List.drop_eq_getElem_cons hj
  rw [show l.length - (i + 1) = l.length - 1 - i by omega, q, e, show l.length - 1 - i + 1 = l.length - i by omega]
theorem ok_bytesNum (D : DefAt K mg "bytes_number" sBytesNum ["some"]) (T : Txt K mg CH CM CC CK CA q1 q2 q3 q4) : DefOk P w K mg base 1 "bytes_number" ["some"] (spBytesNum K) := by
  refine D.ok fun f fd F => F.ok scBytesNum (fun vs H Q E h => ?_) (fun cdv A outer s H vs Q E hr h => ?_)
  · obtain ⟨a, l, rfl, _⟩ := h
    rfl
  · obtain ⟨a, l, rfl, hS, k⟩ := h
    refine ⟨_, pss_cons (ps_set (i := 1) scBytesNum.nd rfl (Or.inl rfl) pe_int)
      (pss_cons (ps_for PassesOwn.never rfl (pi_reversed rfl T.rev (pa_cons (pv 0) pa_nil)) (pg_name (i := 2) scBytesNum.nd rfl (Or.inl rfl))
        (pss_one (ps_set (i := 1) scBytesNum.nd rfl (Or.inl rfl) (pe_op op_add (pe_op op_mul pe_int (pv 1)) (pv 2)))))
      (pss_one (ps_ret (pv 1)))), ?_⟩
    refine ⟨_, rfl, a, _, rfl, hS, RT.for_Itv (K := K) (a := a) (xs := iv l) (fun i σ H' => ∃ v, σ = [some (.ref a), some (.int (val (l.drop (l.length - i)) : Nat)), v] ∧ H' = H) ⟨none, ?_, rfl⟩ (fun i σ H' ⟨_, _, e⟩ => by rw [e]; exact hS) ?_ ?_⟩
    · rw [Nat.sub_zero, List.drop_length]
      rfl
    · rintro i y σ H' hi hy ⟨v, rfl, rfl⟩
      rw [iv_length] at hi hy
      obtain ⟨n, hn, rfl⟩ := iv_get hy
      refine ⟨_, rfl, _, _, rfl, rfl, .inl ⟨by decide, by decide⟩, _, rfl, _, _, rfl, rfl, ?_⟩
      refine ⟨some (.int n), ?_, rfl⟩
      rw [drop_back hi hn, val_cons]
      show [some (V.ref a), some (V.int (256 * ((val (l.drop (l.length - i)) : Nat) : Int) + (n : Int))), some (V.int (n : Int))] = _
      rw [show 256 * ((val (l.drop (l.length - i)) : Nat) : Int) + (n : Int) = ((n + 256 * val (l.drop (l.length - i)) : Nat) : Int) by omega]
    · rintro σ H' ⟨v, rfl, rfl⟩
      refine ⟨_, rfl, ?_⟩
      rw [iv_length, Nat.sub_self, List.drop_zero]
      exact k
end
end MC
namespace MC
open PySem PySem.Spec PyProof.Rows L2
/-! ### how it lies in the heap -/
def heldF (h : Km356.Held) : List (Str × V) := [("number", .int (h.stamp.number : Int)), ("client", .int (h.stamp.client : Int)), ("value", .int (h.value : Int))]
def HeldAt (CH : Addr) (H : Hp) (a : Addr) (h : Km356.Held) : Prop := ∃ dx, H a = some (.ins CH dx (heldF h))
def msgF (k c kp op : Int) (h : Addr) : List (Str × V) := [("kind", .int k), ("client", .int c), ("keeper", .int kp), ("operation", .int op), ("held", .ref h)]
def MsgAt (CM CH : Addr) (H : Hp) (a : Addr) (m : Km356.Message) : Prop := ∃ dx hd, H a = some (.ins CM dx (msgF m.kind m.client m.keeper m.op hd)) ∧ HeldAt CH H hd m.held
theorem HeldAt.same {CH a : Addr} {H H' : Hp} {h : Km356.Held} (x : HeldAt CH H a h) (s : Same H H') : HeldAt CH H' a h := let ⟨dx, e⟩ := x; ⟨dx, s _ _ e⟩
theorem MsgAt.same {CM CH a : Addr} {H H' : Hp} {m : Km356.Message} (x : MsgAt CM CH H a m) (s : Same H H') : MsgAt CM CH H' a m := let ⟨dx, hd, e, h⟩ := x; ⟨dx, hd, s _ _ e, h.same s⟩
theorem n_number_client : ¬ (("number" : Str) = "client") := by decide +kernel
theorem n_number_value : ¬ (("number" : Str) = "value") := by decide +kernel
theorem n_client_value : ¬ (("client" : Str) = "value") := by decide +kernel
theorem n_kind_client : ¬ (("kind" : Str) = "client") := by decide +kernel
theorem n_kind_keeper : ¬ (("kind" : Str) = "keeper") := by decide +kernel
theorem n_kind_operation : ¬ (("kind" : Str) = "operation") := by decide +kernel
theorem n_kind_held : ¬ (("kind" : Str) = "held") := by decide +kernel
theorem n_client_keeper : ¬ (("client" : Str) = "keeper") := by decide +kernel
theorem n_client_operation : ¬ (("client" : Str) = "operation") := by decide +kernel
theorem n_client_held : ¬ (("client" : Str) = "held") := by decide +kernel
theorem n_keeper_operation : ¬ (("keeper" : Str) = "operation") := by decide +kernel
theorem n_keeper_held : ¬ (("keeper" : Str) = "held") := by decide +kernel
theorem n_operation_held : ¬ (("operation" : Str) = "held") := by decide +kernel
section
variable (h : Km356.Held) (k c kp op : Int) (a : Addr)
theorem heldF_number : (heldF h).lookup ("number" : Str) = some (.int h.stamp.number) := lk_here
theorem heldF_client : (heldF h).lookup ("client" : Str) = some (.int h.stamp.client) := (lk_past (by decide +kernel)).trans lk_here
theorem heldF_value : (heldF h).lookup ("value" : Str) = some (.int h.value) := (lk_past (by decide +kernel)).trans ((lk_past (by decide +kernel)).trans lk_here)
theorem heldF_stamp : (heldF h).lookup ("stamp" : Str) = none := (lk_past (by decide +kernel)).trans ((lk_past (by decide +kernel)).trans ((lk_past (by decide +kernel)).trans rfl))
theorem heldF_isNothing : (heldF h).lookup ("is_nothing" : Str) = none := (lk_past (by decide +kernel)).trans ((lk_past (by decide +kernel)).trans ((lk_past (by decide +kernel)).trans rfl))
theorem heldF_new : putF "value" (.int h.value) (putF "client" (.int h.stamp.client) (putF "number" (.int h.stamp.number) [])) = heldF h := by
  simp only [put_nil, put_past n_number_client, put_past n_number_value, put_past n_client_value]
  rfl
theorem msgF_kind : (msgF k c kp op a).lookup ("kind" : Str) = some (.int k) := lk_here
theorem msgF_client : (msgF k c kp op a).lookup ("client" : Str) = some (.int c) := (lk_past (by decide +kernel)).trans lk_here
theorem msgF_keeper : (msgF k c kp op a).lookup ("keeper" : Str) = some (.int kp) := (lk_past (by decide +kernel)).trans ((lk_past (by decide +kernel)).trans lk_here)
theorem msgF_op : (msgF k c kp op a).lookup ("operation" : Str) = some (.int op) := (lk_past (by decide +kernel)).trans ((lk_past (by decide +kernel)).trans ((lk_past (by decide +kernel)).trans lk_here))
theorem msgF_held : (msgF k c kp op a).lookup ("held" : Str) = some (.ref a) := (lk_past (by decide +kernel)).trans ((lk_past (by decide +kernel)).trans ((lk_past (by decide +kernel)).trans ((lk_past (by decide +kernel)).trans lk_here)))
theorem msgF_isQ : (msgF k c kp op a).lookup ("is_question" : Str) = none := (lk_past (by decide +kernel)).trans ((lk_past (by decide +kernel)).trans ((lk_past (by decide +kernel)).trans ((lk_past (by decide +kernel)).trans ((lk_past (by decide +kernel)).trans rfl))))
theorem msgF_asBytes : (msgF k c kp op a).lookup ("as_bytes" : Str) = none := (lk_past (by decide +kernel)).trans ((lk_past (by decide +kernel)).trans ((lk_past (by decide +kernel)).trans ((lk_past (by decide +kernel)).trans ((lk_past (by decide +kernel)).trans rfl))))
theorem msgF_new : putF "held" (.ref a) (putF "operation" (.int op) (putF "keeper" (.int kp) (putF "client" (.int c) (putF "kind" (.int k) [])))) = msgF k c kp op a := by
  simp only [put_nil, put_past n_kind_client, put_past n_kind_keeper, put_past n_kind_operation, put_past n_kind_held, put_past n_client_keeper, put_past n_client_operation, put_past n_client_held, put_past n_keeper_operation, put_past n_keeper_held, put_past n_operation_held]
  rfl
end
/-- the lists of attributes that are made one by one are short -/
theorem put_short {f : Str} {v : V} {fs : List (Str × V)} {n : Nat} (h : fs.length ≤ n) : (putF f v fs).length ≤ n + 1 := Nat.le_trans (length_putF f v fs) (Nat.succ_le_succ h)
theorem nil_short : ([] : List (Str × V)).length ≤ 0 := Nat.le_refl _
theorem short_lt {fs : List (Str × V)} {n : Nat} (h : fs.length ≤ n) (hn : n < 1000) : fs.length < 1000 := Nat.lt_of_le_of_lt h hn
/-- a new object leaves what was -/
theorem Same.add {H : Hp} {a : Addr} {o : HO} (h : H a = none) : Same H (upd H a o) := fun b u e => by
  rw [upd_ne (ne_of_none e h)]
  exact e
section
variable {P : Program} {w : World} {K : PySem.W.Frag} {mg : Str → Option Value} {base : Heap} {CH CM CC CK CA q1 q2 q3 q4 : Addr}
/-! ### what is held -/
def spHeldInit (CH : Addr) : Sp := fun vs H Q _ => ∃ (p dx : Addr) (h : Km356.Held), vs = [.ref p, .int h.stamp.number, .int h.stamp.client, .int h.value] ∧ H p = some (.ins CH dx []) ∧
  ∀ H' : Hp, H' p = some (.ins CH dx (heldF h)) → (∀ b, b ≠ p → H' b = H b) → Q .non H'
theorem scHeldInit : FnScope ["self", "number", "client", "value"] ["self", "number", "client", "value"] (defScope sHeldInit) := ⟨rfl, rfl, rfl, by decide +kernel, rfl, by decide +kernel, by decide +kernel⟩
theorem ok_heldInit (D : InitAt K CH "Held.__init__" sHeldInit ["self", "number", "client", "value"]) (T : Txt K mg CH CM CC CK CA q1 q2 q3 q4) : InitOk P w K mg base 1 CH ["self", "number", "client", "value"] (spHeldInit CH) := by
  refine D.ok fun f fd F => F.ok scHeldInit (fun vs H Q E h => ?_) (fun cdv A outer s H vs Q E hr h => ?_)
  · obtain ⟨p, dx, h, rfl, _⟩ := h
    rfl
  · obtain ⟨p, dx, h, rfl, hp, k⟩ := h
    refine ⟨_, pss_cons (ps_fld (pv 0) (pv 1) rfl) (pss_cons (ps_fld (pv 0) (pv 2) rfl) (pss_one (ps_fld (pv 0) (pv 3) rfl))), ?_⟩
    refine ⟨_, rfl, _, rfl, p, CH, dx, _, rfl, hp, T.lH, T.hNumber, short_lt nil_short (by decide), ?_⟩
    refine ⟨_, rfl, _, rfl, p, CH, dx, _, rfl, upd_same, T.lH, T.hClient, short_lt (put_short nil_short) (by decide), ?_⟩
    refine ⟨_, rfl, _, rfl, p, CH, dx, _, rfl, upd_same, T.lH, T.hValue, short_lt (put_short (put_short nil_short)) (by decide), ?_⟩
    refine k _ (upd_same.trans (by rw [heldF_new])) fun b hb => ?_
    rw [upd_ne hb, upd_ne hb, upd_ne hb]
def spStamp (CH : Addr) : Sp := fun vs H Q _ => ∃ (a : Addr) (h : Km356.Held), vs = [.ref a] ∧ HeldAt CH H a h ∧ ∀ t, H t = none → Q (.ref t) (upd H t (.tup (([(h.stamp.number : Int), (h.stamp.client : Int)] : List Int).map V.int)))
theorem scStamp : FnScope ["self"] ["self"] (defScope sStamp) := ⟨rfl, rfl, rfl, by decide +kernel, rfl, by decide +kernel, by decide +kernel⟩
theorem ok_stamp (D : MethAt K CH "stamp" "Held.stamp" sStamp ["self"]) (T : Txt K mg CH CM CC CK CA q1 q2 q3 q4) : MethOk P w K mg base 1 CH "stamp" ["self"] (spStamp CH) := by
  refine D.ok fun f fd F => F.ok scStamp (fun vs H Q E h => ?_) (fun cdv A outer s H vs Q E hr h => ?_)
  · obtain ⟨a, h, rfl, _⟩ := h
    rfl
  · obtain ⟨a, h, rfl, ⟨dx, ha⟩, k⟩ := h
    refine ⟨_, pss_one (ps_ret (pe_tup (pa_cons (pe_fld (pv 0) rfl) (pa_cons (pe_fld (pv 0) rfl) pa_nil)))), ?_⟩
    refine ⟨_, rfl, a, CH, dx, _, _, rfl, ha, T.lH, T.hNumber, heldF_number h, _, rfl, a, CH, dx, _, _, rfl, ha, T.lH, T.hClient, heldF_client h, (by show 2 ≤ sizeLine; decide), fun t ht => ?_⟩
    exact k t ht
def spIsNothing (CH : Addr) : Sp := fun vs H Q _ => ∃ (a : Addr) (h : Km356.Held), vs = [.ref a] ∧ HeldAt CH H a h ∧ Q (.bl (isNo h)) H
theorem int_eq_nat (a b : Nat) : decide (V.int (a : Int) = V.int (b : Int)) = decide (a = b) := by
  rw [decide_eq_decide]
  constructor
  · intro h
    have q : (a : Int) = (b : Int) := V.int.inj h
    omega
  · intro h
    rw [h]
theorem int_eq_dec {a b : Int} : decide (V.int a = V.int b) = decide (a = b) := by
  rw [decide_eq_decide]
  exact ⟨fun h => V.int.inj h, fun h => by rw [h]⟩
theorem scIsNothing : FnScope ["self"] ["self"] (defScope sIsNothing) := ⟨rfl, rfl, rfl, by decide +kernel, rfl, by decide +kernel, by decide +kernel⟩
theorem if_dec {c : Bool} {A B : Prop} (h1 : c = true → A) (h2 : c = false → B) : if c = true then A else B := by
  cases c
  · exact iteF (h2 rfl)
  · exact iteT (h1 rfl)
theorem ok_isNothing (D : MethAt K CH "is_nothing" "Held.is_nothing" sIsNothing ["self"]) (T : Txt K mg CH CM CC CK CA q1 q2 q3 q4) : MethOk P w K mg base 1 CH "is_nothing" ["self"] (spIsNothing CH) := by
  refine D.ok fun f fd F => F.ok scIsNothing (fun vs H Q E h => ?_) (fun cdv A outer s H vs Q E hr h => ?_)
  · obtain ⟨a, h, rfl, _⟩ := h
    rfl
  · obtain ⟨a, h, rfl, ⟨dx, ha⟩, k⟩ := h
    have e1 : decide (V.int (h.stamp.number : Int) = V.int 0) = decide (h.stamp.number = 0) := int_eq_nat _ 0
    have e2 : decide (V.int (h.stamp.client : Int) = V.int 0) = decide (h.stamp.client = 0) := int_eq_nat _ 0
    have e3 : decide (V.int (h.value : Int) = V.int 0) = decide (h.value = 0) := int_eq_nat _ 0
    unfold isNo at k
    rw [← e1, ← e2, ← e3] at k
    refine ⟨_, pss_one (ps_ret (pe_and (pe_cmpR op_eq (pe_fld (pv 0) rfl) pe_int (nomark _)) (pe_and (pe_cmpR op_eq (pe_fld (pv 0) rfl) pe_int (nomark _)) (pe_one (pe_cmpR op_eq (pe_fld (pv 0) rfl) pe_int (nomark _)))))), ?_⟩
    refine ⟨_, rfl, a, CH, dx, _, _, rfl, ha, T.lH, T.hNumber, heldF_number h, rfl, _, rfl, if_dec (fun q1 => ?_) (fun q1 => ?_)⟩
    · rw [q1, Bool.true_and] at k
      refine ⟨_, rfl, a, CH, dx, _, _, rfl, ha, T.lH, T.hClient, heldF_client h, rfl, _, rfl, if_dec (fun q2 => ?_) (fun q2 => ?_)⟩
      · rw [q2, Bool.true_and] at k
        exact ⟨_, rfl, a, CH, dx, _, _, rfl, ha, T.lH, T.hValue, heldF_value h, rfl, k⟩
      · rw [q2, Bool.false_and] at k
        exact k
    · rw [q1, Bool.false_and] at k
      exact k
end
end MC
namespace MC
open PySem PySem.Spec PyProof.Rows L2
/-! ### readings that leave the heap as it is -/
def Gives (t : TE) (σ : L2.St) (H : Hp) (v : V) : Prop := ∀ Q : VK, Q v H → t σ H Q
def Tells (t : TT) (σ : L2.St) (H : Hp) (b : Bool) : Prop := ∀ Q : Bool → Hp → Prop, Q b H → t σ H Q
def GivesA (t : TA) (σ : L2.St) (H : Hp) (vs : List V) : Prop := ∀ Q : List V → Hp → Prop, Q vs H → t σ H Q
section
variable {K : PySem.W.Frag} {σ : L2.St} {H : Hp} {ta tb tc : TE} {tA tB' : TT} {x y v : V} {a b : Bool} {t : TA} {vs : List V}
theorem gVar {i : Nat} (h : σ[i]? = some (some v)) : Gives (tVar i) σ H v := fun _ q => ⟨v, h, q⟩
theorem gC : Gives (tC v) σ H v := fun _ q => q
theorem gFld {p C dx : Addr} {fs : List (Str × V)} {f : Str} (h : Gives ta σ H (.ref p)) (e : H p = some (.ins C dx fs)) (c : Cls K C) (n : NoAttr K C f) (l : fs.lookup f = some v) : Gives (tFld K ta f) σ H v :=
  fun _ q => h _ ⟨p, C, dx, fs, v, rfl, e, c, n, l, q⟩
theorem gOp0 {i j : Int} {g : Int → Int → V} (h1 : Gives ta σ H (.int i)) (h2 : Gives tb σ H (.int j)) : Gives (tOp (rI0 g) ta tb) σ H (g i j) := fun _ q => h1 _ (h2 _ ⟨i, j, rfl, rfl, q⟩)
theorem gOpC {i j : Int} {C : Int → Int → Prop} {g : Int → Int → V} (h1 : Gives ta σ H (.int i)) (h2 : Gives tb σ H (.int j)) (hc : C i j) : Gives (tOp (rI C g) ta tb) σ H (g i j) := fun _ q => h1 _ (h2 _ ⟨i, j, rfl, rfl, hc, q⟩)
theorem gEq (h1 : Gives ta σ H x) (h2 : Gives tb σ H y) (s : scal x y = true) : Gives (tOp rEq ta tb) σ H (.bl (decide (x = y))) := fun _ q => h1 _ (h2 _ ⟨s, q⟩)
theorem gNe (h1 : Gives ta σ H x) (h2 : Gives tb σ H y) (s : scal x y = true) : Gives (tOp rNe ta tb) σ H (.bl (!decide (x = y))) := fun _ q => h1 _ (h2 _ ⟨s, q⟩)
theorem gIn {neg : Bool} {p : Addr} {xs : List V} (h1 : Gives ta σ H x) (h2 : Gives tb σ H (.ref p)) (s : SqL K H p xs ∨ SqT K H p xs) (f1 : flatV x = true) (f2 : xs.all flatV = true) : Gives (tOp (rIn K neg) ta tb) σ H (.bl (if neg then !inV x xs else inV x xs)) :=
  fun _ q => h1 _ (h2 _ ⟨p, xs, rfl, s, f1, f2, q⟩)
theorem gIxL {p : Addr} {xs : List V} {i : Int} (h1 : Gives ta σ H (.ref p)) (h2 : Gives tb σ H (.int i)) (s : SqL K H p xs) (e : atI xs i = some v) : Gives (tOp (rIxL K) ta tb) σ H v := fun _ q => h1 _ (h2 _ ⟨p, xs, i, v, rfl, rfl, s, e, q⟩)
theorem gIxT {p : Addr} {xs : List V} {i : Int} (h1 : Gives ta σ H (.ref p)) (h2 : Gives tb σ H (.int i)) (s : SqT K H p xs) (e : atI xs i = some v) : Gives (tOp (rIxT K) ta tb) σ H v := fun _ q => h1 _ (h2 _ ⟨p, xs, i, v, rfl, rfl, s, e, q⟩)
theorem gAndV (h1 : Gives ta σ H (.bl a)) (h2 : Gives tb σ H (.bl b)) : Gives (tAndV ta tb) σ H (.bl (a && b)) := fun Q q => h1 _ ⟨a, rfl, by
  cases a
  · exact iteF q
  · exact iteT (h2 _ q)⟩
theorem gOrV (h1 : Gives ta σ H (.bl a)) (h2 : Gives tb σ H (.bl b)) : Gives (tOrV ta tb) σ H (.bl (a || b)) := fun Q q => h1 _ ⟨a, rfl, by
  cases a
  · exact iteF (h2 _ q)
  · exact iteT q⟩
theorem tTest_of (h : Gives ta σ H (.bl a)) : Tells (tTest ta) σ H a := fun _ q => h _ ⟨a, rfl, q⟩
theorem tB_of (h : Gives ta σ H (.bl a)) : Tells (tB ta) σ H a := fun _ q => h _ ⟨a, rfl, q⟩
theorem tOr_of (h1 : Tells tA σ H a) (h2 : Tells tB' σ H b) : Tells (tOr tA tB') σ H (a || b) := fun Q q => h1 _ (by
  cases a
  · exact iteF (h2 _ q)
  · exact iteT q)
theorem tAnd_of (h1 : Tells tA σ H a) (h2 : Tells tB' σ H b) : Tells (tAnd tA tB') σ H (a && b) := fun Q q => h1 _ (by
  cases a
  · exact iteF q
  · exact iteT (h2 _ q))
theorem tNot_of (h1 : Tells tA σ H a) : Tells (tNot tA) σ H (!a) := fun _ q => h1 _ q
theorem gChain {i j k : Int} {g g' : Int → Int → Bool} (h1 : Gives ta σ H (.int i)) (h2 : Gives tb σ H (.int j)) (h3 : Gives tc σ H (.int k)) : Gives (tChain (rI0 fun i j => .bl (g i j)) (rI0 fun i j => .bl (g' i j)) ta tb tc) σ H (.bl (g i j && g' j k)) :=
  fun Q q => h1 _ (h2 _ ⟨i, j, rfl, rfl, g i j, rfl, by
    revert q
    cases g i j
    · exact fun q => iteF q
    · exact fun q => iteT (h3 _ ⟨j, k, rfl, rfl, q⟩)⟩)
theorem aNil : GivesA tNil σ H [] := fun _ q => q
theorem aCons (h1 : Gives ta σ H x) (h2 : GivesA t σ H vs) : GivesA (tCons ta t) σ H (x :: vs) := fun _ q => h1 _ (h2 _ q)
theorem gMeth {C p dx : Addr} {m : Str} {sp : Sp} {fs : List (Str × V)} (h : Gives ta σ H (.ref p)) (e : H p = some (.ins C dx fs)) (l : fs.lookup m = none) (ha : GivesA t σ H vs) (hs : ∀ Q : VK, Q v H → sp (.ref p :: (vs ++ [])) H Q E0) : Gives (tMeth C m sp [] E0 ta t) σ H v :=
  fun Q q => h _ ⟨p, dx, fs, rfl, e, l, ha _ (hs Q q)⟩
theorem gCall {sp : Sp} (ha : GivesA t σ H vs) (hs : ∀ Q : VK, Q v H → sp (vs ++ []) H Q E0) : Gives (tCall sp [] E0 t) σ H v := fun Q q => ha _ (hs Q q)
theorem ifP {D : Ends} {t u : TS} (h : Tells tA σ H a) (h1 : a = true → t D σ H) (h2 : a = false → u D σ H) : tIfS tA t u D σ H := h _ (if_dec h1 h2)
theorem retP {D : Ends} (h : Gives ta σ H v) (q : D.rt v H) : tRet ta D σ H := h _ q
end
/-- behind an if without an else -/
theorem nxt {f : L2.St → Hp → Prop} {rt : VK} {bk ct : L2.St → Hp → Prop} {σ : L2.St} {H : Hp} (h : f σ H) : tNext ⟨f, rt, bk, ct⟩ σ H := h
theorem le_nat (a b : Nat) : decide ((a : Int) ≤ (b : Int)) = decide (a ≤ b) := by
  rw [decide_eq_decide]
  omega
theorem lt_nat (a b : Nat) : decide ((a : Int) < (b : Int)) = decide (a < b) := by
  rw [decide_eq_decide]
  omega
section
variable {P : Program} {w : World} {K : PySem.W.Frag} {mg : Str → Option Value} {base : Heap} {CH CM CC CK CA q1 q2 q3 q4 : Addr}
/-! ### messages -/
def spMsgInit (CM : Addr) : Sp := fun vs H Q _ => ∃ (p dx hd : Addr) (k c kp op : Int), vs = [.ref p, .int k, .int c, .int kp, .int op, .ref hd] ∧ H p = some (.ins CM dx []) ∧
  ∀ H' : Hp, H' p = some (.ins CM dx (msgF k c kp op hd)) → (∀ b, b ≠ p → H' b = H b) → Q .non H'
theorem scMsgInit : FnScope ["self", "kind", "client", "keeper", "operation", "held"] ["self", "kind", "client", "keeper", "operation", "held"] (defScope sMsgInit) := ⟨rfl, rfl, rfl, by decide +kernel, rfl, by decide +kernel, by decide +kernel⟩
theorem ok_msgInit (D : InitAt K CM "Message.__init__" sMsgInit ["self", "kind", "client", "keeper", "operation", "held"]) (T : Txt K mg CH CM CC CK CA q1 q2 q3 q4) : InitOk P w K mg base 1 CM ["self", "kind", "client", "keeper", "operation", "held"] (spMsgInit CM) := by
  refine D.ok fun f fd F => F.ok scMsgInit (fun vs H Q E h => ?_) (fun cdv A outer s H vs Q E hr h => ?_)
  · obtain ⟨p, dx, hd, k, c, kp, op, rfl, _⟩ := h
    rfl
  · obtain ⟨p, dx, hd, k, c, kp, op, rfl, hp, go⟩ := h
    refine ⟨_, pss_cons (ps_fld (pv 0) (pv 1) rfl) (pss_cons (ps_fld (pv 0) (pv 2) rfl) (pss_cons (ps_fld (pv 0) (pv 3) rfl) (pss_cons (ps_fld (pv 0) (pv 4) rfl) (pss_one (ps_fld (pv 0) (pv 5) rfl))))), ?_⟩
    refine ⟨_, rfl, _, rfl, p, CM, dx, _, rfl, hp, T.lM, T.mKind, short_lt nil_short (by decide), ?_⟩
    refine ⟨_, rfl, _, rfl, p, CM, dx, _, rfl, upd_same, T.lM, T.mClient, short_lt (put_short nil_short) (by decide), ?_⟩
    refine ⟨_, rfl, _, rfl, p, CM, dx, _, rfl, upd_same, T.lM, T.mKeeper, short_lt (put_short (put_short nil_short)) (by decide), ?_⟩
    refine ⟨_, rfl, _, rfl, p, CM, dx, _, rfl, upd_same, T.lM, T.mOp, short_lt (put_short (put_short (put_short nil_short))) (by decide), ?_⟩
    refine ⟨_, rfl, _, rfl, p, CM, dx, _, rfl, upd_same, T.lM, T.mHeld, short_lt (put_short (put_short (put_short (put_short nil_short)))) (by decide), ?_⟩
    refine go _ (upd_same.trans (by rw [msgF_new])) fun b hb => ?_
    rw [upd_ne hb, upd_ne hb, upd_ne hb, upd_ne hb, upd_ne hb]
def spIsQ (CM CH : Addr) : Sp := fun vs H Q _ => ∃ (a : Addr) (m : Km356.Message), vs = [.ref a] ∧ MsgAt CM CH H a m ∧ Q (.bl (isQ m)) H
theorem scIsQ : FnScope ["self"] ["self"] (defScope sIsQ) := ⟨rfl, rfl, rfl, by decide +kernel, rfl, by decide +kernel, by decide +kernel⟩
theorem in_two (n : Nat) (a b : Nat) : inV (.int n) (([(a : Int), (b : Int)] : List Int).map V.int) = (decide (n = a) || decide (n = b)) := by
  show ((eqV (.int (a : Int)) (.int (n : Int))) || ((eqV (.int (b : Int)) (.int (n : Int))) || false)) = _
  show (((a : Int) == (n : Int)) || (((b : Int) == (n : Int)) || false)) = _
  rw [Bool.eq_iff_iff]
  simp
  omega
theorem ok_isQ (D : MethAt K CM "is_question" "Message.is_question" sIsQ ["self"]) (T : Txt K mg CH CM CC CK CA q1 q2 q3 q4) : MethOk P w K mg base 1 CM "is_question" ["self"] (spIsQ CM CH) := by
  refine D.ok fun f fd F => F.ok scIsQ (fun vs H Q E h => ?_) (fun cdv A outer s H vs Q E hr h => ?_)
  · obtain ⟨a, m, rfl, _⟩ := h
    rfl
  · obtain ⟨a, m, rfl, ⟨dx, hd, ha, _⟩, k⟩ := h
    refine ⟨_, pss_one (ps_ret (pe_cmpR op_in_seq (pe_fld (pv 0) rfl) (pe_gt rfl T.gQ) (by rfl))), ?_⟩
    refine retP (gIn (gFld (gVar rfl) ha T.lM T.mKind (msgF_kind _ _ _ _ _)) gC (.inr (T.gQ.sq H)) rfl rfl) ?_
    have e : inV (V.int (m.kind : Int)) (([1, 3] : List Int).map V.int) = isQ m := in_two m.kind 1 3
    show Q (.bl (inV (V.int (m.kind : Int)) (([1, 3] : List Int).map V.int))) H
    rw [e]
    exact k
def spNothing (CH : Addr) : Sp := fun vs H Q _ => vs = [] ∧ ∀ (H' : Hp) (p : Addr), Same H H' → H p = none → HeldAt CH H' p Km356.nothing → Q (.ref p) H'
theorem scNothing : FnScope [] [] (defScope sNothing) := ⟨rfl, rfl, rfl, by decide +kernel, rfl, by decide +kernel, by decide +kernel⟩
/-- a new instance and its __init__, which changes it alone, leave what was -/
theorem made_same {H H' : Hp} {x dx C : Addr} (nx : H x = none) (nd : H dx = none) (k : ∀ b, b ≠ x → H' b = (upd (upd H dx (.own x)) x (.ins C dx [])) b) : Same H H' := fun b o e => by
  have h1 := ne_of_none e nx
  rw [k b h1, upd_ne h1, upd_ne (ne_of_none e nd)]
  exact e
theorem ok_nothing (D : DefAt K mg "nothing_held" sNothing []) (T : Txt K mg CH CM CC CK CA q1 q2 q3 q4) (GH : InitOk P w K mg base 1 CH ["self", "number", "client", "value"] (spHeldInit CH)) : DefOk P w K mg base 3 "nothing_held" [] (spNothing CH) := by
  refine D.ok fun f fd F => F.ok scNothing (fun vs H Q E h => ?_) (fun cdv A outer s H vs Q E hr h => ?_)
  · obtain ⟨rfl, _⟩ := h
    rfl
  · obtain ⟨rfl, k⟩ := h
    refine ⟨_, pss_one (ps_ret (pe_c GH hr rfl T.cH (pa_cons pe_int (pa_cons pe_int (pa_cons pe_int pa_nil))))), ?_⟩
    intro x dx nx nd ne
    exact ⟨x, dx, Km356.nothing, rfl, upd_same, fun H' e kp => ⟨rfl, k H' x (made_same nx nd kp) nx ⟨dx, e⟩⟩⟩
def spInRange (CM CH : Addr) : Sp := fun vs H Q _ => ∃ (a : Addr) (m : Km356.Message), vs = [.ref a] ∧ MsgAt CM CH H a m ∧ Q (.bl (inRange m)) H
theorem scInRange : FnScope ["message"] ["message"] (defScope sInRange) := ⟨rfl, rfl, rfl, by decide +kernel, rfl, by decide +kernel, by decide +kernel⟩
theorem ok_inRange (D : DefAt K mg "are_in_range" sInRange ["message"]) (T : Txt K mg CH CM CC CK CA q1 q2 q3 q4) : DefOk P w K mg base 1 "are_in_range" ["message"] (spInRange CM CH) := by
  refine D.ok fun f fd F => F.ok scInRange (fun vs H Q E h => ?_) (fun cdv A outer s H vs Q E hr h => ?_)
  · obtain ⟨a, m, rfl, _⟩ := h
    rfl
  · obtain ⟨a, m, rfl, ⟨dx, hd, ha, dh, hh⟩, k⟩ := h
    refine ⟨_, pss_cons (ps_if (PW.pt (pw_or (pt_not (pt_chain op_le op_le (pe_gi rfl T.gASK) (pe_fld (pv 0) rfl) (pe_gi rfl T.gIS))) (pw_or (pt_cmpR op_gt (pe_fld (pv 0) rfl) (pe_gi rfl T.gMK) (nomark _)) (pw_or1 (pt_cmpR op_eq (pe_fld (pv 0) rfl) pe_int (nomark _))))))
        (pss_one (ps_ret pe_bl)) pss_nil)
      (pss_one (ps_ret (pe_and (pe_cmpR op_le (pe_fld (pv 0) rfl) (pe_gi rfl T.gMC) (nomark _)) (pe_one (pe_cmpR op_le (pe_fld (pe_fld (pv 0) rfl) rfl) (pe_gi rfl T.gMC) (nomark _)))))), ?_⟩
    have e1 : decide ((1 : Int) ≤ (m.kind : Int)) = decide (1 ≤ m.kind) := le_nat 1 m.kind
    have e2 : decide ((m.kind : Int) ≤ 4) = decide (m.kind ≤ 4) := le_nat m.kind 4
    have e3 : decide ((14 : Int) < (m.keeper : Int)) = decide (14 < m.keeper) := lt_nat 14 m.keeper
    have e4 : decide (V.int (m.op : Int) = V.int 0) = decide (m.op = 0) := int_eq_nat m.op 0
    have e5 : decide ((m.client : Int) ≤ 15) = decide (m.client ≤ 15) := le_nat m.client 15
    have e6 : decide ((m.held.stamp.client : Int) ≤ 15) = decide (m.held.stamp.client ≤ 15) := le_nat m.held.stamp.client 15
    unfold inRange at k
    rw [← e1, ← e2, ← e3, ← e4, ← e5, ← e6] at k
    refine ifP (tOr_of (tNot_of (tTest_of (gChain gC (gFld (gVar rfl) ha T.lM T.mKind (msgF_kind _ _ _ _ _)) gC))) (tOr_of (tTest_of (gOp0 (gFld (gVar rfl) ha T.lM T.mKeeper (msgF_keeper _ _ _ _ _)) gC)) (tTest_of (gEq (gFld (gVar rfl) ha T.lM T.mOp (msgF_op _ _ _ _ _)) gC rfl)))) (fun q => ?_) (fun q => ?_)
    · rw [if_pos q] at k
      exact k
    · rw [q, if_neg Bool.false_ne_true] at k
      refine nxt ?_
      refine retP (gAndV (gOp0 (gFld (gVar rfl) ha T.lM T.mClient (msgF_client _ _ _ _ _)) gC) (gOp0 (gFld (gFld (gVar rfl) ha T.lM T.mHeld (msgF_held _ _ _ _ _)) hh T.lH T.hClient (heldF_client _)) gC)) ?_
      exact k
def spNoughts (CM CH : Addr) : Sp := fun vs H Q _ => ∃ (a : Addr) (m : Km356.Message), vs = [.ref a] ∧ MsgAt CM CH H a m ∧ Q (.bl (noughts m)) H
theorem scNoughts : FnScope ["message", "held"] ["message"] (defScope sNoughts) := ⟨rfl, rfl, rfl, by decide +kernel, rfl, by decide +kernel, by decide +kernel⟩
theorem ok_noughts (D : DefAt K mg "are_noughts_right" sNoughts ["message"]) (T : Txt K mg CH CM CC CK CA q1 q2 q3 q4) (GQ : MethOk P w K mg base 1 CM "is_question" ["self"] (spIsQ CM CH)) (GN : MethOk P w K mg base 1 CH "is_nothing" ["self"] (spIsNothing CH)) :
    DefOk P w K mg base 2 "are_noughts_right" ["message"] (spNoughts CM CH) := by
  refine D.ok fun f fd F => F.ok scNoughts (fun vs H Q E h => ?_) (fun cdv A outer s H vs Q E hr h => ?_)
  · obtain ⟨a, m, rfl, _⟩ := h
    rfl
  · obtain ⟨a, m, rfl, hm, k⟩ := h
    obtain ⟨dx, hd, ha, hh⟩ := id hm
    obtain ⟨dh, hH⟩ := id hh
    refine ⟨_, pss_cons (ps_set (i := 1) scNoughts.nd rfl (Or.inl rfl) (pe_fld (pv 0) rfl))
      (pss_cons (ps_if (PW.pt (pw_and (pt_val (pe_m0 (pv 0) T.lM GQ hr)) (pw_and1 (pt_cmpR op_ne (pe_fld (pv 0) rfl) pe_int (nomark _))))) (pss_one (ps_ret pe_bl)) pss_nil)
      (pss_cons (ps_if (PW.pt (pw_and (pt_cmpR op_in_seq (pe_fld (pv 0) rfl) (pe_gt rfl T.gWH) (by rfl)) (pw_and1 (pt_not (pt_val (pe_m0 (pv 1) T.lH GN hr)))))) (pss_one (ps_ret pe_bl)) pss_nil)
      (pss_one (ps_ret (pe_or (pe_cmpR op_gt (pe_fld (pv 1) rfl) pe_int (nomark _)) (pe_one (pe_m0 (pv 1) T.lH GN hr))))))), ?_⟩
    have e1 : decide (V.int (m.keeper : Int) = V.int 0) = decide (m.keeper = 0) := int_eq_nat m.keeper 0
    have e2 : inV (V.int (m.kind : Int)) (([1, 4] : List Int).map V.int) = (decide (m.kind = 1) || decide (m.kind = 4)) := in_two m.kind 1 4
    have e3 : decide ((0 : Int) < (m.held.stamp.number : Int)) = decide (0 < m.held.stamp.number) := lt_nat 0 m.held.stamp.number
    unfold noughts at k
    rw [← e1, ← e2, ← e3] at k
    refine gFld (gVar rfl) ha T.lM T.mHeld (msgF_held _ _ _ _ _) _ ?_
    refine ifP (tAnd_of (tB_of (gMeth (gVar rfl) ha (msgF_isQ _ _ _ _ _) aNil fun Q q => ⟨a, m, rfl, hm, q⟩)) (tTest_of (gNe (gFld (gVar rfl) ha T.lM T.mKeeper (msgF_keeper _ _ _ _ _)) gC rfl))) (fun q => ?_) (fun q => ?_)
    · rw [if_pos q] at k
      exact k
    · rw [q, if_neg Bool.false_ne_true] at k
      refine ifP (tAnd_of (tTest_of (gIn (gFld (gVar rfl) ha T.lM T.mKind (msgF_kind _ _ _ _ _)) gC (.inr (T.gWH.sq H)) rfl rfl)) (tNot_of (tB_of (gMeth (gVar rfl) hH (heldF_isNothing _) aNil fun Q q => ⟨hd, m.held, rfl, hh, q⟩)))) (fun q => ?_) (fun q => ?_)
      · have q' : (inV (V.int (m.kind : Int)) (([1, 4] : List Int).map V.int) && !isNo m.held) = true := q
        rw [if_pos q'] at k
        exact k
      · have q' : (inV (V.int (m.kind : Int)) (([1, 4] : List Int).map V.int) && !isNo m.held) = false := q
        rw [q', if_neg Bool.false_ne_true] at k
        refine nxt ?_
        refine retP (gOrV (b := isNo m.held) (gOp0 (gFld (gVar rfl) hH T.lH T.hNumber (heldF_number _)) gC) (gMeth (gVar rfl) hH (heldF_isNothing _) aNil fun Q q => ⟨hd, m.held, rfl, hh, q⟩)) ?_
        exact k
end
end MC
namespace MC
open PySem PySem.Spec PyProof.Rows L2
section
variable {P : Program} {w : World} {K : PySem.W.Frag} {mg : Str → Option Value} {base : Heap} {CH CM CC CK CA q1 q2 q3 q4 : Addr}
theorem iv_head (k c kp hc : Nat) : ([V.int (k : Int), V.int (c : Int), V.int (kp : Int), V.int (hc : Int)] : List V) = iv [k, c, kp, hc] := rfl
theorem headOf_assoc (m : Km356.Message) : (([m.kind, m.client, m.keeper, m.held.stamp.client] ++ Km356.le 4 m.op) ++ Km356.le 4 m.held.stamp.number) ++ Km356.le 8 m.held.value = headOf m := by
  rw [List.append_assoc, List.append_assoc]
  rfl
theorem headOf_length (m : Km356.Message) : (headOf m).length = 20 := by
  unfold headOf
  simp [le_length]
theorem bytes_length (m : Km356.Message) : m.bytes.length = 24 := by
  rw [bytes_head, List.length_append, headOf_length, le_length]
def spAsBytes (CM CH : Addr) : Sp := fun vs H Q _ => ∃ (a : Addr) (m : Km356.Message), vs = [.ref a] ∧ MsgAt CM CH H a m ∧ ∀ (H' : Hp) (p : Addr), Same H H' → H' p = some (.lst (iv m.bytes)) → Q (.ref p) H'
theorem scAsBytes : FnScope ["self", "found"] ["self"] (defScope sAsBytes) := ⟨rfl, rfl, rfl, by decide +kernel, rfl, by decide +kernel, by decide +kernel⟩
theorem ok_asBytes (D : MethAt K CM "as_bytes" "Message.as_bytes" sAsBytes ["self"]) (T : Txt K mg CH CM CC CK CA q1 q2 q3 q4) (GN : DefOk P w K mg base 1 "number_bytes" ["number", "many"] spNumBytes) (GC : DefOk P w K mg base 2 "check_of" ["some"] (spCheck K)) :
    MethOk P w K mg base 3 CM "as_bytes" ["self"] (spAsBytes CM CH) := by
  refine D.ok fun f fd F => F.ok scAsBytes (fun vs H Q E h => ?_) (fun cdv A outer s H vs Q E hr h => ?_)
  · obtain ⟨a, m, rfl, _⟩ := h
    rfl
  · obtain ⟨a, m, rfl, ⟨dx, hd, ha, dh, hh⟩, k⟩ := h
    have hr1 : Room 1 _ := hr.mono (by decide)
    refine ⟨_, pss_cons (ps_set (i := 1) scAsBytes.nd rfl (Or.inl rfl) (pe_lst (pa_cons (pe_fld (pv 0) rfl) (pa_cons (pe_fld (pv 0) rfl) (pa_cons (pe_fld (pv 0) rfl) (pa_cons (pe_fld (pe_fld (pv 0) rfl) rfl) pa_nil))))))
      (pss_cons (ps_set (i := 1) scAsBytes.nd rfl (Or.inl rfl) (pe_op op_cat (pe_op op_cat (pv 1) (pe_f GN hr1 rfl (pa_cons (pe_fld (pv 0) rfl) (pa_cons pe_int pa_nil)))) (pe_f GN hr1 rfl (pa_cons (pe_fld (pe_fld (pv 0) rfl) rfl) (pa_cons pe_int pa_nil)))))
      (pss_cons (ps_set (i := 1) scAsBytes.nd rfl (Or.inl rfl) (pe_op op_cat (pv 1) (pe_f GN hr1 rfl (pa_cons (pe_fld (pe_fld (pv 0) rfl) rfl) (pa_cons pe_int pa_nil)))))
      (pss_one (ps_ret (pe_op op_cat (pv 1) (pe_f GN hr1 rfl (pa_cons (pe_f GC hr rfl (pa_cons (pv 1) pa_nil)) (pa_cons (pe_gi rfl T.gCB) pa_nil)))))))), ?_⟩
    -- found = [..]
    refine ⟨_, rfl, a, CM, dx, _, _, rfl, ha, T.lM, T.mKind, msgF_kind _ _ _ _ _, _, rfl, a, CM, dx, _, _, rfl, ha, T.lM, T.mClient, msgF_client _ _ _ _ _, _, rfl, a, CM, dx, _, _, rfl, ha, T.lM, T.mKeeper, msgF_keeper _ _ _ _ _, _, rfl, a, CM, dx, _, _, rfl, ha, T.lM, T.mHeld, msgF_held _ _ _ _ _, hd, CH, dh, _, _, rfl, hh, T.lH, T.hClient, heldF_client _, (by show 4 ≤ sizeLine; decide), fun p0 n0 => ?_⟩
    have s0 : Same H (upd H p0 (.lst (iv [m.kind, m.client, m.keeper, m.held.stamp.client]))) := Same.add n0
    -- found + number_bytes(operation) + number_bytes(number)
    refine ⟨_, rfl, _, rfl, a, CM, dx, _, _, rfl, (s0 _ _ ha), T.lM, T.mOp, msgF_op _ _ _ _ _, m.op, 4, rfl, by decide, fun H1 p1 s1 n1 e1 => ?_⟩
    refine ⟨p0, p1, _, _, rfl, rfl, s1 _ _ upd_same, e1, (by rw [iv_length, le_length]; show 4 + 4 ≤ sizeLine; decide), fun p2 n2 => ?_⟩
    rw [iv_head, ← iv_append]
    have s2 : Same H (upd H1 p2 (.lst (iv ([m.kind, m.client, m.keeper, m.held.stamp.client] ++ Km356.le 4 m.op)))) := (s0.trans s1).trans (Same.add n2)
    refine ⟨_, rfl, a, CM, dx, _, _, rfl, (s2 _ _ ha), T.lM, T.mHeld, msgF_held _ _ _ _ _, hd, CH, dh, _, _, rfl, (s2 _ _ hh), T.lH, T.hNumber, heldF_number _, m.held.stamp.number, 4, rfl, by decide, fun H3 p3 s3 n3 e3 => ?_⟩
    refine ⟨p2, p3, _, _, rfl, rfl, s3 _ _ upd_same, e3, (by rw [iv_length, iv_length, List.length_append, le_length, le_length]; show 8 + 4 ≤ sizeLine; decide), fun p4 n4 => ?_⟩
    rw [← iv_append]
    have s4 := (s2.trans s3).trans (Same.add (o := .lst (iv (([m.kind, m.client, m.keeper, m.held.stamp.client] ++ Km356.le 4 m.op) ++ Km356.le 4 m.held.stamp.number))) n4)
    -- found + number_bytes(value)
    refine ⟨_, rfl, _, rfl, a, CM, dx, _, _, rfl, (s4 _ _ ha), T.lM, T.mHeld, msgF_held _ _ _ _ _, hd, CH, dh, _, _, rfl, (s4 _ _ hh), T.lH, T.hValue, heldF_value _, m.held.value, 8, rfl, by decide, fun H5 p5 s5 n5 e5 => ?_⟩
    refine ⟨p4, p5, _, _, rfl, rfl, s5 _ _ upd_same, e5, (by rw [iv_length, iv_length, List.length_append, List.length_append, le_length, le_length, le_length]; show 12 + 8 ≤ sizeLine; decide), fun p6 n6 => ?_⟩
    rw [← iv_append, headOf_assoc]
    have s6 := (s4.trans s5).trans (Same.add (o := .lst (iv (headOf m))) n6)
    -- found + number_bytes(check_of(found))
    refine ⟨_, rfl, ?_⟩
    refine ⟨_, rfl, p6, headOf m, rfl, SqL.of upd_same, ?_⟩
    refine ⟨Km356.crc (headOf m), 4, rfl, by decide, fun H7 p7 s7 n7 e7 => ?_⟩
    refine ⟨p6, p7, _, _, rfl, rfl, s7 _ _ upd_same, e7, (by rw [iv_length, iv_length, headOf_length, le_length]; show 20 + 4 ≤ sizeLine; decide), fun p8 n8 => ?_⟩
    refine k _ p8 ((s6.trans s7).trans (Same.add n8)) ?_
    rw [bytes_head, iv_append]
    exact upd_same
end
end MC
namespace MC
open PySem PySem.Spec PyProof.Rows L2
/-! ### slices -/
theorem cut_both (xs : List V) {a b : Nat} (hb : b ≤ xs.length) (ha : a ≤ xs.length) : cutV xs (some (a : Int)) (some (b : Int)) = (xs.drop a).take (b - a) := by
  unfold cutV
  rw [HT.sIx_nat, HT.sIx_nat, Nat.min_eq_left ha, Nat.min_eq_left hb]
theorem cut_from (xs : List V) {a : Nat} (ha : a ≤ xs.length) : cutV xs (some (a : Int)) none = xs.drop a := by
  unfold cutV
  rw [HT.sIx_nat, HT.sIx_none, Nat.min_eq_left ha]
  apply List.take_of_length_le
  rw [List.length_drop]
  exact Nat.le_refl _
theorem cut_to (xs : List V) {b : Nat} (hb : b ≤ xs.length) : cutV xs none (some (b : Int)) = xs.take b := by
  unfold cutV
  rw [HT.sIx_nat, HT.sIx_none, Nat.min_eq_left hb]
  rfl
theorem iv_cut (l : List Nat) {a b : Nat} (hb : b ≤ l.length) (ha : a ≤ l.length) : cutV (iv l) (some (a : Int)) (some (b : Int)) = iv ((l.drop a).take (b - a)) := by
  rw [cut_both _ (by rw [iv_length]; exact hb) (by rw [iv_length]; exact ha)]
  simp only [iv, List.map_drop, List.map_take]
theorem iv_from (l : List Nat) {a : Nat} (ha : a ≤ l.length) : cutV (iv l) (some (a : Int)) none = iv (l.drop a) := by
  rw [cut_from _ (by rw [iv_length]; exact ha)]
  simp only [iv, List.map_drop]
theorem iv_to (l : List Nat) {b : Nat} (hb : b ≤ l.length) : cutV (iv l) none (some (b : Int)) = iv (l.take b) := by
  rw [cut_to _ (by rw [iv_length]; exact hb)]
  simp only [iv, List.map_take]
theorem at_num {l : List Nat} {i : Nat} (h : i < l.length) : atI (iv l) (i : Int) = some (.int (Km356.num l i 1 : Nat)) := by
  have e : Km356.num l i 1 = l[i] := by
    rw [num_val, List.drop_eq_getElem_cons h, List.take_succ_cons, List.take_zero, val_cons, val_nil]
    omega
  rw [e]
  exact atI_nat (iv_at (List.getElem?_eq_getElem h))
section
variable {P : Program} {w : World} {K : PySem.W.Frag} {mg : Str → Option Value} {base : Heap} {CH CM CC CK CA q1 q2 q3 q4 : Addr}
def spMsgOf (K : PySem.W.Frag) (CM CH : Addr) : Sp := fun vs H Q _ => ∃ (a : Addr) (l : List Nat), vs = [.ref a] ∧ SqL K H a (iv l) ∧ l.length = 24 ∧ (∀ b ∈ l, b < 256) ∧
  (Km356.messageOf l = none → ∀ H' : Hp, Same H H' → Q .non H') ∧ (∀ m, Km356.messageOf l = some m → m = decoded l → ∀ (H' : Hp) (p : Addr), Same H H' → MsgAt CM CH H' p m → Q (.ref p) H')
theorem scMsgOf : FnScope ["some", "held", "found"] ["some"] (defScope sMsgOf) := ⟨rfl, rfl, rfl, by decide +kernel, rfl, by decide +kernel, by decide +kernel⟩
theorem ok_msgOf (D : DefAt K mg "message_of" sMsgOf ["some"]) (T : Txt K mg CH CM CC CK CA q1 q2 q3 q4) (GB : DefOk P w K mg base 1 "bytes_number" ["some"] (spBytesNum K)) (GC : DefOk P w K mg base 2 "check_of" ["some"] (spCheck K))
    (GH : InitOk P w K mg base 1 CH ["self", "number", "client", "value"] (spHeldInit CH)) (GM : InitOk P w K mg base 1 CM ["self", "kind", "client", "keeper", "operation", "held"] (spMsgInit CM))
    (GR : DefOk P w K mg base 1 "are_in_range" ["message"] (spInRange CM CH)) (GN : DefOk P w K mg base 2 "are_noughts_right" ["message"] (spNoughts CM CH)) :
    DefOk P w K mg base 3 "message_of" ["some"] (spMsgOf K CM CH) := by
  refine D.ok fun f fd F => F.ok scMsgOf (fun vs H Q E h => ?_) (fun cdv A outer s H vs Q E hr h => ?_)
  · obtain ⟨a, l, rfl, _⟩ := h
    rfl
  · obtain ⟨a, l, rfl, hS, h24, hb, kN, kS⟩ := h
    have hr1 : Room 1 _ := hr.mono (by decide)
    rw [messageOf_eq h24 hb] at kN kS
    refine ⟨_, pss_cons (ps_if (pt_cmpR op_ne (pe_f GB hr1 rfl (pa_cons (pe_slice sl_list (pv 0) (po_some (pe_gi rfl T.gLONG)) po_none) pa_nil)) (pe_f GC hr rfl (pa_cons (pe_slice sl_list (pv 0) po_none (po_some (pe_gi rfl T.gLONG))) pa_nil)) (nomark _)) (pss_one (ps_ret pe_non)) pss_nil)
      (pss_cons (ps_set (i := 1) scMsgOf.nd rfl (Or.inl rfl) (pe_c GH hr rfl T.cH (pa_cons (pe_f GB hr1 rfl (pa_cons (pe_slice sl_list (pv 0) (po_some pe_int) (po_some pe_int)) pa_nil)) (pa_cons (pe_ix ix_list (pv 0) pe_int (fun _ _ => rfl)) (pa_cons (pe_f GB hr1 rfl (pa_cons (pe_slice sl_list (pv 0) (po_some pe_int) (po_some (pe_gi rfl T.gLONG))) pa_nil)) pa_nil)))))
      (pss_cons (ps_set (i := 2) scMsgOf.nd rfl (Or.inl rfl) (pe_c GM hr rfl T.cM (pa_cons (pe_ix ix_list (pv 0) pe_int (fun _ _ => rfl)) (pa_cons (pe_ix ix_list (pv 0) pe_int (fun _ _ => rfl)) (pa_cons (pe_ix ix_list (pv 0) pe_int (fun _ _ => rfl)) (pa_cons (pe_f GB hr1 rfl (pa_cons (pe_slice sl_list (pv 0) (po_some pe_int) (po_some pe_int)) pa_nil)) (pa_cons (pv 1) pa_nil)))))))
      (pss_cons (ps_if (PW.pt (pw_or (pt_not (pt_val (pe_f GR hr1 rfl (pa_cons (pv 2) pa_nil)))) (pw_or1 (pt_not (pt_val (pe_f GN hr rfl (pa_cons (pv 2) pa_nil))))))) (pss_one (ps_ret pe_non)) pss_nil)
      (pss_one (ps_ret (pv 2)))))), ?_⟩
    have i20 : cutV (iv l) (some (20 : Int)) none = iv (l.drop 20) := iv_from l (a := 20) (by omega)
    have j20 : cutV (iv l) none (some (20 : Int)) = iv (l.take 20) := iv_to l (b := 20) (by omega)
    have i8 : cutV (iv l) (some (8 : Int)) (some (12 : Int)) = iv ((l.drop 8).take 4) := iv_cut l (a := 8) (b := 12) (by omega) (by omega)
    have i12 : cutV (iv l) (some (12 : Int)) (some (20 : Int)) = iv ((l.drop 12).take 8) := iv_cut l (a := 12) (b := 20) (by omega) (by omega)
    have i4 : cutV (iv l) (some (4 : Int)) (some (8 : Int)) = iv ((l.drop 4).take 4) := iv_cut l (a := 4) (b := 8) (by omega) (by omega)
    have a0 : atI (iv l) 0 = some (.int (Km356.num l 0 1 : Nat)) := at_num (i := 0) (by omega)
    have a1 : atI (iv l) 1 = some (.int (Km356.num l 1 1 : Nat)) := at_num (i := 1) (by omega)
    have a2 : atI (iv l) 2 = some (.int (Km356.num l 2 1 : Nat)) := at_num (i := 2) (by omega)
    have a3 : atI (iv l) 3 = some (.int (Km356.num l 3 1 : Nat)) := at_num (i := 3) (by omega)
    -- the check
    refine ⟨_, rfl, _, rfl, a, _, rfl, hS, fun p0 n0 => ?_⟩
    rw [i20]
    have s0 : Same H (upd H p0 (.lst (iv (l.drop 20)))) := Same.add n0
    refine ⟨p0, l.drop 20, rfl, SqL.of upd_same, _, rfl, _, rfl, a, _, rfl, s0.seq hS, fun p1 n1 => ?_⟩
    rw [j20]
    have s1 := s0.trans (Same.add (o := .lst (iv (l.take 20))) n1)
    refine ⟨p1, l.take 20, rfl, SqL.of upd_same, rfl, _, rfl, ?_⟩
    rw [int_eq_nat]
    refine if_dec (fun q => ?_) (fun q => ?_)
    · have q' : ¬ val (l.drop 20) = Km356.crc (l.take 20) := by simpa using q
      exact kN (if_neg q') _ s1
    · have q' : val (l.drop 20) = Km356.crc (l.take 20) := by simpa using q
      rw [if_pos q'] at kN kS
      -- held
      refine ⟨_, rfl, _, rfl, _, rfl, a, _, rfl, s1.seq hS, fun p2 n2 => ?_⟩
      rw [i8]
      have s2 := s1.trans (Same.add (o := .lst (iv ((l.drop 8).take 4))) n2)
      refine ⟨p2, (l.drop 8).take 4, rfl, SqL.of upd_same, _, rfl, a, _, _, _, rfl, rfl, s2.seq hS, a3, _, rfl, _, rfl, _, rfl, a, _, rfl, s2.seq hS, fun p3 n3 => ?_⟩
      rw [i12]
      have s3 := s2.trans (Same.add (o := .lst (iv ((l.drop 12).take 8))) n3)
      refine ⟨p3, (l.drop 12).take 8, rfl, SqL.of upd_same, fun x dx nx nd ne => ?_⟩
      refine ⟨x, dx, (decoded l).held, rfl, upd_same, fun H4 e4 kp4 => ⟨rfl, ?_⟩⟩
      have t4 := made_same nx nd kp4
      have s4 := s3.trans t4
      -- found
      refine ⟨_, rfl, a, _, _, _, rfl, rfl, s4.seq hS, a0, _, rfl, a, _, _, _, rfl, rfl, s4.seq hS, a1, _, rfl, a, _, _, _, rfl, rfl, s4.seq hS, a2, _, rfl, _, rfl, _, rfl, a, _, rfl, s4.seq hS, fun p5 n5 => ?_⟩
      rw [i4]
      have t5 : Same H4 (upd H4 p5 (.lst (iv ((l.drop 4).take 4)))) := Same.add n5
      refine ⟨p5, (l.drop 4).take 4, rfl, SqL.of upd_same, _, rfl, fun y dy ny ndy ney => ?_⟩
      refine ⟨y, dy, x, _, _, _, _, rfl, upd_same, fun H6 e6 kp6 => ⟨rfl, ?_⟩⟩
      have t6 := made_same ny ndy kp6
      have s6 := (s4.trans t5).trans t6
      have hm : MsgAt CM CH H6 y (decoded l) := ⟨dy, x, e6, dx, (t5.trans t6) _ _ e4⟩
      refine ifP (tOr_of (tNot_of (tB_of (gCall (v := .bl (inRange (decoded l))) (aCons (gVar rfl) aNil) fun Q q => ⟨y, decoded l, rfl, hm, q⟩))) (tNot_of (tB_of (gCall (v := .bl (noughts (decoded l))) (aCons (gVar rfl) aNil) fun Q q => ⟨y, decoded l, rfl, hm, q⟩)))) (fun z => ?_) (fun z => ?_)
      · have z' : ¬ (inRange (decoded l) && noughts (decoded l)) = true := by
          revert z
          cases inRange (decoded l) <;> cases noughts (decoded l) <;> simp
        exact kN (if_neg z') _ s6
      · have z' : (inRange (decoded l) && noughts (decoded l)) = true := by
          revert z
          cases inRange (decoded l) <;> cases noughts (decoded l) <;> simp
        exact ⟨_, rfl, kS _ (if_pos z') rfl _ y s6 hm⟩
end
end MC
namespace MC
open PySem PySem.Spec PyProof.Rows L2
/-! ### answers as lists of values -/
def tv (a : Km356.Ans) : List V := (Km356Neutral.told a).map V.int
theorem tv_only (v : Int) : tv (Km356.only v) = [.int v] := rfl
theorem tv_out (v : Int) (l : List Nat) : tv { value := v, out := l } = V.int v :: iv l := by
  show V.int v :: (l.map fun x : Nat => (x : Int)).map V.int = V.int v :: iv l
  rw [List.map_map]
  rfl
/-! ### keepers in the heap -/
def kpF (me : Int) (h : Addr) : List (Str × V) := [("me", .int me), ("held", .ref h)]
theorem n_me_held : ¬ (("me" : Str) = "held") := by decide +kernel
section
variable (me : Int) (a b : Addr)
theorem kpF_me : (kpF me a).lookup ("me" : Str) = some (.int me) := lk_here
theorem kpF_held : (kpF me a).lookup ("held" : Str) = some (.ref a) := (lk_past (by decide +kernel)).trans lk_here
theorem kpF_hear : (kpF me a).lookup ("hear" : Str) = none := (lk_past (by decide +kernel)).trans ((lk_past (by decide +kernel)).trans rfl)
theorem kpF_new : putF "held" (.ref a) (putF "me" (.int me) []) = kpF me a := by
  simp only [put_nil, put_past n_me_held]
  rfl
theorem kpF_put : putF "held" (.ref b) (kpF me a) = kpF me b := (put_past n_me_held).trans (congrArg _ put_here)
end
def KpRaw (CK CH : Addr) (H : Hp) (a : Addr) (k : Km356.Keeper) : Prop := ∃ dx hd, H a = some (.ins CK dx (kpF k.me hd)) ∧ HeldAt CH H hd k.held
def KeeperAt (CK CH : Addr) (H0 H : Hp) (a : Addr) (k : Km356.Keeper) : Prop := Same H0 H ∧ H0 a = none ∧ KpRaw CK CH H a k
section
variable {CK CH CM a b : Addr} {H0 H0' H H' : Hp} {k : Km356.Keeper}
theorem KpRaw.same (x : KpRaw CK CH H a k) (s : Same H H') : KpRaw CK CH H' a k := let ⟨dx, hd, e, h⟩ := x; ⟨dx, hd, s _ _ e, h.same s⟩
theorem KeeperAt.same (x : KeeperAt CK CH H0 H a k) (s : Same H H') : KeeperAt CK CH H0 H' a k := ⟨x.1.trans s, x.2.1, x.2.2.same s⟩
theorem KeeperAt.weak (x : KeeperAt CK CH H0' H a k) (s : Same H0 H0') : KeeperAt CK CH H0 H a k := ⟨s.trans x.1, s.free x.2.1, x.2.2⟩
/-- the heap without what stands at an address -/
def hide (H : Hp) (a : Addr) : Hp := fun b => if b = a then none else H b
theorem hide_self : hide H a a = none := if_pos rfl
theorem hide_ne (h : b ≠ a) : hide H a b = H b := if_neg h
theorem hide_same : Same (hide H a) H := fun b o e => by
  by_cases q : b = a
  · rw [q, hide_self] at e
    cases e
  · rw [hide_ne q] at e
    exact e
theorem same_hide (s : Same H0 H) (n : H0 a = none) : Same H0 (hide H a) := fun b o e => by
  rw [hide_ne (ne_of_none e n).symm.symm]
  exact s _ _ e
theorem same_upd {o : HO} (s : Same H0 H) (n : H0 a = none) : Same H0 (upd H a o) := fun b u e => by
  rw [upd_ne (ne_of_none e n)]
  exact s _ _ e
theorem ne_len {C C' dx dx' : Addr} {fs fs' : List (Str × V)} (h : H a = some (.ins C dx fs)) (h' : H b = some (.ins C' dx' fs')) (n : fs.length ≠ fs'.length) : a ≠ b := ne_of h h' fun z => by
  injection z with _ _ q
  exact n (congrArg List.length q)
theorem held_ne {h : Km356.Held} {C dx : Addr} {fs : List (Str × V)} (x : HeldAt CH H a h) (h' : H b = some (.ins C dx fs)) (n : 3 ≠ fs.length) : a ≠ b := let ⟨_, e⟩ := x; ne_len e h' n
theorem HeldAt.hide {h : Km356.Held} (x : HeldAt CH H a h) (n : a ≠ b) : HeldAt CH (hide H b) a h := let ⟨dx, e⟩ := x; ⟨dx, by rw [hide_ne n]; exact e⟩
theorem HeldAt.upd {h : Km356.Held} {o : HO} (x : HeldAt CH H a h) (n : a ≠ b) : HeldAt CH (upd H b o) a h := let ⟨dx, e⟩ := x; ⟨dx, by rw [upd_ne n]; exact e⟩
theorem MsgAt.hide {m : Km356.Message} {C dx : Addr} {fs : List (Str × V)} (x : MsgAt CM CH H a m) (h' : H b = some (.ins C dx fs)) (n3 : 3 ≠ fs.length) (n5 : 5 ≠ fs.length) : MsgAt CM CH (hide H b) a m := by
  obtain ⟨dm, hd, e, hh⟩ := x
  exact ⟨dm, hd, by rw [hide_ne (ne_len e h' n5)]; exact e, hh.hide (held_ne hh h' n3)⟩
end
section
variable {P : Program} {w : World} {K : PySem.W.Frag} {mg : Str → Option Value} {base : Heap} {CH CM CC CK CA q1 q2 q3 q4 : Addr}
theorem gIsN {σ : L2.St} {H : Hp} {ta : TE} {v : V} (h : Gives ta σ H v) : Gives (tIsN ta) σ H (.bl (decide (v = .non))) := fun _ q => h _ q
theorem tOr_left {σ : L2.St} {H : Hp} {tA tB' : TT} (h : Tells tA σ H true) : Tells (tOr tA tB') σ H true := fun _ q => h _ (iteT q)
theorem tOr_right {σ : L2.St} {H : Hp} {tA tB' : TT} {b : Bool} (h : Tells tA σ H false) (h2 : Tells tB' σ H b) : Tells (tOr tA tB') σ H b := fun _ q => h _ (iteF (h2 _ q))
def spKpInit (CK CH : Addr) : Sp := fun vs H Q _ => ∃ (p dx : Addr) (me : Nat), vs = [.ref p, .int (me : Int)] ∧ H p = some (.ins CK dx []) ∧
  ∀ H' : Hp, KpRaw CK CH H' p ⟨me, Km356.nothing⟩ → (∀ b o, H b = some o → b ≠ p → H' b = some o) → Q .non H'
theorem scKpInit : FnScope ["self", "me"] ["self", "me"] (defScope sKpInit) := ⟨rfl, rfl, rfl, by decide +kernel, rfl, by decide +kernel, by decide +kernel⟩
theorem ok_kpInit (D : InitAt K CK "Keeper.__init__" sKpInit ["self", "me"]) (T : Txt K mg CH CM CC CK CA q1 q2 q3 q4) (GNo : DefOk P w K mg base 3 "nothing_held" [] (spNothing CH)) : InitOk P w K mg base 4 CK ["self", "me"] (spKpInit CK CH) := by
  refine D.ok fun f fd F => F.ok scKpInit (fun vs H Q E h => ?_) (fun cdv A outer s H vs Q E hr h => ?_)
  · obtain ⟨p, dx, me, rfl, _⟩ := h
    rfl
  · obtain ⟨p, dx, me, rfl, hp, k⟩ := h
    refine ⟨_, pss_cons (ps_fld (pv 0) (pv 1) rfl) (pss_one (ps_fld (pv 0) (pe_f0 GNo hr rfl) rfl)), ?_⟩
    refine ⟨_, rfl, _, rfl, p, CK, dx, _, rfl, hp, T.lK, T.kMe, short_lt nil_short (by decide), ?_⟩
    refine ⟨rfl, fun H1 hd s1 n1 e1 => ?_⟩
    have hp1 := s1 _ _ upd_same
    refine ⟨_, rfl, p, CK, dx, _, rfl, hp1, T.lK, T.kHeld, short_lt (put_short nil_short) (by decide), ?_⟩
    have ne : hd ≠ p := held_ne e1 hp1 (by show 3 ≠ 1; decide)
    refine k _ ⟨dx, hd, upd_same.trans (by rw [kpF_new]), e1.upd ne⟩ fun b o e hb => ?_
    rw [upd_ne hb]
    exact s1 _ _ (by rw [upd_ne hb]; exact e)
def spKpHear (CK CM CH : Addr) : Sp := fun vs H Q _ => ∃ (H0 : Hp) (a : Addr) (k : Km356.Keeper) (mp : Addr) (m : Km356.Message), vs = [.ref a, .ref mp] ∧ KeeperAt CK CH H0 H a k ∧ MsgAt CM CH H0 mp m ∧ isQ m = true ∧
  ∀ (H' : Hp) (p : Addr), KeeperAt CK CH H0 H' a (k.hears m).1 → MsgAt CM CH H' p (k.hears m).2 → Q (.ref p) H'
theorem scKpHear : FnScope ["self", "question"] ["self", "question"] (defScope sKpHear) := ⟨rfl, rfl, rfl, by decide +kernel, rfl, by decide +kernel, by decide +kernel⟩
theorem hears_ask {k : Km356.Keeper} {m : Km356.Message} (h : m.kind = 1) : k.hears m = (k, ⟨2, m.client, k.me, m.op, k.held⟩) := if_pos h
theorem hears_hold {k : Km356.Keeper} {m : Km356.Message} (h : ¬ m.kind = 1) : k.hears m = ({ k with held := Km356.later k.held m.held }, ⟨4, m.client, k.me, m.op, Km356.nothing⟩) := if_neg h
theorem ok_kpHear (D : MethAt K CK "hear" "Keeper.hear" sKpHear ["self", "question"]) (T : Txt K mg CH CM CC CK CA q1 q2 q3 q4) (GNo : DefOk P w K mg base 3 "nothing_held" [] (spNothing CH))
    (GM : InitOk P w K mg base 1 CM ["self", "kind", "client", "keeper", "operation", "held"] (spMsgInit CM)) (GS : MethOk P w K mg base 1 CH "stamp" ["self"] (spStamp CH)) : MethOk P w K mg base 4 CK "hear" ["self", "question"] (spKpHear CK CM CH) := by
  refine D.ok fun f fd F => F.ok scKpHear (fun vs H Q E h => ?_) (fun cdv A outer s H vs Q E hr h => ?_)
  · obtain ⟨H0, a, k, mp, m, rfl, _⟩ := h
    rfl
  · obtain ⟨H0, a, k, mp, m, rfl, kp, hm0, hq, go⟩ := h
    obtain ⟨s0, n0, dx, hd, ha, hh⟩ := id kp
    obtain ⟨dm, hdm, hM, hhm⟩ := hm0.same s0
    obtain ⟨dh', hhm'⟩ := id hhm
    obtain ⟨dh, hh'⟩ := id hh
    have hr1 : Room 1 _ := hr.mono (by decide)
    have hr2 : Room 2 _ := hr.mono (by decide)
    refine ⟨_, pss_cons (ps_if (pt_cmpR op_eq (pe_fld (pv 1) rfl) (pe_gi rfl T.gASK) (nomark _)) (pss_one (ps_ret (pe_c GM hr2 rfl T.cM (pa_cons (pe_gi rfl T.gTELL) (pa_cons (pe_fld (pv 1) rfl) (pa_cons (pe_fld (pv 0) rfl) (pa_cons (pe_fld (pv 1) rfl) (pa_cons (pe_fld (pv 0) rfl) pa_nil)))))))) pss_nil)
      (pss_cons (ps_if (pt_cmpR (op_gtT hr.units0) (pe_m0 (pe_fld (pv 1) rfl) T.lH GS hr1) (pe_m0 (pe_fld (pv 0) rfl) T.lH GS hr1) (nomark _)) (pss_one (ps_fld (pv 0) (pe_fld (pv 1) rfl) rfl)) pss_nil)
      (pss_one (ps_ret (pe_c GM hr2 rfl T.cM (pa_cons (pe_gi rfl T.gIS) (pa_cons (pe_fld (pv 1) rfl) (pa_cons (pe_fld (pv 0) rfl) (pa_cons (pe_fld (pv 1) rfl) (pa_cons (pe_f0 GNo hr rfl) pa_nil))))))))), ?_⟩
    refine ifP (tTest_of (gEq (gFld (gVar rfl) hM T.lM T.mKind (msgF_kind _ _ _ _ _)) gC rfl)) (fun q => ?_) (fun q => ?_)
    · have q' : m.kind = 1 := by
        have z : decide (V.int (m.kind : Int) = V.int ((1 : Nat) : Int)) = true := q
        rw [int_eq_nat] at z
        exact of_decide_eq_true z
      rw [hears_ask q'] at go
      refine ⟨_, rfl, mp, CM, dm, _, _, rfl, hM, T.lM, T.mClient, msgF_client _ _ _ _ _, _, rfl, a, CK, dx, _, _, rfl, ha, T.lK, T.kMe, kpF_me _ _, _, rfl, mp, CM, dm, _, _, rfl, hM, T.lM, T.mOp, msgF_op _ _ _ _ _, _, rfl, a, CK, dx, _, _, rfl, ha, T.lK, T.kHeld, kpF_held _ _, fun x dy nx ny ne => ?_⟩
      refine ⟨x, dy, hd, _, _, _, _, rfl, upd_same, fun H1 e1 kp1 => ⟨rfl, ?_⟩⟩
      have s1 := made_same nx ny kp1
      exact go H1 x (kp.same s1) ⟨dy, hd, e1, hh.same s1⟩
    · have q' : ¬ m.kind = 1 := by
        have z : decide (V.int (m.kind : Int) = V.int ((1 : Nat) : Int)) = false := q
        rw [int_eq_nat] at z
        exact of_decide_eq_false z
      rw [hears_hold q'] at go
      -- the rest, from any heap in which the keeper holds what it goes on with
      have fin : ∀ H3 : Hp, KeeperAt CK CH H0 H3 a { k with held := Km356.later k.held m.held } → tRet (tMake CM (spMsgInit CM) [] E0 (tCons (tC (.int 4)) (tCons (tFld K (tVar 1) "client") (tCons (tFld K (tVar 0) "me") (tCons (tFld K (tVar 1) "operation") (tCons (tCall (spNothing CH) [] E0 tNil) tNil)))))) { nx := fun _ H' => Q .non H', rt := Q } [some (.ref a), some (.ref mp)] H3 := by
        intro H3 kp3
        obtain ⟨s3, _, d3, hd3, ha3, hh3⟩ := id kp3
        obtain ⟨dm3, hdm3, hM3, _⟩ := hm0.same s3
        refine ⟨_, rfl, mp, CM, dm3, _, _, rfl, hM3, T.lM, T.mClient, msgF_client _ _ _ _ _, _, rfl, a, CK, d3, _, _, rfl, ha3, T.lK, T.kMe, kpF_me _ _, _, rfl, mp, CM, dm3, _, _, rfl, hM3, T.lM, T.mOp, msgF_op _ _ _ _ _, rfl, fun H4 p4 s4 n4 e4 => ?_⟩
        intro x dy nx ny ne
        refine ⟨x, dy, p4, _, _, _, _, rfl, upd_same, fun H5 e5 kp5 => ⟨rfl, ?_⟩⟩
        have s5 := made_same nx ny kp5
        exact go H5 x (kp3.same (s4.trans s5)) ⟨dy, p4, e5, e4.same s5⟩
      refine nxt ?_
      refine ⟨_, rfl, mp, CM, dm, _, _, rfl, hM, T.lM, T.mHeld, msgF_held _ _ _ _ _, hdm, dh', _, rfl, hhm', heldF_stamp _, hdm, m.held, rfl, hhm, fun t1 n1 => ?_⟩
      have s1 : Same H (upd H t1 (.tup (([(m.held.stamp.number : Int), (m.held.stamp.client : Int)] : List Int).map V.int))) := Same.add n1
      refine ⟨_, rfl, a, CK, dx, _, _, rfl, s1 _ _ ha, T.lK, T.kHeld, kpF_held _ _, hd, dh, _, rfl, s1 _ _ hh', heldF_stamp _, hd, k.held, rfl, hh.same s1, fun t2 n2 => ?_⟩
      have s2 := Same.add (o := .tup (([(k.held.stamp.number : Int), (k.held.stamp.client : Int)] : List Int).map V.int)) n2
      refine ⟨t1, t2, [(m.held.stamp.number : Int), (m.held.stamp.client : Int)], [(k.held.stamp.number : Int), (k.held.stamp.client : Int)], rfl, rfl, SqT.of (s2 _ _ upd_same), SqT.of upd_same, _, rfl, ?_⟩
      have kp2 := kp.same (s1.trans s2)
      rw [lex_stamp]
      refine if_dec (fun z => ?_) (fun z => ?_)
      · have e : Km356.later k.held m.held = m.held := if_pos z
        obtain ⟨_, _, d2, hd2, ha2, hh2⟩ := id kp2
        obtain ⟨dm2, hdm2, hM2, hhm2⟩ := hm0.same kp2.1
        refine ⟨_, rfl, mp, CM, dm2, _, _, rfl, hM2, T.lM, T.mHeld, msgF_held _ _ _ _ _, _, rfl, a, CK, d2, _, rfl, ha2, T.lK, T.kHeld, (by show 2 < 1000; decide), ?_⟩
        refine fin _ ⟨same_upd kp2.1 n0, n0, d2, hdm2, upd_same.trans (by rw [kpF_put]), ?_⟩
        rw [e]
        exact hhm2.upd (held_ne hhm2 ha2 (by show 3 ≠ 2; decide))
      · have e : Km356.later k.held m.held = k.held := if_neg (by rw [z]; exact Bool.false_ne_true)
        refine nxt (fin _ ?_)
        rw [e]
        exact kp2
end
end MC
namespace MC
open PySem PySem.Spec PyProof.Rows L2
section
variable {P : Program} {w : World} {K : PySem.W.Frag} {mg : Str → Option Value} {base : Heap} {CH CM CC CK CA q1 q2 q3 q4 : Addr}
def spKpStarted (CK CH : Addr) : Sp := fun vs H Q _ => ∃ (kd : Addr) (kvs : List (Key × V)) (wh : Int) (me : Nat), vs = [.ref kd, .int wh, .int (me : Int)] ∧ H kd = some (.dK kvs) ∧ kvs.length < sizeLine ∧
  (15 ≤ me → ∀ (H' : Hp) (p : Addr), H p = none → Same H H' → H' p = some (.lst [.int (-22)]) → Q (.ref p) H') ∧
  (¬ 15 ≤ me → ∀ (H' : Hp) (p x : Addr), H p = none → H x = none → KpRaw CK CH H' x ⟨me, Km356.nothing⟩ → H' kd = some (.dK (putK kvs (.inl wh) (.ref x))) → (∀ b o, H b = some o → b ≠ kd → H' b = some o) → H' p = some (.lst [.int 0]) → Q (.ref p) H')
theorem scKpStarted : FnScope ["keepers", "which", "me"] ["keepers", "which", "me"] (defScope sKpStarted) := ⟨rfl, rfl, rfl, by decide +kernel, rfl, by decide +kernel, by decide +kernel⟩
theorem ok_kpStarted (D : DefAt K mg "keeper_started" sKpStarted ["keepers", "which", "me"]) (T : Txt K mg CH CM CC CK CA q1 q2 q3 q4) (GI : InitOk P w K mg base 4 CK ["self", "me"] (spKpInit CK CH)) : DefOk P w K mg base 6 "keeper_started" ["keepers", "which", "me"] (spKpStarted CK CH) := by
  refine D.ok fun f fd F => F.ok scKpStarted (fun vs H Q E h => ?_) (fun cdv A outer s H vs Q E hr h => ?_)
  · obtain ⟨kd, kvs, wh, me, rfl, _⟩ := h
    rfl
  · obtain ⟨kd, kvs, wh, me, rfl, hd, hl, kR, kG⟩ := h
    refine ⟨_, pss_cons (ps_if (pt_cmpR op_gt (pv 2) (pe_gi rfl T.gMK) (nomark _)) (pss_one (ps_ret (pe_lst (pa_cons (pe_un un_neg pe_int) pa_nil)))) pss_nil)
      (pss_cons (ps_dput (hu_of hr) (pv 0) (pv 1) (pe_c GI hr rfl T.cK (pa_cons (pv 2) pa_nil)) rfl)
      (pss_one (ps_ret (pe_lst (pa_cons pe_int pa_nil))))), ?_⟩
    refine ifP (tTest_of (gOp0 (gVar rfl) gC)) (fun q => ?_) (fun q => ?_)
    · have q' : 15 ≤ me := by
        have z : decide (((14 : Nat) : Int) < (me : Int)) = true := q
        rw [lt_nat] at z
        exact of_decide_eq_true z
      refine ⟨_, rfl, (by show 1 ≤ sizeLine; decide), fun p np => ?_⟩
      exact kR q' _ p np (Same.add np) upd_same
    · have q' : ¬ 15 ≤ me := by
        have z : decide (((14 : Nat) : Int) < (me : Int)) = false := q
        rw [lt_nat] at z
        exact of_decide_eq_false z
      refine nxt ?_
      refine ⟨_, rfl, fun x dx nx nd ne => ?_⟩
      refine ⟨x, dx, me, rfl, upd_same, fun H1 r1 kp1 => ⟨rfl, ?_⟩⟩
      have s1 : Same H H1 := fun b o e => kp1 b o (by rw [upd_ne (ne_of_none e nx), upd_ne (ne_of_none e nd)]; exact e) (ne_of_none e nx)
      have h1 := s1 _ _ hd
      refine ⟨_, rfl, _, rfl, kd, _, rfl, DPut.k (k := Sum.inl wh) h1 hl, ?_⟩
      refine ⟨(by show 1 ≤ sizeLine; decide), fun p np => ?_⟩
      obtain ⟨d1, hd1, e1, hh1⟩ := r1
      obtain ⟨dh1, eh1⟩ := id hh1
      have nxk : x ≠ kd := ne_of e1 h1 (by intro z; cases z)
      have nhk : hd1 ≠ kd := ne_of eh1 h1 (by intro z; cases z)
      have s2 := Same.add (o := .lst [.int 0]) np
      have np0 : H p = none := by
        by_cases z : p = kd
        · rw [z, upd_same] at np
          cases np
        · rw [upd_ne z] at np
          exact s1.free np
      refine kG q' _ p x np0 nx ⟨d1, hd1, s2 _ _ (by rw [upd_ne nxk]; exact e1), (hh1.upd nhk).same s2⟩ (s2 _ _ upd_same) (fun b o e hb => s2 _ _ (by rw [upd_ne hb]; exact s1 _ _ e)) upd_same
def spKpHeard (K : PySem.W.Frag) (CK CH : Addr) : Sp := fun vs H Q _ => ∃ (H0 : Hp) (a : Addr) (k : Km356.Keeper) (r : Addr) (l : List Nat), vs = [.ref a, .ref r] ∧ KeeperAt CK CH H0 H a k ∧ SqL K H r (iv l) ∧ l.length = 24 ∧ (∀ b ∈ l, b < 256) ∧
  ∀ (H' : Hp) (p : Addr), KeeperAt CK CH H0 H' a (Km356.kDoes k (.kHeard l)).1 → H0 p = none → H' p = some (.lst (tv (Km356.kDoes k (.kHeard l)).2)) → Q (.ref p) H'
theorem scKpHeard : FnScope ["keeper", "some", "message"] ["keeper", "some"] (defScope sKpHeard) := ⟨rfl, rfl, rfl, by decide +kernel, rfl, by decide +kernel, by decide +kernel⟩
theorem ok_kpHeard (D : DefAt K mg "keeper_heard" sKpHeard ["keeper", "some"]) (T : Txt K mg CH CM CC CK CA q1 q2 q3 q4) (GO : DefOk P w K mg base 3 "message_of" ["some"] (spMsgOf K CM CH)) (GQ : MethOk P w K mg base 1 CM "is_question" ["self"] (spIsQ CM CH))
    (GH : MethOk P w K mg base 4 CK "hear" ["self", "question"] (spKpHear CK CM CH)) (GB : MethOk P w K mg base 3 CM "as_bytes" ["self"] (spAsBytes CM CH)) : DefOk P w K mg base 5 "keeper_heard" ["keeper", "some"] (spKpHeard K CK CH) := by
  refine D.ok fun f fd F => F.ok scKpHeard (fun vs H Q E h => ?_) (fun cdv A outer s H vs Q E hr h => ?_)
  · obtain ⟨H0, a, k, r, l, rfl, _⟩ := h
    rfl
  · obtain ⟨H0, a, k, r, l, rfl, kp, hS, h24, hb, go⟩ := h
    have hr1 : Room 1 _ := hr.mono (by decide)
    have hr3 : Room 3 _ := hr.mono (by decide)
    refine ⟨_, pss_cons (ps_set (i := 2) scKpHeard.nd rfl (Or.inl rfl) (pe_f GO hr3 rfl (pa_cons (pv 1) pa_nil)))
      (pss_cons (ps_if (PW.pt (pw_or (pt_cmp (pc_isN (pv 2))) (pw_or1 (pt_not (pt_val (pe_m0 (pv 2) T.lM GQ hr1)))))) (pss_one (ps_ret (pe_lst (pa_cons (pe_un un_neg pe_int) pa_nil)))) pss_nil)
      (pss_one (ps_ret (pe_op op_cat (pe_lst (pa_cons pe_int pa_nil)) (pe_m0 (pe_m (pv 0) T.lK GH hr (pa_cons (pv 2) pa_nil)) T.lM GB hr3))))), ?_⟩
    refine ⟨_, rfl, r, l, rfl, hS, h24, hb, fun e H1 s1 => ?_, fun m e _ H1 mp s1 hm => ?_⟩
    · rw [kHeard_none e] at go
      refine ifP (tOr_left (tB_of (gIsN (v := .non) (gVar rfl)))) (fun _ => ?_) (fun q => by cases q)
      refine ⟨_, rfl, (by show 1 ≤ sizeLine; decide), fun p np => ?_⟩
      exact go _ p (kp.same (s1.trans (Same.add np))) ((kp.same s1).1.free np) upd_same
    · obtain ⟨dm, hdm, hM, hhm⟩ := id hm
      refine ifP (tOr_right (tB_of (gIsN (v := .ref mp) (gVar rfl))) (tNot_of (tB_of (gMeth (v := .bl (isQ m)) (gVar rfl) hM (msgF_isQ _ _ _ _ _) aNil fun Q q => ⟨mp, m, rfl, hm, q⟩)))) (fun q => ?_) (fun q => ?_)
      · have q' : isQ m = false := by simpa using q
        rw [kHeard_not e q'] at go
        refine ⟨_, rfl, (by show 1 ≤ sizeLine; decide), fun p np => ?_⟩
        exact go _ p (kp.same (s1.trans (Same.add np))) ((kp.same s1).1.free np) upd_same
      · have q' : isQ m = true := by simpa using q
        rw [kHeard_yes e q'] at go
        refine nxt ?_
        refine ⟨(by show 1 ≤ sizeLine; decide), fun p np => ?_⟩
        have s2 : Same H1 (upd H1 p (.lst [.int 0])) := Same.add np
        have kp2 := kp.same (s1.trans s2)
        obtain ⟨s02, n02, d2, hd2, ha2, hh2⟩ := id kp2
        have npa : p ≠ a := ne_of upd_same ha2 (by intro z; cases z)
        have hm2 := (hm.same s2).hide ha2 (by show 3 ≠ 2; decide) (by show 5 ≠ 2; decide)
        refine ⟨_, rfl, a, d2, _, rfl, ha2, kpF_hear _ _, _, rfl, hide _ a, a, k, mp, m, rfl, ⟨hide_same, hide_self, d2, hd2, ha2, hh2⟩, hm2, q', fun H3 x kp3 hx => ?_⟩
        obtain ⟨dx, hdx, hX, hhX⟩ := id hx
        refine ⟨x, dx, _, rfl, hX, msgF_asBytes _ _ _ _ _, x, _, rfl, hx, fun H4 y s4 hy => ?_⟩
        have hp3 : H3 p = some (.lst [.int 0]) := kp3.1 _ _ (by rw [hide_ne npa]; exact upd_same)
        refine ⟨p, y, _, _, rfl, rfl, s4 _ _ hp3, hy, (by rw [iv_length, bytes_length]; show 1 + 24 ≤ sizeLine; decide), fun z nz => ?_⟩
        refine go _ z ((kp3.weak (same_hide s02 n02)).same (s4.trans (Same.add nz))) (((kp3.weak (same_hide s02 n02)).same s4).1.free nz) ?_
        rw [upd_same, tv_out]
        rfl
end
end MC
namespace MC
open PySem PySem.Spec PyProof.Rows L2
/-! ### clients in the heap -/
def clF (me n b st : Int) (o : V) (h ad : Addr) : List (Str × V) := [("me", .int me), ("keepers", .int n), ("begun", .int b), ("stands", .int st), ("own", o), ("held", .ref h), ("answered", .ref ad)]
theorem c_me_keepers : ¬ (("me" : Str) = "keepers") := by decide +kernel
theorem c_me_begun : ¬ (("me" : Str) = "begun") := by decide +kernel
theorem c_me_stands : ¬ (("me" : Str) = "stands") := by decide +kernel
theorem c_me_own : ¬ (("me" : Str) = "own") := by decide +kernel
theorem c_me_held : ¬ (("me" : Str) = "held") := by decide +kernel
theorem c_me_answered : ¬ (("me" : Str) = "answered") := by decide +kernel
theorem c_keepers_begun : ¬ (("keepers" : Str) = "begun") := by decide +kernel
theorem c_keepers_stands : ¬ (("keepers" : Str) = "stands") := by decide +kernel
theorem c_keepers_own : ¬ (("keepers" : Str) = "own") := by decide +kernel
theorem c_keepers_held : ¬ (("keepers" : Str) = "held") := by decide +kernel
theorem c_keepers_answered : ¬ (("keepers" : Str) = "answered") := by decide +kernel
theorem c_begun_stands : ¬ (("begun" : Str) = "stands") := by decide +kernel
theorem c_begun_own : ¬ (("begun" : Str) = "own") := by decide +kernel
theorem c_begun_held : ¬ (("begun" : Str) = "held") := by decide +kernel
theorem c_begun_answered : ¬ (("begun" : Str) = "answered") := by decide +kernel
theorem c_stands_own : ¬ (("stands" : Str) = "own") := by decide +kernel
theorem c_stands_held : ¬ (("stands" : Str) = "held") := by decide +kernel
theorem c_stands_answered : ¬ (("stands" : Str) = "answered") := by decide +kernel
theorem c_own_held : ¬ (("own" : Str) = "held") := by decide +kernel
theorem c_own_answered : ¬ (("own" : Str) = "answered") := by decide +kernel
theorem c_held_answered : ¬ (("held" : Str) = "answered") := by decide +kernel
section
variable (me n b st : Int) (o : V) (h ad : Addr)
theorem clF_me : (clF me n b st o h ad).lookup ("me" : Str) = some (.int me) := lk_here
theorem clF_keepers : (clF me n b st o h ad).lookup ("keepers" : Str) = some (.int n) := (lk_past (by decide +kernel)).trans (lk_here)
theorem clF_begun : (clF me n b st o h ad).lookup ("begun" : Str) = some (.int b) := (lk_past (by decide +kernel)).trans ((lk_past (by decide +kernel)).trans (lk_here))
theorem clF_stands : (clF me n b st o h ad).lookup ("stands" : Str) = some (.int st) := (lk_past (by decide +kernel)).trans ((lk_past (by decide +kernel)).trans ((lk_past (by decide +kernel)).trans (lk_here)))
theorem clF_own : (clF me n b st o h ad).lookup ("own" : Str) = some (o) := (lk_past (by decide +kernel)).trans ((lk_past (by decide +kernel)).trans ((lk_past (by decide +kernel)).trans ((lk_past (by decide +kernel)).trans (lk_here))))
theorem clF_held : (clF me n b st o h ad).lookup ("held" : Str) = some (.ref h) := (lk_past (by decide +kernel)).trans ((lk_past (by decide +kernel)).trans ((lk_past (by decide +kernel)).trans ((lk_past (by decide +kernel)).trans ((lk_past (by decide +kernel)).trans (lk_here)))))
theorem clF_answered : (clF me n b st o h ad).lookup ("answered" : Str) = some (.ref ad) := (lk_past (by decide +kernel)).trans ((lk_past (by decide +kernel)).trans ((lk_past (by decide +kernel)).trans ((lk_past (by decide +kernel)).trans ((lk_past (by decide +kernel)).trans ((lk_past (by decide +kernel)).trans (lk_here))))))
theorem clF_m_goes_on : (clF me n b st o h ad).lookup ("goes_on" : Str) = none := (lk_past (by decide +kernel)).trans ((lk_past (by decide +kernel)).trans ((lk_past (by decide +kernel)).trans ((lk_past (by decide +kernel)).trans ((lk_past (by decide +kernel)).trans ((lk_past (by decide +kernel)).trans ((lk_past (by decide +kernel)).trans (rfl)))))))
theorem clF_m_begin : (clF me n b st o h ad).lookup ("begin" : Str) = none := (lk_past (by decide +kernel)).trans ((lk_past (by decide +kernel)).trans ((lk_past (by decide +kernel)).trans ((lk_past (by decide +kernel)).trans ((lk_past (by decide +kernel)).trans ((lk_past (by decide +kernel)).trans ((lk_past (by decide +kernel)).trans (rfl)))))))
theorem clF_m_question : (clF me n b st o h ad).lookup ("question" : Str) = none := (lk_past (by decide +kernel)).trans ((lk_past (by decide +kernel)).trans ((lk_past (by decide +kernel)).trans ((lk_past (by decide +kernel)).trans ((lk_past (by decide +kernel)).trans ((lk_past (by decide +kernel)).trans ((lk_past (by decide +kernel)).trans (rfl)))))))
theorem clF_m_is_answer : (clF me n b st o h ad).lookup ("is_answer" : Str) = none := (lk_past (by decide +kernel)).trans ((lk_past (by decide +kernel)).trans ((lk_past (by decide +kernel)).trans ((lk_past (by decide +kernel)).trans ((lk_past (by decide +kernel)).trans ((lk_past (by decide +kernel)).trans ((lk_past (by decide +kernel)).trans (rfl)))))))
theorem clF_m_hear : (clF me n b st o h ad).lookup ("hear" : Str) = none := (lk_past (by decide +kernel)).trans ((lk_past (by decide +kernel)).trans ((lk_past (by decide +kernel)).trans ((lk_past (by decide +kernel)).trans ((lk_past (by decide +kernel)).trans ((lk_past (by decide +kernel)).trans ((lk_past (by decide +kernel)).trans (rfl)))))))
theorem clF_m_go_on : (clF me n b st o h ad).lookup ("go_on" : Str) = none := (lk_past (by decide +kernel)).trans ((lk_past (by decide +kernel)).trans ((lk_past (by decide +kernel)).trans ((lk_past (by decide +kernel)).trans ((lk_past (by decide +kernel)).trans ((lk_past (by decide +kernel)).trans ((lk_past (by decide +kernel)).trans (rfl)))))))
theorem clF_new : putF "answered" (.ref ad) (putF "held" (.ref h) (putF "own" (o) (putF "stands" (.int st) (putF "begun" (.int b) (putF "keepers" (.int n) (putF "me" (.int me) [])))))) = clF me n b st o h ad := by
  simp only [put_nil, put_past c_me_keepers, put_past c_me_begun, put_past c_me_stands, put_past c_me_own, put_past c_me_held, put_past c_me_answered, put_past c_keepers_begun, put_past c_keepers_stands, put_past c_keepers_own, put_past c_keepers_held, put_past c_keepers_answered, put_past c_begun_stands, put_past c_begun_own, put_past c_begun_held, put_past c_begun_answered, put_past c_stands_own, put_past c_stands_held, put_past c_stands_answered, put_past c_own_held, put_past c_own_answered, put_past c_held_answered]
  rfl
theorem clF_put_begun (b' : Int) : putF "begun" (.int b') (clF me n b st o h ad) = clF me n b' st o h ad := (put_past c_me_begun).trans (congrArg _ ((put_past c_keepers_begun).trans (congrArg _ (put_here))))
theorem clF_put_stands (st' : Int) : putF "stands" (.int st') (clF me n b st o h ad) = clF me n b st' o h ad := (put_past c_me_stands).trans (congrArg _ ((put_past c_keepers_stands).trans (congrArg _ ((put_past c_begun_stands).trans (congrArg _ (put_here))))))
theorem clF_put_own (o' : V) : putF "own" (o') (clF me n b st o h ad) = clF me n b st o' h ad := (put_past c_me_own).trans (congrArg _ ((put_past c_keepers_own).trans (congrArg _ ((put_past c_begun_own).trans (congrArg _ ((put_past c_stands_own).trans (congrArg _ (put_here))))))))
theorem clF_put_held (h' : Addr) : putF "held" (.ref h') (clF me n b st o h ad) = clF me n b st o h' ad := (put_past c_me_held).trans (congrArg _ ((put_past c_keepers_held).trans (congrArg _ ((put_past c_begun_held).trans (congrArg _ ((put_past c_stands_held).trans (congrArg _ ((put_past c_own_held).trans (congrArg _ (put_here))))))))))
theorem clF_put_answered (ad' : Addr) : putF "answered" (.ref ad') (clF me n b st o h ad) = clF me n b st o h ad' := (put_past c_me_answered).trans (congrArg _ ((put_past c_keepers_answered).trans (congrArg _ ((put_past c_begun_answered).trans (congrArg _ ((put_past c_stands_answered).trans (congrArg _ ((put_past c_own_answered).trans (congrArg _ ((put_past c_held_answered).trans (congrArg _ (put_here))))))))))))
end
def ownV : Option Nat → V
  | none => .non
  | some v => .int (v : Int)
theorem ownV_none (o : Option Nat) : decide (ownV o = .non) = !o.isSome := by
  cases o <;> rfl
/-- the keepers that have answered -/
structure GotR (kvs : List (Key × V)) (got : List Bool) : Prop where
  len : got.length = 15
  has : ∀ i : Nat, (valV kvs (.inl (i : Int))).isSome = got.getD i false
  num : kvs.length = (got.filter fun b => b).length
theorem GotR.none : GotR [] Km356.noOne := ⟨rfl, fun i => (noOne_get i).symm, rfl⟩
theorem GotR.put {kvs : List (Key × V)} {got : List Bool} (r : GotR kvs got) {i : Nat} (hi : i < 15) (h : got.getD i false = false) (v : V) : GotR (putK kvs (.inl (i : Int)) v) (got.set i true) := by
  have hn : valV kvs (.inl (i : Int)) = Option.none := by
    have q := r.has i
    rw [h] at q
    cases e : valV kvs (.inl (i : Int)) with
    | none => rfl
    | some x => rw [e] at q; cases q
  refine ⟨by rw [List.length_set]; exact r.len, fun j => ?_, ?_⟩
  · rw [valV_put, getD_set (by rw [r.len]; exact hi)]
    by_cases e : j = i
    · subst e
      rw [if_pos rfl, if_pos rfl]
      rfl
    · rw [if_neg (fun z => e (by injection z with z; omega)), if_neg e]
      exact r.has j
  · rw [putK_new v hn, List.length_append, filter_set (by rw [r.len]; exact hi) h, r.num]
    rfl
structure COk (c : Km356.Client) : Prop where
  op : c.op < 2 ^ 32
  num : c.best.stamp.number < 2 ^ 32
  kp : c.keepers ≤ 15
  ph : c.phase ≤ 4
def ClRaw (CC CH : Addr) (H : Hp) (a ad : Addr) (c : Km356.Client) : Prop :=
  (∃ dx hd kvs, H a = some (.ins CC dx (clF c.me c.keepers c.op c.phase (ownV c.writes) hd ad)) ∧ HeldAt CH H hd c.best ∧ H ad = some (.dK kvs) ∧ (c.goes = true → GotR kvs c.got)) ∧ COk c
def ClAt (CC CH : Addr) (H0 H : Hp) (a : Addr) (c : Km356.Client) : Prop := Same H0 H ∧ H0 a = none ∧ ∃ ad, H0 ad = none ∧ ClRaw CC CH H a ad c
section
variable {CC CH CM a ad b : Addr} {H0 H0' H H' : Hp} {c : Km356.Client}
theorem ClRaw.same (x : ClRaw CC CH H a ad c) (s : Same H H') : ClRaw CC CH H' a ad c := let ⟨⟨dx, hd, kvs, e, h, d, r⟩, ok⟩ := x; ⟨⟨dx, hd, kvs, s _ _ e, h.same s, s _ _ d, r⟩, ok⟩
theorem ClAt.same (x : ClAt CC CH H0 H a c) (s : Same H H') : ClAt CC CH H0 H' a c := let ⟨s0, n, ad, na, r⟩ := x; ⟨s0.trans s, n, ad, na, r.same s⟩
theorem ClAt.weak (x : ClAt CC CH H0' H a c) (s : Same H0 H0') : ClAt CC CH H0 H a c := let ⟨s0, n, ad, na, r⟩ := x; ⟨s.trans s0, s.free n, ad, s.free na, r⟩
end
/-! ### readings that may make new objects -/
def GivesS (t : TE) (σ : L2.St) (H : Hp) (v : V) : Prop := ∀ Q : VK, (∀ H' : Hp, Same H H' → Q v H') → t σ H Q
def TellsS (t : TT) (σ : L2.St) (H : Hp) (b : Bool) : Prop := ∀ Q : Bool → Hp → Prop, (∀ H' : Hp, Same H H' → Q b H') → t σ H Q
section
variable {σ : L2.St} {H : Hp} {tA tB' : TT} {ta : TE} {a b : Bool} {v : V} {t u : TS} {D : Ends}
theorem Gives.S (h : Gives ta σ H v) : GivesS ta σ H v := fun Q q => h Q (q H (Same.refl H))
theorem Tells.S (h : Tells tA σ H a) : TellsS tA σ H a := fun Q q => h Q (q H (Same.refl H))
theorem sNot_of (h1 : TellsS tA σ H a) : TellsS (tNot tA) σ H (!a) := fun _ q => h1 _ q
theorem sB_of (h : GivesS ta σ H (.bl a)) : TellsS (tB ta) σ H a := fun _ q => h _ fun H' s => ⟨a, rfl, q H' s⟩
theorem sTest_of (h : GivesS ta σ H (.bl a)) : TellsS (tTest ta) σ H a := fun _ q => h _ fun H' s => ⟨a, rfl, q H' s⟩
theorem sOr_of (h1 : TellsS tA σ H a) (h2 : ∀ H' : Hp, Same H H' → TellsS tB' σ H' b) : TellsS (tOr tA tB') σ H (a || b) := fun Q q => h1 _ fun H1 s1 => by
  cases a
  · exact iteF (h2 H1 s1 _ fun H2 s2 => q H2 (s1.trans s2))
  · exact iteT (q H1 s1)
theorem sAnd_of (h1 : TellsS tA σ H a) (h2 : ∀ H' : Hp, Same H H' → TellsS tB' σ H' b) : TellsS (tAnd tA tB') σ H (a && b) := fun Q q => h1 _ fun H1 s1 => by
  cases a
  · exact iteF (q H1 s1)
  · exact iteT (h2 H1 s1 _ fun H2 s2 => q H2 (s1.trans s2))
theorem ifS (h : TellsS tA σ H a) (h1 : a = true → ∀ H' : Hp, Same H H' → t D σ H') (h2 : a = false → ∀ H' : Hp, Same H H' → u D σ H') : tIfS tA t u D σ H := h _ fun H' s => if_dec (fun q => h1 q H' s) (fun q => h2 q H' s)
theorem sMeth {C p dx : Addr} {m : Str} {sp : Sp} {fs : List (Str × V)} {tt : TA} {vs : List V} (h : Gives ta σ H (.ref p)) (e : H p = some (.ins C dx fs)) (l : fs.lookup m = none) (ha : GivesA tt σ H vs) (hs : ∀ Q : VK, (∀ H' : Hp, Same H H' → Q v H') → sp (.ref p :: (vs ++ [])) H Q E0) : GivesS (tMeth C m sp [] E0 ta tt) σ H v :=
  fun Q q => h _ ⟨p, dx, fs, rfl, e, l, ha _ (hs Q q)⟩
end
section
variable {P : Program} {w : World} {K : PySem.W.Frag} {mg : Str → Option Value} {base : Heap} {CH CM CC CK CA q1 q2 q3 q4 : Addr}
def spClInit (CC CH : Addr) : Sp := fun vs H Q _ => ∃ (p dx : Addr) (me n : Nat), vs = [.ref p, .int (me : Int), .int (n : Int)] ∧ n ≤ 15 ∧ H p = some (.ins CC dx []) ∧
  ∀ (H' : Hp) (ad : Addr), H ad = none → ClRaw CC CH H' p ad (Km356.client0 me n) → (∀ b o, H b = some o → b ≠ p → H' b = some o) → Q .non H'
theorem scClInit : FnScope ["self", "me", "keepers"] ["self", "me", "keepers"] (defScope sClInit) := ⟨rfl, rfl, rfl, by decide +kernel, rfl, by decide +kernel, by decide +kernel⟩
theorem ok_clInit (D : InitAt K CC "Client.__init__" sClInit ["self", "me", "keepers"]) (T : Txt K mg CH CM CC CK CA q1 q2 q3 q4) (GNo : DefOk P w K mg base 3 "nothing_held" [] (spNothing CH)) : InitOk P w K mg base 4 CC ["self", "me", "keepers"] (spClInit CC CH) := by
  refine D.ok fun f fd F => F.ok scClInit (fun vs H Q E h => ?_) (fun cdv A outer s H vs Q E hr h => ?_)
  · obtain ⟨p, dx, me, n, rfl, _⟩ := h
    rfl
  · obtain ⟨p, dx, me, n, rfl, hn, hp, k⟩ := h
    refine ⟨_, pss_cons (ps_fld (pv 0) (pv 1) rfl) (pss_cons (ps_fld (pv 0) (pv 2) rfl) (pss_cons (ps_fld (pv 0) pe_int rfl) (pss_cons (ps_fld (pv 0) (pe_gi rfl T.gNB) rfl) (pss_cons (ps_fld (pv 0) pe_non rfl) (pss_cons (ps_fld (pv 0) (pe_f0 GNo hr rfl) rfl) (pss_one (ps_fld (pv 0) pe_dnewK rfl))))))), ?_⟩
    refine ⟨_, rfl, _, rfl, p, CC, dx, _, rfl, hp, T.lC, T.cMe, short_lt nil_short (by decide), ?_⟩
    refine ⟨_, rfl, _, rfl, p, CC, dx, _, rfl, upd_same, T.lC, T.cKeepers, short_lt (put_short nil_short) (by decide), ?_⟩
    refine ⟨_, rfl, p, CC, dx, _, rfl, upd_same, T.lC, T.cBegun, short_lt (put_short (put_short nil_short)) (by decide), ?_⟩
    refine ⟨_, rfl, p, CC, dx, _, rfl, upd_same, T.lC, T.cStands, short_lt (put_short (put_short (put_short nil_short))) (by decide), ?_⟩
    refine ⟨_, rfl, p, CC, dx, _, rfl, upd_same, T.lC, T.cOwn, short_lt (put_short (put_short (put_short (put_short nil_short)))) (by decide), ?_⟩
    refine ⟨rfl, fun H1 hd s1 n1 e1 => ?_⟩
    have hp1 := s1 _ _ upd_same
    have l5 := put_short (f := "own") (v := .non) (put_short (f := "stands") (v := .int 0) (put_short (f := "begun") (v := .int 0) (put_short (f := "keepers") (v := .int (n : Int)) (put_short (f := "me") (v := .int (me : Int)) nil_short))))
    have ne : hd ≠ p := by
      obtain ⟨_, z⟩ := id e1
      refine ne_of z hp1 fun q => ?_
      injection q with _ _ q
      have q2 := congrArg (fun x => List.lookup ("me" : Str) x) q
      have q3 : List.lookup ("me" : Str) (heldF Km356.nothing) = none := (lk_past (by decide +kernel)).trans ((lk_past (by decide +kernel)).trans ((lk_past (by decide +kernel)).trans rfl))
      have q4 : List.lookup ("me" : Str) (heldF Km356.nothing) = some (.int (me : Int)) := by
        refine q2.trans ?_
        rw [lookup_putF, if_neg c_me_own, lookup_putF, if_neg c_me_stands, lookup_putF, if_neg c_me_begun, lookup_putF, if_neg c_me_keepers, lookup_putF, if_pos rfl]
      rw [q3] at q4
      cases q4
    refine ⟨_, rfl, p, CC, dx, _, rfl, hp1, T.lC, T.cHeld, short_lt l5 (by decide), fun ad nad => ?_⟩
    have npa : p ≠ ad := ne_of_none (H := upd H1 p _) upd_same nad
    have nad1 : H1 ad = none := by
      rw [upd_ne npa.symm] at nad
      exact nad
    have nad0 : H ad = none := by
      cases z : H ad with
      | none => rfl
      | some o =>
        have q := s1 ad o (by rw [upd_ne npa.symm, upd_ne npa.symm, upd_ne npa.symm, upd_ne npa.symm, upd_ne npa.symm]; exact z)
        rw [nad1] at q
        cases q
    obtain ⟨dh, eh⟩ := id e1
    have nha : hd ≠ ad := ne_of_none eh nad1
    refine ⟨_, rfl, p, CC, dx, _, rfl, (upd_ne npa).trans upd_same, T.lC, T.cAnswered, short_lt (put_short l5) (by decide), ?_⟩
    refine k _ ad nad0 ⟨⟨dx, hd, [], ?_, ?_, ?_, fun q => by cases q⟩, ⟨by show 0 < 2 ^ 32; decide, by show 0 < 2 ^ 32; decide, hn, Nat.zero_le _⟩⟩ fun b o e hb => ?_
    · rw [upd_same]
      exact congrArg (fun x => some (HO.ins CC dx x)) (clF_new (me : Int) (n : Int) 0 0 .non hd ad)
    · exact ((e1.upd ne).upd nha).upd ne
    · rw [upd_ne npa.symm, upd_same]
    · rw [upd_ne hb, upd_ne (ne_of_none e nad0), upd_ne hb]
      exact s1 _ _ (by rw [upd_ne hb, upd_ne hb, upd_ne hb, upd_ne hb, upd_ne hb]; exact e)
def spGoesOn (CC CH : Addr) : Sp := fun vs H Q _ => ∃ (a ad : Addr) (c : Km356.Client), vs = [.ref a] ∧ ClRaw CC CH H a ad c ∧ ∀ H' : Hp, Same H H' → Q (.bl c.goes) H'
theorem scGoesOn : FnScope ["self"] ["self"] (defScope sGoesOn) := ⟨rfl, rfl, rfl, by decide +kernel, rfl, by decide +kernel, by decide +kernel⟩
theorem goes_eq (c : Km356.Client) : inV (.int (c.phase : Int)) (([1, 2] : List Int).map V.int) = c.goes := by
  refine (in_two c.phase 1 2).trans ?_
  unfold Km356.Client.goes
  rw [Bool.eq_iff_iff]
  simp
theorem ok_goesOn (D : MethAt K CC "goes_on" "Client.goes_on" sGoesOn ["self"]) (T : Txt K mg CH CM CC CK CA q1 q2 q3 q4) : MethOk P w K mg base 1 CC "goes_on" ["self"] (spGoesOn CC CH) := by
  refine D.ok fun f fd F => F.ok scGoesOn (fun vs H Q E h => ?_) (fun cdv A outer s H vs Q E hr h => ?_)
  · obtain ⟨a, ad, c, rfl, _⟩ := h
    rfl
  · obtain ⟨a, ad, c, rfl, ⟨⟨dx, hd, kvs, ha, _⟩, _⟩, k⟩ := h
    refine ⟨_, pss_one (ps_ret (pe_cmpR op_in_seq (pe_fld (pv 0) rfl) (pe_tup (pa_cons (pe_gi rfl T.gASKING) (pa_cons (pe_gi rfl T.gHOLDING) pa_nil))) (by rfl))), ?_⟩
    refine ⟨_, rfl, a, CC, dx, _, _, rfl, ha, T.lC, T.cStands, clF_stands _ _ _ _ _ _ _, (by show 2 ≤ sizeLine; decide), fun t nt => ?_⟩
    refine ⟨t, ([1, 2] : List Int).map V.int, rfl, .inr (SqT.of upd_same), rfl, rfl, ?_⟩
    have q := k _ (Same.add (o := .tup (([1, 2] : List Int).map V.int)) nt)
    rw [← goes_eq] at q
    exact q
end
end MC
namespace MC
open PySem PySem.Spec PyProof.Rows L2
section
variable {P : Program} {w : World} {K : PySem.W.Frag} {mg : Str → Option Value} {base : Heap} {CH CM CC CK CA q1 q2 q3 q4 : Addr}
def spBegin (CC CH : Addr) : Sp := fun vs H Q _ => ∃ (H0 : Hp) (a : Addr) (c : Km356.Client) (wv : Option Nat), vs = [.ref a, ownV wv] ∧ ClAt CC CH H0 H a c ∧ c.op + 1 < 2 ^ 32 ∧ ∀ H' : Hp, ClAt CC CH H0 H' a (c.begins wv) → Q .non H'
theorem scBegin : FnScope ["self", "value"] ["self", "value"] (defScope sBegin) := ⟨rfl, rfl, rfl, by decide +kernel, rfl, by decide +kernel, by decide +kernel⟩
theorem cl_short {me n b st : Int} {o : V} {h ad : Addr} : (clF me n b st o h ad).length < 1000 := by
  show 7 < 1000
  decide
theorem ok_begin (D : MethAt K CC "begin" "Client.begin" sBegin ["self", "value"]) (T : Txt K mg CH CM CC CK CA q1 q2 q3 q4) (GNo : DefOk P w K mg base 3 "nothing_held" [] (spNothing CH)) : MethOk P w K mg base 4 CC "begin" ["self", "value"] (spBegin CC CH) := by
  refine D.ok fun f fd F => F.ok scBegin (fun vs H Q E h => ?_) (fun cdv A outer s H vs Q E hr h => ?_)
  · obtain ⟨H0, a, c, wv, rfl, _⟩ := h
    rfl
  · obtain ⟨H0, a, c, wv, rfl, ⟨s0, n0, ad, nad, ⟨dx, hd, kvs, ha, hh, hk, hg⟩, ok⟩, hop, k⟩ := h
    refine ⟨_, pss_cons (ps_fldaug (pv 0) pe_int in_add) (pss_cons (ps_fld (pv 0) (pe_gi rfl T.gASKING) rfl) (pss_cons (ps_fld (pv 0) (pv 1) rfl) (pss_cons (ps_fld (pv 0) (pe_f0 GNo hr rfl) rfl) (pss_one (ps_fld (pv 0) pe_dnewK rfl))))), ?_⟩
    refine ⟨_, rfl, a, CC, dx, _, _, rfl, ha, T.lC, T.cBegun, clF_begun _ _ _ _ _ _ _, _, _, rfl, rfl, dx, _, ha, cl_short, ?_⟩
    rw [clF_put_begun]
    refine ⟨_, rfl, a, CC, dx, _, rfl, upd_same, T.lC, T.cStands, cl_short, ?_⟩
    rw [clF_put_stands, upd_upd]
    refine ⟨_, rfl, _, rfl, a, CC, dx, _, rfl, upd_same, T.lC, T.cOwn, cl_short, ?_⟩
    rw [clF_put_own, upd_upd]
    refine ⟨rfl, fun H1 hn s1 n1 e1 => ?_⟩
    have ha1 := s1 _ _ upd_same
    refine ⟨_, rfl, a, CC, dx, _, rfl, ha1, T.lC, T.cHeld, cl_short, fun ad2 nad2 => ?_⟩
    rw [clF_put_held] at nad2 ⊢
    have naa : a ≠ ad2 := ne_of_none (H := upd H1 a _) upd_same nad2
    have nad1 : H1 ad2 = none := by
      rw [upd_ne naa.symm] at nad2
      exact nad2
    refine ⟨_, rfl, a, CC, dx, _, rfl, (upd_ne naa).trans upd_same, T.lC, T.cAnswered, cl_short, ?_⟩
    rw [clF_put_answered]
    have nha : hn ≠ a := held_ne e1 ha1 (by show 3 ≠ 7; decide)
    obtain ⟨dh, eh⟩ := id e1
    have nhd : hn ≠ ad2 := ne_of_none eh nad1
    have s01 : Same H0 H1 := (same_upd s0 n0).trans s1
    have nad0 : H0 ad2 = none := s01.free nad1
    refine k _ ⟨fun b o e => ?_, n0, ad2, nad0, ⟨dx, hn, [], ?_, ((e1.upd nha).upd nhd).upd nha, ?_, fun _ => GotR.none⟩, ⟨hop, by show 0 < 2 ^ 32; decide, ok.kp, Nat.le_of_ble_eq_true rfl⟩⟩
    · rw [upd_ne (ne_of_none e n0), upd_ne (ne_of_none e nad0), upd_ne (ne_of_none e n0)]
      exact s01 _ _ e
    · rw [upd_same]
      rfl
    · rw [upd_ne naa.symm, upd_same]
def spQuestion (CC CM CH : Addr) : Sp := fun vs H Q _ => ∃ (a ad : Addr) (c : Km356.Client), vs = [.ref a] ∧ ClRaw CC CH H a ad c ∧ ∀ (H' : Hp) (p : Addr), Same H H' → MsgAt CM CH H' p c.says → Q (.ref p) H'
theorem scQuestion : FnScope ["self"] ["self"] (defScope sQuestion) := ⟨rfl, rfl, rfl, by decide +kernel, rfl, by decide +kernel, by decide +kernel⟩
theorem says_ask {c : Km356.Client} (h : c.phase = 1) : c.says = ⟨1, c.me, 0, c.op, Km356.nothing⟩ := by
  unfold Km356.Client.says
  rw [if_pos h, if_pos h]
theorem says_hold {c : Km356.Client} (h : ¬ c.phase = 1) : c.says = ⟨3, c.me, 0, c.op, c.best⟩ := by
  unfold Km356.Client.says
  rw [if_neg h, if_neg h]
theorem dec_nat_t {a b : Nat} (h : decide (V.int (a : Int) = V.int (b : Int)) = true) : a = b := by
  rw [int_eq_nat] at h
  exact of_decide_eq_true h
theorem dec_nat_f {a b : Nat} (h : decide (V.int (a : Int) = V.int (b : Int)) = false) : ¬ a = b := by
  rw [int_eq_nat] at h
  exact of_decide_eq_false h
theorem ok_question (D : MethAt K CC "question" "Client.question" sQuestion ["self"]) (T : Txt K mg CH CM CC CK CA q1 q2 q3 q4) (GNo : DefOk P w K mg base 3 "nothing_held" [] (spNothing CH))
    (GM : InitOk P w K mg base 1 CM ["self", "kind", "client", "keeper", "operation", "held"] (spMsgInit CM)) : MethOk P w K mg base 4 CC "question" ["self"] (spQuestion CC CM CH) := by
  refine D.ok fun f fd F => F.ok scQuestion (fun vs H Q E h => ?_) (fun cdv A outer s H vs Q E hr h => ?_)
  · obtain ⟨a, ad, c, rfl, _⟩ := h
    rfl
  · obtain ⟨a, ad, c, rfl, ⟨⟨dx, hd, kvs, ha, hh, hk, hg⟩, ok⟩, k⟩ := h
    have hr2 : Room 2 _ := hr.mono (by decide)
    refine ⟨_, pss_cons (ps_if (pt_cmpR op_eq (pe_fld (pv 0) rfl) (pe_gi rfl T.gASKING) (nomark _)) (pss_one (ps_ret (pe_c GM hr2 rfl T.cM (pa_cons (pe_gi rfl T.gASK) (pa_cons (pe_fld (pv 0) rfl) (pa_cons pe_int (pa_cons (pe_fld (pv 0) rfl) (pa_cons (pe_f0 GNo hr rfl) pa_nil)))))))) pss_nil)
      (pss_one (ps_ret (pe_c GM hr2 rfl T.cM (pa_cons (pe_gi rfl T.gHOLD) (pa_cons (pe_fld (pv 0) rfl) (pa_cons pe_int (pa_cons (pe_fld (pv 0) rfl) (pa_cons (pe_fld (pv 0) rfl) pa_nil)))))))), ?_⟩
    refine ifP (tTest_of (gEq (gFld (gVar rfl) ha T.lC T.cStands (clF_stands _ _ _ _ _ _ _)) gC rfl)) (fun q => ?_) (fun q => ?_)
    · have q' : c.phase = 1 := dec_nat_t (b := 1) q
      rw [says_ask q'] at k
      refine ⟨_, rfl, a, CC, dx, _, _, rfl, ha, T.lC, T.cMe, clF_me _ _ _ _ _ _ _, _, rfl, a, CC, dx, _, _, rfl, ha, T.lC, T.cBegun, clF_begun _ _ _ _ _ _ _, rfl, fun H1 hn s1 n1 e1 => ?_⟩
      intro x dy nx ny ne
      refine ⟨x, dy, hn, _, _, _, _, rfl, upd_same, fun H2 e2 kp2 => ⟨rfl, ?_⟩⟩
      have s2 := made_same nx ny kp2
      exact k H2 x (s1.trans s2) ⟨dy, hn, e2, e1.same s2⟩
    · have q' : ¬ c.phase = 1 := dec_nat_f (b := 1) q
      rw [says_hold q'] at k
      refine nxt ?_
      refine ⟨_, rfl, a, CC, dx, _, _, rfl, ha, T.lC, T.cMe, clF_me _ _ _ _ _ _ _, _, rfl, a, CC, dx, _, _, rfl, ha, T.lC, T.cBegun, clF_begun _ _ _ _ _ _ _, _, rfl, a, CC, dx, _, _, rfl, ha, T.lC, T.cHeld, clF_held _ _ _ _ _ _ _, fun x dy nx ny ne => ?_⟩
      refine ⟨x, dy, hd, _, _, _, _, rfl, upd_same, fun H2 e2 kp2 => ⟨rfl, ?_⟩⟩
      have s2 := made_same nx ny kp2
      exact k H2 x s2 ⟨dy, hd, e2, hh.same s2⟩
def spIsAnswer (CC CM CH : Addr) : Sp := fun vs H Q _ => ∃ (a ad : Addr) (c : Km356.Client) (mp : Addr) (m : Km356.Message), vs = [.ref a, .ref mp] ∧ ClRaw CC CH H a ad c ∧ MsgAt CM CH H mp m ∧ ∀ H' : Hp, Same H H' → Q (.bl (c.wants m)) H'
theorem scIsAnswer : FnScope ["self", "message"] ["self", "message"] (defScope sIsAnswer) := ⟨rfl, rfl, rfl, by decide +kernel, rfl, by decide +kernel, by decide +kernel⟩
/-- what is_answer looks at, in its order -/
theorem wants_eq (c : Km356.Client) (m : Km356.Message) : c.wants m = if (!c.goes || (!decide (m.client = c.me) || !decide (m.op = c.op))) = true then false else
    if (!decide (m.kind = if c.phase = 2 then 4 else 2)) = true then false else (decide (m.keeper < c.keepers) && !(c.got.getD m.keeper false)) := by
  unfold Km356.Client.wants Km356.Client.goes
  have e1 : (m.client == c.me) = decide (m.client = c.me) := rfl
  have e2 : (m.op == c.op) = decide (m.op = c.op) := rfl
  rw [e1, e2]
  generalize decide (m.client = c.me) = b1
  generalize decide (m.op = c.op) = b2
  generalize decide (m.keeper < c.keepers) = b3
  generalize c.got.getD m.keeper false = b4
  by_cases h1 : c.phase = 1
  · rw [h1]
    by_cases h2 : m.kind = 2
    · rw [h2]
      cases b1 <;> cases b2 <;> cases b3 <;> cases b4 <;> rfl
    · have e3 : (m.kind == 2) = false := by simpa using h2
      have e4 : decide (m.kind = if (1 : Nat) = 2 then 4 else 2) = false := by rw [if_neg (by decide)]; exact decide_eq_false h2
      rw [e3, e4]
      cases b1 <;> cases b2 <;> cases b3 <;> cases b4 <;> rfl
  · have e5 : (c.phase == 1) = false := by simpa using h1
    rw [e5]
    by_cases h3 : c.phase = 2
    · rw [h3]
      by_cases h2 : m.kind = 4
      · rw [h2]
        cases b1 <;> cases b2 <;> cases b3 <;> cases b4 <;> rfl
      · have e3 : (m.kind == 4) = false := by simpa using h2
        have e4 : decide (m.kind = if (2 : Nat) = 2 then 4 else 2) = false := by rw [if_pos rfl]; exact decide_eq_false h2
        rw [e3, e4]
        cases b1 <;> cases b2 <;> cases b3 <;> cases b4 <;> rfl
    · have e6 : (c.phase == 2) = false := by simpa using h3
      rw [e6]
      cases b1 <;> cases b2 <;> cases b3 <;> cases b4 <;> rfl
theorem ok_isAnswer (D : MethAt K CC "is_answer" "Client.is_answer" sIsAnswer ["self", "message"]) (T : Txt K mg CH CM CC CK CA q1 q2 q3 q4) (GG : MethOk P w K mg base 1 CC "goes_on" ["self"] (spGoesOn CC CH)) :
    MethOk P w K mg base 2 CC "is_answer" ["self", "message"] (spIsAnswer CC CM CH) := by
  refine D.ok fun f fd F => F.ok scIsAnswer (fun vs H Q E h => ?_) (fun cdv A outer s H vs Q E hr h => ?_)
  · obtain ⟨a, ad, c, mp, m, rfl, _⟩ := h
    rfl
  · obtain ⟨a, ad, c, mp, m, rfl, hc, hm, k⟩ := h
    obtain ⟨⟨dx, hd, kvs, ha, hh, hk, hg⟩, ok⟩ := id hc
    obtain ⟨dm, hdm, hM, hhm⟩ := id hm
    refine ⟨_, pss_cons (ps_if (PW.pt (pw_or (pt_not (pt_val (pe_m0 (pv 0) T.lC GG hr))) (pw_or (pt_cmpR op_ne (pe_fld (pv 1) rfl) (pe_fld (pv 0) rfl) (nomark _)) (pw_or1 (pt_cmpR op_ne (pe_fld (pv 1) rfl) (pe_fld (pv 0) rfl) (nomark _)))))) (pss_one (ps_ret pe_bl)) pss_nil)
      (pss_cons (ps_if (pt_cmpR op_ne (pe_fld (pv 1) rfl) (pe_ix ix_tup (pe_tup (pa_cons (pe_gi rfl T.gTELL) (pa_cons (pe_gi rfl T.gIS) pa_nil))) (pe_callTy call_int1 (by rfl) T.int (by decide +kernel) (pa_cons (pe_cmpR op_eq (pe_fld (pv 0) rfl) (pe_gi rfl T.gHOLDING) (nomark _)) pa_nil)) (fun _ _ => rfl)) (nomark _)) (pss_one (ps_ret pe_bl)) pss_nil)
      (pss_one (ps_ret (pe_and (pe_cmpR op_lt (pe_fld (pv 1) rfl) (pe_fld (pv 0) rfl) (nomark _)) (pe_one (pe_cmp (pc_dnotin (hu_of hr) (pe_fld (pv 1) rfl) (pe_fld (pv 0) rfl)))))))), ?_⟩
    rw [wants_eq] at k
    have e1 : ∀ x y : Nat, (!decide (V.int (x : Int) = V.int (y : Int))) = !decide (x = y) := fun x y => by rw [int_eq_nat]
    refine ifS (a := (!c.goes || (!decide (m.client = c.me) || !decide (m.op = c.op)))) (sOr_of (sNot_of (sB_of (sMeth (v := .bl c.goes) (gVar rfl) ha (clF_m_goes_on _ _ _ _ _ _ _) aNil fun Q q => ⟨a, ad, c, rfl, hc, q⟩))) fun H1 s1 => ?_) (fun q H1 s1 => ?_) (fun q H1 s1 => ?_)
    · rw [← e1, ← e1]
      exact (tOr_of (tTest_of (gNe (gFld (gVar rfl) (s1 _ _ hM) T.lM T.mClient (msgF_client _ _ _ _ _)) (gFld (gVar rfl) (s1 _ _ ha) T.lC T.cMe (clF_me _ _ _ _ _ _ _)) rfl)) (tTest_of (gNe (gFld (gVar rfl) (s1 _ _ hM) T.lM T.mOp (msgF_op _ _ _ _ _)) (gFld (gVar rfl) (s1 _ _ ha) T.lC T.cBegun (clF_begun _ _ _ _ _ _ _)) rfl))).S
    · rw [if_pos q] at k
      exact k H1 s1
    · have hgo : c.goes = true := by
        cases z : c.goes
        · rw [z] at q
          cases q
        · rfl
      have hgot := hg hgo
      rw [q, if_neg Bool.false_ne_true] at k
      refine nxt ?_
      refine ⟨_, rfl, mp, CM, dm, _, _, rfl, s1 _ _ hM, T.lM, T.mKind, msgF_kind _ _ _ _ _, (by show 2 ≤ sizeLine; decide), fun t nt => ?_⟩
      have s2 : Same H1 (upd H1 t (.tup (([2, 4] : List Int).map V.int))) := Same.add nt
      have s3 := s1.trans s2
      refine ⟨_, rfl, a, CC, dx, _, _, rfl, s3 _ _ ha, T.lC, T.cStands, clF_stands _ _ _ _ _ _ _, rfl, .inr ⟨_, rfl, ?_⟩⟩
      have e2 : decide (V.int (c.phase : Int) = V.int 2) = decide (c.phase = 2) := int_eq_nat c.phase 2
      have e3 : atI (([2, 4] : List Int).map V.int) (if decide (V.int (c.phase : Int) = V.int 2) = true then 1 else 0) = some (.int ((if c.phase = 2 then 4 else 2 : Nat) : Int)) := by
        rw [e2]
        by_cases z : c.phase = 2
        · rw [if_pos z, if_pos (decide_eq_true z)]
          rfl
        · rw [if_neg z, if_neg (by rw [decide_eq_false z]; exact Bool.false_ne_true)]
          rfl
      refine ⟨t, _, _, _, rfl, rfl, SqT.of upd_same, e3, rfl, _, rfl, ?_⟩
      rw [e1]
      refine if_dec (fun z => ?_) (fun z => ?_)
      · rw [if_pos z] at k
        exact k _ s3
      · rw [z, if_neg Bool.false_ne_true] at k
        refine nxt ?_
        have q := k _ s3
        have e4 : decide ((m.keeper : Int) < (c.keepers : Int)) = decide (m.keeper < c.keepers) := lt_nat _ _
        rw [← e4, ← hgot.has] at q
        refine retP (gAndV (gOp0 (gFld (gVar rfl) (s3 _ _ hM) T.lM T.mKeeper (msgF_keeper _ _ _ _ _)) (gFld (gVar rfl) (s3 _ _ ha) T.lC T.cKeepers (clF_keepers _ _ _ _ _ _ _))) ?_) q
        intro Q2 q2
        exact ⟨_, rfl, mp, CM, dm, _, _, rfl, s3 _ _ hM, T.lM, T.mKeeper, msgF_keeper _ _ _ _ _, _, rfl, a, CC, dx, _, _, rfl, s3 _ _ ha, T.lC, T.cAnswered, clF_answered _ _ _ _ _ _ _, ad, _, rfl, DGet.k (k := Sum.inl (m.keeper : Int)) (s3 _ _ hk), q2⟩
end
end MC
namespace MC
open PySem PySem.Spec PyProof.Rows L2
/-! ### how an operation goes on, as the specification has it -/
def goOn (c : Km356.Client) : Km356.Client := if c.phase = 1 then c.turns else { c with phase := 3 }
def heard (c : Km356.Client) (m : Km356.Message) : Km356.Client := { c with got := c.got.set m.keeper true, best := if c.phase = 1 then Km356.later c.best m.held else c.best }
theorem hears_eq (c : Km356.Client) (m : Km356.Message) : c.hears m = if Km356.most c.keepers (c.got.set m.keeper true) = true then goOn (heard c m) else heard c m := rfl
theorem goOn_hold {c : Km356.Client} (h : c.phase = 2) : goOn c = { c with phase := 3 } := if_neg (by omega)
theorem goOn_read {c : Km356.Client} (h : c.phase = 1) (h2 : c.writes = none) : goOn c = { c with phase := 2, got := Km356.noOne } := by
  unfold goOn
  rw [if_pos h]
  unfold Km356.Client.turns
  rw [h2]
theorem goOn_fail {c : Km356.Client} {v : Nat} (h : c.phase = 1) (h2 : c.writes = some v) (h3 : 2 ^ 32 ≤ c.best.stamp.number + 1) : goOn c = { c with phase := 4 } := by
  unfold goOn
  rw [if_pos h]
  unfold Km356.Client.turns
  rw [h2]
  exact if_pos h3
theorem goOn_write {c : Km356.Client} {v : Nat} (h : c.phase = 1) (h2 : c.writes = some v) (h3 : ¬ 2 ^ 32 ≤ c.best.stamp.number + 1) : goOn c = { c with phase := 2, got := Km356.noOne, best := ⟨⟨c.best.stamp.number + 1, c.me⟩, v⟩ } := by
  unfold goOn
  rw [if_pos h]
  unfold Km356.Client.turns
  rw [h2]
  exact if_neg h3
theorem wants_facts {c : Km356.Client} {m : Km356.Message} (h : c.wants m = true) : c.goes = true ∧ m.keeper < c.keepers ∧ c.got.getD m.keeper false = false := by
  rw [wants_eq] at h
  by_cases q : (!c.goes || (!decide (m.client = c.me) || !decide (m.op = c.op))) = true
  · rw [if_pos q] at h
    cases h
  · rw [if_neg q] at h
    by_cases q2 : (!decide (m.kind = if c.phase = 2 then 4 else 2)) = true
    · rw [if_pos q2] at h
      cases h
    · rw [if_neg q2, Bool.and_eq_true] at h
      refine ⟨?_, of_decide_eq_true h.1, ?_⟩
      · cases z : c.goes
        · rw [z] at q
          exact absurd rfl q
        · rfl
      · have z := h.2
        revert z
        cases c.got.getD m.keeper false
        · exact fun _ => rfl
        · exact fun z => by cases z
theorem goes_phase {c : Km356.Client} (h : c.goes = true) : c.phase = 1 ∨ c.phase = 2 := by
  unfold Km356.Client.goes at h
  simpa using h
theorem goes_of {c : Km356.Client} (h : c.phase = 1 ∨ c.phase = 2) : c.goes = true := by
  unfold Km356.Client.goes
  simpa using h
section
variable {P : Program} {w : World} {K : PySem.W.Frag} {mg : Str → Option Value} {base : Heap} {CH CM CC CK CA q1 q2 q3 q4 : Addr}
theorem gNotN {σ : L2.St} {H : Hp} {ta : TE} {v : V} (h : Gives ta σ H v) : Gives (tNotN ta) σ H (.bl (!decide (v = .non))) := fun _ q => h _ q
theorem tAnd_left {σ : L2.St} {H : Hp} {tA tB' : TT} (h : Tells tA σ H false) : Tells (tAnd tA tB') σ H false := fun _ q => h _ (iteF q)
theorem tAnd_right {σ : L2.St} {H : Hp} {tA tB' : TT} {b : Bool} (h : Tells tA σ H true) (h2 : Tells tB' σ H b) : Tells (tAnd tA tB') σ H b := fun _ q => h _ (iteT (h2 _ q))
/-- two stamps compared -/
theorem sStamps {σ : L2.St} {H : Hp} {ta tb : TE} {x y : Addr} {h h' : Km356.Held} (h1 : ∀ H' : Hp, Same H H' → Gives ta σ H' (.ref x)) (h2 : ∀ H' : Hp, Same H H' → Gives tb σ H' (.ref y)) (hx : HeldAt CH H x h) (hy : HeldAt CH H y h') :
    TellsS (tTest (tOp (rGtT K) (tMeth CH "stamp" (spStamp CH) [] E0 ta tNil) (tMeth CH "stamp" (spStamp CH) [] E0 tb tNil))) σ H (h'.stamp.less h.stamp) := by
  intro Q q
  obtain ⟨dx, ex⟩ := id hx
  obtain ⟨dy, ey⟩ := id hy
  refine h1 H (Same.refl H) _ ⟨x, dx, _, rfl, ex, heldF_stamp _, x, h, rfl, hx, fun t1 n1 => ?_⟩
  have s1 : Same H (upd H t1 (.tup (([(h.stamp.number : Int), (h.stamp.client : Int)] : List Int).map V.int))) := Same.add n1
  refine h2 _ s1 _ ⟨y, dy, _, rfl, s1 _ _ ey, heldF_stamp _, y, h', rfl, hy.same s1, fun t2 n2 => ?_⟩
  have s2 := Same.add (o := .tup (([(h'.stamp.number : Int), (h'.stamp.client : Int)] : List Int).map V.int)) n2
  refine ⟨t1, t2, [(h.stamp.number : Int), (h.stamp.client : Int)], [(h'.stamp.number : Int), (h'.stamp.client : Int)], rfl, rfl, SqT.of (s2 _ _ upd_same), SqT.of upd_same, _, rfl, ?_⟩
  rw [lex_stamp]
  exact q _ (s1.trans s2)
def spGoOn (CC CH : Addr) : Sp := fun vs H Q _ => ∃ (H0 : Hp) (a : Addr) (c : Km356.Client), vs = [.ref a] ∧ ClAt CC CH H0 H a c ∧ (c.phase = 1 ∨ c.phase = 2) ∧ ∀ H' : Hp, ClAt CC CH H0 H' a (goOn c) → Q .non H'
theorem scGoOn : FnScope ["self"] ["self"] (defScope sGoOn) := ⟨rfl, rfl, rfl, by decide +kernel, rfl, by decide +kernel, by decide +kernel⟩
theorem ok_goOn (D : MethAt K CC "go_on" "Client.go_on" sGoOn ["self"]) (T : Txt K mg CH CM CC CK CA q1 q2 q3 q4) (GH : InitOk P w K mg base 1 CH ["self", "number", "client", "value"] (spHeldInit CH)) : MethOk P w K mg base 3 CC "go_on" ["self"] (spGoOn CC CH) := by
  refine D.ok fun f fd F => F.ok scGoOn (fun vs H Q E h => ?_) (fun cdv A outer s H vs Q E hr h => ?_)
  · obtain ⟨H0, a, c, rfl, _⟩ := h
    rfl
  · obtain ⟨H0, a, c, rfl, ⟨s0, n0, ad, nad, ⟨dx, hd, kvs, ha, hh, hk, hg⟩, ok⟩, hp, k⟩ := h
    refine ⟨_, pss_cons (ps_fld (pv 0) pe_dnewK rfl)
      (pss_one (ps_if (pt_cmpR op_eq (pe_fld (pv 0) rfl) (pe_gi rfl T.gHOLDING) (nomark _)) (pss_one (ps_fld (pv 0) (pe_gi rfl T.gDONE) rfl))
        (pss_one (ps_if (PW.pt (pw_and (pt_cmp (pc_notN (pe_fld (pv 0) rfl))) (pw_and1 (pt_cmpR op_eq (pe_fld (pe_fld (pv 0) rfl) rfl) (pe_gi rfl T.gMN) (nomark _))))) (pss_one (ps_fld (pv 0) (pe_gi rfl T.gFAILED) rfl))
          (pss_cons (ps_fld (pv 0) (pe_gi rfl T.gHOLDING) rfl) (pss_one (ps_if (pt_cmp (pc_notN (pe_fld (pv 0) rfl))) (pss_one (ps_fld (pv 0) (pe_c GH hr rfl T.cH (pa_cons (pe_op op_add (pe_fld (pe_fld (pv 0) rfl) rfl) pe_int) (pa_cons (pe_fld (pv 0) rfl) (pa_cons (pe_fld (pv 0) rfl) pa_nil)))) rfl)) pss_nil))))))), ?_⟩
    refine fun ad2 nad2 => ?_
    have n2H : a ≠ ad2 := ne_of_none ha nad2
    refine ⟨_, rfl, a, CC, dx, _, rfl, (upd_ne n2H).trans ha, T.lC, T.cAnswered, cl_short, ?_⟩
    rw [clF_put_answered]
    -- the heap behind the first statement
    have nad0 : H0 ad2 = none := s0.free nad2
    have sA : Same H0 (upd (upd H ad2 (.dK [])) a (.ins CC dx (clF c.me c.keepers c.op c.phase (ownV c.writes) hd ad2))) := same_upd (same_upd s0 nad0) n0
    have hdn : hd ≠ a := held_ne hh ha (by show 3 ≠ 7; decide)
    obtain ⟨dh, eh⟩ := id hh
    have hdn2 : hd ≠ ad2 := ne_of_none eh nad2
    have hhA : HeldAt CH (upd (upd H ad2 (.dK [])) a (.ins CC dx (clF c.me c.keepers c.op c.phase (ownV c.writes) hd ad2))) hd c.best := (hh.upd hdn2).upd hdn
    have hkA : (upd (upd H ad2 (.dK [])) a (.ins CC dx (clF c.me c.keepers c.op c.phase (ownV c.writes) hd ad2))) ad2 = some (.dK []) := by rw [upd_ne n2H.symm, upd_same]
    have haA : (upd (upd H ad2 (.dK [])) a (.ins CC dx (clF c.me c.keepers c.op c.phase (ownV c.writes) hd ad2))) a = some (.ins CC dx (clF c.me c.keepers c.op c.phase (ownV c.writes) hd ad2)) := upd_same
    generalize (upd (upd H ad2 (.dK [])) a (.ins CC dx (clF c.me c.keepers c.op c.phase (ownV c.writes) hd ad2))) = HA at *
    obtain ⟨dhA, ehA⟩ := id hhA
    refine ifP (tTest_of (gEq (gFld (gVar rfl) haA T.lC T.cStands (clF_stands _ _ _ _ _ _ _)) gC rfl)) (fun q => ?_) (fun q => ?_)
    · have q' : c.phase = 2 := dec_nat_t (b := 2) q
      rw [goOn_hold q'] at k
      refine ⟨_, rfl, a, CC, dx, _, rfl, haA, T.lC, T.cStands, cl_short, ?_⟩
      rw [clF_put_stands]
      exact k _ ⟨same_upd sA n0, n0, ad2, nad0, ⟨dx, hd, [], upd_same, hhA.upd hdn, (upd_ne n2H.symm).trans hkA, fun z => by cases z⟩, ⟨ok.op, ok.num, ok.kp, Nat.le_of_ble_eq_true rfl⟩⟩
    · have q' : ¬ c.phase = 2 := dec_nat_f (b := 2) q
      have p1 : c.phase = 1 := hp.resolve_right q'
      have gO : Gives (tFld K (tVar 0) "own") [some (.ref a)] HA (ownV c.writes) := gFld (gVar rfl) haA T.lC T.cOwn (clF_own _ _ _ _ _ _ _)
      have gN : Gives (tFld K (tFld K (tVar 0) "held") "number") [some (.ref a)] HA (.int c.best.stamp.number) := gFld (gFld (gVar rfl) haA T.lC T.cHeld (clF_held _ _ _ _ _ _ _)) ehA T.lH T.hNumber (heldF_number _)
      cases hw : c.writes with
      | none =>
        rw [hw] at gO
        rw [goOn_read p1 hw] at k
        refine ifP (tAnd_left (tB_of (gNotN gO))) (fun z => by cases z) (fun _ => ?_)
        refine ⟨_, rfl, a, CC, dx, _, rfl, haA, T.lC, T.cStands, cl_short, ?_⟩
        rw [clF_put_stands]
        have haB : (upd HA a (.ins CC dx (clF c.me c.keepers c.op 2 (ownV c.writes) hd ad2))) a = some (.ins CC dx (clF c.me c.keepers c.op 2 (ownV c.writes) hd ad2)) := upd_same
        have gO2 : Gives (tFld K (tVar 0) "own") [some (.ref a)] (upd HA a (.ins CC dx (clF c.me c.keepers c.op 2 (ownV c.writes) hd ad2))) (ownV c.writes) := gFld (gVar rfl) haB T.lC T.cOwn (clF_own _ _ _ _ _ _ _)
        rw [hw] at gO2
        rw [hw]
        refine ifP (tB_of (gNotN gO2)) (fun z => by cases z) (fun _ => ?_)
        refine k _ ⟨same_upd sA n0, n0, ad2, nad0, ⟨dx, hd, [], ?_, hhA.upd hdn, (upd_ne n2H.symm).trans hkA, fun _ => GotR.none⟩, ⟨ok.op, ok.num, ok.kp, Nat.le_of_ble_eq_true rfl⟩⟩
        rw [upd_same]
        show _ = some (HO.ins CC dx (clF c.me c.keepers c.op 2 (ownV c.writes) hd ad2))
        rw [hw]
      | some v =>
        rw [hw] at gO
        have e1 : decide (V.int (c.best.stamp.number : Int) = V.int 4294967295) = decide (c.best.stamp.number = 4294967295) := int_eq_nat _ 4294967295
        have gT : Tells (tTest (tOp rEq (tFld K (tFld K (tVar 0) "held") "number") (tC (.int 4294967295)))) [some (.ref a)] HA (decide (c.best.stamp.number = 4294967295)) := by
          rw [← e1]
          exact tTest_of (gEq gN gC rfl)
        refine ifP (tAnd_right (tB_of (gNotN gO)) gT) (fun z => ?_) (fun z => ?_)
        · have z' : 2 ^ 32 ≤ c.best.stamp.number + 1 := by
            have := of_decide_eq_true z
            omega
          rw [goOn_fail p1 hw z'] at k
          refine ⟨_, rfl, a, CC, dx, _, rfl, haA, T.lC, T.cStands, cl_short, ?_⟩
          rw [clF_put_stands]
          exact k _ ⟨same_upd sA n0, n0, ad2, nad0, ⟨dx, hd, [], upd_same, hhA.upd hdn, (upd_ne n2H.symm).trans hkA, fun z => by cases z⟩, ⟨ok.op, ok.num, ok.kp, Nat.le_of_ble_eq_true rfl⟩⟩
        · have z' : ¬ 2 ^ 32 ≤ c.best.stamp.number + 1 := by
            have := of_decide_eq_false z
            have := ok.num
            omega
          rw [goOn_write p1 hw z'] at k
          refine ⟨_, rfl, a, CC, dx, _, rfl, haA, T.lC, T.cStands, cl_short, ?_⟩
          rw [clF_put_stands, hw]
          have haB : (upd HA a (.ins CC dx (clF c.me c.keepers c.op 2 (ownV (some v)) hd ad2))) a = some (.ins CC dx (clF c.me c.keepers c.op 2 (ownV (some v)) hd ad2)) := upd_same
          have hhB := hhA.upd (o := .ins CC dx (clF c.me c.keepers c.op 2 (ownV (some v)) hd ad2)) hdn
          have hkB : (upd HA a (.ins CC dx (clF c.me c.keepers c.op 2 (ownV (some v)) hd ad2))) ad2 = some (.dK []) := (upd_ne n2H.symm).trans hkA
          have sB := same_upd (o := .ins CC dx (clF c.me c.keepers c.op 2 (ownV (some v)) hd ad2)) sA n0
          have e2 : ((2 : Int)) = ((2 : Nat) : Int) := rfl
          generalize (upd HA a (.ins CC dx (clF c.me c.keepers c.op 2 (ownV (some v)) hd ad2))) = HB at *
          obtain ⟨dhB, ehB⟩ := id hhB
          refine ifP (tB_of (gNotN (gFld (gVar rfl) haB T.lC T.cOwn (clF_own _ _ _ _ _ _ _)))) (fun _ => ?_) (fun z => by cases z)
          refine ⟨_, rfl, a, CC, dx, _, _, rfl, haB, T.lC, T.cHeld, clF_held _ _ _ _ _ _ _, hd, CH, dhB, _, _, rfl, ehB, T.lH, T.hNumber, heldF_number _, _, _, rfl, rfl, _, rfl, a, CC, dx, _, _, rfl, haB, T.lC, T.cMe, clF_me _ _ _ _ _ _ _, _, rfl, a, CC, dx, _, _, rfl, haB, T.lC, T.cOwn, clF_own _ _ _ _ _ _ _, fun x dy nx ny ne => ?_⟩
          refine ⟨x, dy, ⟨⟨c.best.stamp.number + 1, c.me⟩, v⟩, rfl, upd_same, fun HC eC kpC => ⟨rfl, ?_⟩⟩
          have sC := made_same nx ny kpC
          have haC := sC _ _ haB
          refine ⟨_, rfl, a, CC, dx, _, rfl, haC, T.lC, T.cHeld, cl_short, ?_⟩
          rw [clF_put_held]
          have hxC : HeldAt CH HC x ⟨⟨c.best.stamp.number + 1, c.me⟩, v⟩ := ⟨dy, eC⟩
          refine k _ ⟨same_upd (sB.trans sC) n0, n0, ad2, nad0, ⟨dx, x, [], ?_, hxC.upd (held_ne hxC haC (by show 3 ≠ 7; decide)), (upd_ne n2H.symm).trans (sC _ _ hkB), fun _ => GotR.none⟩, ⟨ok.op, by show c.best.stamp.number + 1 < 2 ^ 32; omega, ok.kp, Nat.le_of_ble_eq_true rfl⟩⟩
          rw [upd_same]
          show _ = some (HO.ins CC dx (clF c.me c.keepers c.op 2 (ownV c.writes) x ad2))
          rw [hw]
end
end MC
namespace MC
open PySem PySem.Spec PyProof.Rows L2
section
variable {P : Program} {w : World} {K : PySem.W.Frag} {mg : Str → Option Value} {base : Heap} {CH CM CC CK CA q1 q2 q3 q4 : Addr}
theorem nxp {f : L2.St → Hp → Prop} {rt : VK} {bk ct : L2.St → Hp → Prop} {σ : L2.St} {H : Hp} (h : f σ H) : Ends.nx ⟨f, rt, bk, ct⟩ σ H := h
def spClHear (CC CM CH : Addr) : Sp := fun vs H Q _ => ∃ (H0 : Hp) (a : Addr) (c : Km356.Client) (mp : Addr) (m : Km356.Message), vs = [.ref a, .ref mp] ∧ ClAt CC CH H0 H a c ∧ MsgAt CM CH H0 mp m ∧ c.wants m = true ∧ m.held.stamp.number < 2 ^ 32 ∧
  ∀ H' : Hp, ClAt CC CH H0 H' a (c.hears m) → Q .non H'
theorem scClHear : FnScope ["self", "message"] ["self", "message"] (defScope sClHear) := ⟨rfl, rfl, rfl, by decide +kernel, rfl, by decide +kernel, by decide +kernel⟩
theorem most_eq (n : Nat) (g : List Bool) (k : Nat) (h : k = (g.filter fun b => b).length) : decide ((n : Int) < 2 * (k : Int)) = Km356.most n g := by
  unfold Km356.most
  rw [decide_eq_decide, h]
  omega
theorem ok_clHear (D : MethAt K CC "hear" "Client.hear" sClHear ["self", "message"]) (T : Txt K mg CH CM CC CK CA q1 q2 q3 q4) (GS : MethOk P w K mg base 1 CH "stamp" ["self"] (spStamp CH)) (GG : MethOk P w K mg base 3 CC "go_on" ["self"] (spGoOn CC CH)) :
    MethOk P w K mg base 4 CC "hear" ["self", "message"] (spClHear CC CM CH) := by
  refine D.ok fun f fd F => F.ok scClHear (fun vs H Q E h => ?_) (fun cdv A outer s H vs Q E hr h => ?_)
  · obtain ⟨H0, a, c, mp, m, rfl, _⟩ := h
    rfl
  · obtain ⟨H0, a, c, mp, m, rfl, ⟨s0, n0, ad, nad, ⟨dx, hd, kvs, ha, hh, hk, hg⟩, ok⟩, hm0, hw, hnum, k⟩ := h
    obtain ⟨hgo, hkp, hnot⟩ := wants_facts hw
    have hgot := hg hgo
    have hk15 : m.keeper < 15 := Nat.lt_of_lt_of_le hkp ok.kp
    have hgot' := hgot.put hk15 hnot (.bl true)
    have hr1 : Room 1 _ := hr.mono (by decide)
    refine ⟨_, pss_cons (ps_dput (hu_of hr) (pe_fld (pv 0) rfl) (pe_fld (pv 1) rfl) pe_bl rfl)
      (pss_cons (ps_if (PW.pt (pw_and (pt_cmpR op_eq (pe_fld (pv 0) rfl) (pe_gi rfl T.gASKING) (nomark _)) (pw_and1 (pt_cmpR (op_gtT hr.units0) (pe_m0 (pe_fld (pv 1) rfl) T.lH GS hr1) (pe_m0 (pe_fld (pv 0) rfl) T.lH GS hr1) (nomark _))))) (pss_one (ps_fld (pv 0) (pe_fld (pv 1) rfl) rfl)) pss_nil)
      (pss_one (ps_if (pt_cmpR op_gt (pe_op op_mul pe_int (pe_callB call_lenD (by rfl) T.len PySem.boot_len (pa_cons (pe_fld (pv 0) rfl) pa_nil))) (pe_fld (pv 0) rfl) (nomark _)) (pss_one (ps_expr (pe_m0 (pv 0) T.lC GG hr))) pss_nil))), ?_⟩
    obtain ⟨dm, hdm, hM, hhm⟩ := hm0.same s0
    have hlen : kvs.length < sizeLine := by
      rw [hgot.num]
      have := List.length_filter_le (fun b => b) c.got
      rw [hgot.len] at this
      rw [sizeLine_eq]
      omega
    -- self.answered[message.keeper] = True
    refine ⟨_, rfl, a, CC, dx, _, _, rfl, ha, T.lC, T.cAnswered, clF_answered _ _ _ _ _ _ _, _, rfl, mp, CM, dm, _, _, rfl, hM, T.lM, T.mKeeper, msgF_keeper _ _ _ _ _, ad, _, rfl, DPut.k (k := Sum.inl (m.keeper : Int)) hk hlen, ?_⟩
    have naa : a ≠ ad := ne_of ha hk (by intro z; cases z)
    obtain ⟨dh, eh⟩ := id hh
    have nha : hd ≠ ad := ne_of eh hk (by intro z; cases z)
    have sA : Same H0 (upd H ad (.dK (putK kvs (Sum.inl (m.keeper : Int)) (.bl true)))) := same_upd s0 nad
    have haA : (upd H ad (.dK (putK kvs (Sum.inl (m.keeper : Int)) (.bl true)))) a = some (.ins CC dx (clF c.me c.keepers c.op c.phase (ownV c.writes) hd ad)) := (upd_ne naa).trans ha
    have hhA : HeldAt CH (upd H ad (.dK (putK kvs (Sum.inl (m.keeper : Int)) (.bl true)))) hd c.best := hh.upd nha
    have hkA : (upd H ad (.dK (putK kvs (Sum.inl (m.keeper : Int)) (.bl true)))) ad = some (.dK (putK kvs (Sum.inl (m.keeper : Int)) (.bl true))) := upd_same
    generalize (upd H ad (.dK (putK kvs (Sum.inl (m.keeper : Int)) (.bl true)))) = HA at *
    obtain ⟨dmA, hdmA, hMA, hhmA⟩ := hm0.same sA
    -- what is left behind the second statement
    have fin : ∀ HB : Hp, Same H0 HB → (∃ hd', HB a = some (.ins CC dx (clF c.me c.keepers c.op c.phase (ownV c.writes) hd' ad)) ∧ HeldAt CH HB hd' (heard c m).best) → HB ad = some (.dK (putK kvs (Sum.inl (m.keeper : Int)) (.bl true))) →
        tIfS (tTest (tOp (rI0 fun i j => .bl (decide (j < i))) (tOp (rI CMul fun i j => .int (i * j)) (tC (.int 2)) (tCB (fun xs H Q => ∃ a kvs, xs = [V.ref a] ∧ H a = some (.dK kvs) ∧ Q (.int kvs.length) H) (tCons (tFld K (tVar 0) "answered") tNil))) (tFld K (tVar 0) "keepers"))) (tDrop (tMeth CC "go_on" (spGoOn CC CH) [] E0 (tVar 0) tNil)) tNext { nx := fun _ H' => Q .non H', rt := Q } [some (.ref a), some (.ref mp)] HB := by
      rintro HB sB ⟨hd', haB, hhB⟩ hkB
      have atB : ClAt CC CH H0 HB a (heard c m) := by
        refine ⟨sB, n0, ad, nad, ⟨dx, hd', _, haB, hhB, hkB, fun _ => hgot'⟩, ⟨ok.op, ?_, ok.kp, ok.ph⟩⟩
        show (if c.phase = 1 then Km356.later c.best m.held else c.best).stamp.number < 2 ^ 32
        unfold Km356.later
        split
        · split
          · exact hnum
          · exact ok.num
        · exact ok.num
      have tst : Tells (tTest (tOp (rI0 fun i j => .bl (decide (j < i))) (tOp (rI CMul fun i j => .int (i * j)) (tC (.int 2)) (tCB (fun xs H Q => ∃ a kvs, xs = [V.ref a] ∧ H a = some (.dK kvs) ∧ Q (.int kvs.length) H) (tCons (tFld K (tVar 0) "answered") tNil))) (tFld K (tVar 0) "keepers"))) [some (.ref a), some (.ref mp)] HB (Km356.most c.keepers (c.got.set m.keeper true)) := by
        rw [← most_eq c.keepers _ _ hgot'.num]
        refine tTest_of (gOp0 (gOpC gC ?_ (.inl ⟨by decide, by decide⟩)) (gFld (gVar rfl) haB T.lC T.cKeepers (clF_keepers _ _ _ _ _ _ _)))
        intro Q2 q2
        exact ⟨_, rfl, a, CC, dx, _, _, rfl, haB, T.lC, T.cAnswered, clF_answered _ _ _ _ _ _ _, ad, _, rfl, hkB, q2⟩
      rw [hears_eq] at k
      refine ifP tst (fun q => ?_) (fun q => ?_)
      · rw [if_pos q] at k
        exact ⟨_, rfl, a, dx, _, rfl, haB, clF_m_go_on _ _ _ _ _ _ _, H0, a, heard c m, rfl, atB, goes_phase hgo, fun H' x => k H' x⟩
      · rw [q, if_neg Bool.false_ne_true] at k
        exact k HB atB
    have e1 : decide (V.int (c.phase : Int) = V.int 1) = decide (c.phase = 1) := int_eq_nat c.phase 1
    refine nxp ?_
    refine ifS (a := (decide (c.phase = 1) && c.best.stamp.less m.held.stamp)) (sAnd_of (by rw [← e1]; exact Tells.S (tTest_of (gEq (gFld (gVar rfl) haA T.lC T.cStands (clF_stands _ _ _ _ _ _ _)) gC rfl))) fun H1 s1 => ?_) (fun q HB sB => ?_) (fun q HB sB => ?_)
    · exact sStamps (fun H' s' => gFld (gVar rfl) (s' _ _ (s1 _ _ hMA)) T.lM T.mHeld (msgF_held _ _ _ _ _)) (fun H' s' => gFld (gVar rfl) (s' _ _ (s1 _ _ haA)) T.lC T.cHeld (clF_held _ _ _ _ _ _ _)) (hhmA.same s1) (hhA.same s1)
    · rw [Bool.and_eq_true] at q
      have p1 : c.phase = 1 := of_decide_eq_true q.1
      have haB := sB _ _ haA
      have hhmB := hhmA.same sB
      refine ⟨_, rfl, mp, CM, dmA, _, _, rfl, sB _ _ hMA, T.lM, T.mHeld, msgF_held _ _ _ _ _, _, rfl, a, CC, dx, _, rfl, haB, T.lC, T.cHeld, cl_short, ?_⟩
      rw [clF_put_held]
      refine fin _ (same_upd (sA.trans sB) n0) ⟨hdmA, upd_same, ?_⟩ ((upd_ne naa.symm).trans (sB _ _ hkA))
      have e : (heard c m).best = m.held := by
        show (if c.phase = 1 then Km356.later c.best m.held else c.best) = m.held
        rw [if_pos p1]
        exact if_pos q.2
      rw [e]
      exact hhmB.upd (held_ne hhmB haB (by show 3 ≠ 7; decide))
    · refine nxt (fin HB (sA.trans sB) ⟨hd, sB _ _ haA, ?_⟩ (sB _ _ hkA))
      have e : (heard c m).best = c.best := by
        show (if c.phase = 1 then Km356.later c.best m.held else c.best) = c.best
        by_cases p1 : c.phase = 1
        · rw [decide_eq_true p1, Bool.true_and] at q
          rw [if_pos p1]
          exact if_neg (by rw [q]; exact Bool.false_ne_true)
        · rw [if_neg p1]
      rw [e]
      exact hhA.same sB
end
end MC
namespace MC
open PySem PySem.Spec PyProof.Rows L2
/-! ### what a client answers, by what the program looks at -/
def beginCall : Option Nat → Km356.Call
  | none => .cRead
  | some v => .cWrite v
theorem begins_does (c : Km356.Client) (wv : Option Nat) : Km356.cDoes c (beginCall wv) = if c.goes = true then (c, Km356.only (-16)) else if 2 ^ 32 ≤ c.op + 1 then (c, Km356.only (-28)) else (c.begins wv, Km356.only 0) := by
  cases wv <;> rfl
theorem says_does (c : Km356.Client) : Km356.cDoes c .cSay = (c, if c.goes = true then { value := 0, out := c.says.bytes } else Km356.only (-11)) := rfl
theorem done_does (c : Km356.Client) : Km356.cDoes c .cDone = (c, if c.phase = 3 then { value := 0, out := [c.best.value] } else if c.phase = 4 then Km356.only (-75) else Km356.only (-11)) := rfl
def DoesC (CC CH : Addr) (H0 : Hp) (a : Addr) (c : Km356.Client) (x : Km356.Call) (Q : VK) : Prop :=
  ∀ (H' : Hp) (p : Addr), ClAt CC CH H0 H' a (Km356.cDoes c x).1 → H0 p = none → H' p = some (.lst (tv (Km356.cDoes c x).2)) → Q (.ref p) H'
theorem ClAt.raw {CC CH a : Addr} {H0 H : Hp} {c : Km356.Client} (x : ClAt CC CH H0 H a c) : ∃ ad, ClRaw CC CH H a ad c := let ⟨_, _, ad, _, r⟩ := x; ⟨ad, r⟩
section
variable {P : Program} {w : World} {K : PySem.W.Frag} {mg : Str → Option Value} {base : Heap} {CH CM CC CK CA q1 q2 q3 q4 : Addr}
/-- a new list of one number -/
theorem one_lst {σ : L2.St} {H : Hp} {Q : VK} {te : TE} {v : V} (h : Gives te σ H v) (q : ∀ p, H p = none → Q (.ref p) (upd H p (.lst [v]))) : tLst (tCons te tNil) σ H Q := h _ ⟨by show 1 ≤ sizeLine; decide, q⟩
theorem gNeg {σ : L2.St} {H : Hp} {i : Int} {te : TE} (h : Gives te σ H (.int i)) : Gives (tUn (rU fun i => .int (-i)) te) σ H (.int (-i)) := fun _ q => h _ ⟨i, rfl, q⟩
def spClStarted (CC CH : Addr) : Sp := fun vs H Q _ => ∃ (cd : Addr) (kvs : List (Key × V)) (wh : Int) (me n : Nat), vs = [.ref cd, .int wh, .int (me : Int), .int (n : Int)] ∧ H cd = some (.dK kvs) ∧ kvs.length < sizeLine ∧
  ((16 ≤ me ∨ n = 0 ∨ 15 < n) → ∀ (H' : Hp) (p : Addr), H p = none → Same H H' → H' p = some (.lst [.int (-22)]) → Q (.ref p) H') ∧
  (¬ (16 ≤ me ∨ n = 0 ∨ 15 < n) → ∀ (H' : Hp) (p x ad : Addr), H p = none → H x = none → H ad = none → ClRaw CC CH H' x ad (Km356.client0 me n) → H' cd = some (.dK (putK kvs (.inl wh) (.ref x))) → (∀ b o, H b = some o → b ≠ cd → H' b = some o) → H' p = some (.lst [.int 0]) → Q (.ref p) H')
theorem scClStarted : FnScope ["clients", "which", "me", "keepers"] ["clients", "which", "me", "keepers"] (defScope sClStarted) := ⟨rfl, rfl, rfl, by decide +kernel, rfl, by decide +kernel, by decide +kernel⟩
theorem ok_clStarted (D : DefAt K mg "client_started" sClStarted ["clients", "which", "me", "keepers"]) (T : Txt K mg CH CM CC CK CA q1 q2 q3 q4) (GI : InitOk P w K mg base 4 CC ["self", "me", "keepers"] (spClInit CC CH)) :
    DefOk P w K mg base 6 "client_started" ["clients", "which", "me", "keepers"] (spClStarted CC CH) := by
  refine D.ok fun f fd F => F.ok scClStarted (fun vs H Q E h => ?_) (fun cdv A outer s H vs Q E hr h => ?_)
  · obtain ⟨cd, kvs, wh, me, n, rfl, _⟩ := h
    rfl
  · obtain ⟨cd, kvs, wh, me, n, rfl, hd, hl, kR, kG⟩ := h
    refine ⟨_, pss_cons (ps_if (PW.pt (pw_or (pt_cmpR op_gt (pv 2) (pe_gi rfl T.gMC) (nomark _)) (pw_or1 (pt_not (pt_chain op_le op_le pe_int (pv 3) (pe_gi rfl T.gMKS)))))) (pss_one (ps_ret (pe_lst (pa_cons (pe_un un_neg pe_int) pa_nil)))) pss_nil)
      (pss_cons (ps_dput (hu_of hr) (pv 0) (pv 1) (pe_c GI hr rfl T.cC (pa_cons (pv 2) (pa_cons (pv 3) pa_nil))) rfl)
      (pss_one (ps_ret (pe_lst (pa_cons pe_int pa_nil))))), ?_⟩
    have e1 : decide ((15 : Int) < (me : Int)) = decide (15 < me) := lt_nat 15 me
    have e2 : decide ((1 : Int) ≤ (n : Int)) = decide (1 ≤ n) := le_nat 1 n
    have e3 : decide ((n : Int) ≤ 15) = decide (n ≤ 15) := le_nat n 15
    refine ifP (tOr_of (tTest_of (gOp0 (gVar rfl) gC)) (tNot_of (tTest_of (gChain gC (gVar rfl) gC)))) (fun q => ?_) (fun q => ?_)
    · have q0 : (decide ((15 : Int) < (me : Int)) || !(decide ((1 : Int) ≤ (n : Int)) && decide ((n : Int) ≤ 15))) = true := q
      rw [e1, e2, e3] at q0
      have q' : 16 ≤ me ∨ n = 0 ∨ 15 < n := by
        simp at q0
        omega
      exact one_lst (gNeg gC) fun p np => kR q' _ p np (Same.add np) upd_same
    · have q0 : (decide ((15 : Int) < (me : Int)) || !(decide ((1 : Int) ≤ (n : Int)) && decide ((n : Int) ≤ 15))) = false := q
      rw [e1, e2, e3] at q0
      have q' : ¬ (16 ≤ me ∨ n = 0 ∨ 15 < n) := by
        simp at q0
        omega
      refine nxt ?_
      refine ⟨_, rfl, _, rfl, fun x dx nx nd ne => ?_⟩
      refine ⟨x, dx, me, n, rfl, by omega, upd_same, fun H1 ad nad r1 kp1 => ⟨rfl, ?_⟩⟩
      have s1 : Same H H1 := fun b o e => kp1 b o (by rw [upd_ne (ne_of_none e nx), upd_ne (ne_of_none e nd)]; exact e) (ne_of_none e nx)
      have h1 := s1 _ _ hd
      refine ⟨_, rfl, _, rfl, cd, _, rfl, DPut.k (k := Sum.inl wh) h1 hl, ?_⟩
      refine ⟨(by show 1 ≤ sizeLine; decide), fun p np => ?_⟩
      obtain ⟨⟨d1, hd1, kv1, e1, hh1, hk1, hg1⟩, ok1⟩ := r1
      obtain ⟨dh1, eh1⟩ := id hh1
      have nxk : x ≠ cd := ne_of e1 h1 (by intro z; cases z)
      have nhk : hd1 ≠ cd := ne_of eh1 h1 (by intro z; cases z)
      have nad0 : H ad = none := by
        by_cases z : ad = x
        · rw [z]; exact nx
        · by_cases z2 : ad = dx
          · rw [z2]; exact nd
          · rw [upd_ne z, upd_ne z2] at nad
            exact nad
      have nak : ad ≠ cd := (ne_of_none hd nad0).symm
      have s2 := Same.add (o := .lst [.int 0]) np
      have np0 : H p = none := by
        by_cases z : p = cd
        · rw [z, upd_same] at np
          cases np
        · rw [upd_ne z] at np
          exact s1.free np
      exact kG q' _ p x ad np0 nx nad0 ⟨⟨d1, hd1, kv1, s2 _ _ (by rw [upd_ne nxk]; exact e1), (hh1.upd nhk).same s2, s2 _ _ (by rw [upd_ne nak]; exact hk1), hg1⟩, ok1⟩ (s2 _ _ upd_same) (fun b o e hb => s2 _ _ (by rw [upd_ne hb]; exact s1 _ _ e)) upd_same
def spClBegins (CC CH : Addr) : Sp := fun vs H Q _ => ∃ (H0 : Hp) (a : Addr) (c : Km356.Client) (wv : Option Nat), vs = [.ref a, ownV wv] ∧ ClAt CC CH H0 H a c ∧ DoesC CC CH H0 a c (beginCall wv) Q
theorem scClBegins : FnScope ["client", "value"] ["client", "value"] (defScope sClBegins) := ⟨rfl, rfl, rfl, by decide +kernel, rfl, by decide +kernel, by decide +kernel⟩
theorem ok_clBegins (D : DefAt K mg "client_begins" sClBegins ["client", "value"]) (T : Txt K mg CH CM CC CK CA q1 q2 q3 q4) (GG : MethOk P w K mg base 1 CC "goes_on" ["self"] (spGoesOn CC CH)) (GB : MethOk P w K mg base 4 CC "begin" ["self", "value"] (spBegin CC CH)) :
    DefOk P w K mg base 5 "client_begins" ["client", "value"] (spClBegins CC CH) := by
  refine D.ok fun f fd F => F.ok scClBegins (fun vs H Q E h => ?_) (fun cdv A outer s H vs Q E hr h => ?_)
  · obtain ⟨H0, a, c, wv, rfl, _⟩ := h
    rfl
  · obtain ⟨H0, a, c, wv, rfl, hc, k⟩ := h
    obtain ⟨ad, hraw⟩ := hc.raw
    obtain ⟨⟨dx, hd, kvs, ha, _⟩, ok⟩ := id hraw
    have hr1 : Room 1 _ := hr.mono (by decide)
    unfold DoesC at k
    rw [begins_does] at k
    refine ⟨_, pss_cons (ps_if (pt_val (pe_m0 (pv 0) T.lC GG hr1)) (pss_one (ps_ret (pe_lst (pa_cons (pe_un un_neg pe_int) pa_nil)))) pss_nil)
      (pss_cons (ps_if (pt_cmpR op_eq (pe_fld (pv 0) rfl) (pe_gi rfl T.gMO) (nomark _)) (pss_one (ps_ret (pe_lst (pa_cons (pe_un un_neg pe_int) pa_nil)))) pss_nil)
      (pss_cons (ps_expr (pe_m (pv 0) T.lC GB hr (pa_cons (pv 1) pa_nil)))
      (pss_one (ps_ret (pe_lst (pa_cons pe_int pa_nil)))))), ?_⟩
    refine ifS (sB_of (sMeth (v := .bl c.goes) (gVar rfl) ha (clF_m_goes_on _ _ _ _ _ _ _) aNil fun Q q => ⟨a, ad, c, rfl, hraw, q⟩)) (fun q H1 s1 => ?_) (fun q H1 s1 => ?_)
    · rw [if_pos q] at k
      exact one_lst (gNeg gC) fun p np => k _ p ((hc.same s1).same (Same.add np)) ((hc.same s1).1.free np) upd_same
    · rw [if_neg (by rw [q]; exact Bool.false_ne_true)] at k
      refine nxt ?_
      have e1 : decide (V.int (c.op : Int) = V.int 4294967295) = decide (c.op = 4294967295) := int_eq_nat c.op 4294967295
      refine ifP (a := decide (c.op = 4294967295)) (by rw [← e1]; exact tTest_of (gEq (gFld (gVar rfl) (s1 _ _ ha) T.lC T.cBegun (clF_begun _ _ _ _ _ _ _)) gC rfl)) (fun q2 => ?_) (fun q2 => ?_)
      · have z : 2 ^ 32 ≤ c.op + 1 := by
          have := of_decide_eq_true q2
          omega
        rw [if_pos z] at k
        exact one_lst (gNeg gC) fun p np => k _ p ((hc.same s1).same (Same.add np)) ((hc.same s1).1.free np) upd_same
      · have z : ¬ 2 ^ 32 ≤ c.op + 1 := by
          have := of_decide_eq_false q2
          have := ok.op
          omega
        rw [if_neg z] at k
        refine nxt ?_
        refine ⟨_, rfl, a, dx, _, rfl, s1 _ _ ha, clF_m_begin _ _ _ _ _ _ _, _, rfl, H0, a, c, wv, rfl, hc.same s1, by omega, fun H2 h2 => ?_⟩
        refine ⟨(by show 1 ≤ sizeLine; decide), fun p np => ?_⟩
        exact k _ p (h2.same (Same.add np)) (h2.1.free np) upd_same
def spClSays (CC CH : Addr) : Sp := fun vs H Q _ => ∃ (H0 : Hp) (a : Addr) (c : Km356.Client), vs = [.ref a] ∧ ClAt CC CH H0 H a c ∧ DoesC CC CH H0 a c .cSay Q
theorem scClSays : FnScope ["client"] ["client"] (defScope sClSays) := ⟨rfl, rfl, rfl, by decide +kernel, rfl, by decide +kernel, by decide +kernel⟩
theorem ok_clSays (D : DefAt K mg "client_says" sClSays ["client"]) (T : Txt K mg CH CM CC CK CA q1 q2 q3 q4) (GG : MethOk P w K mg base 1 CC "goes_on" ["self"] (spGoesOn CC CH)) (GQ : MethOk P w K mg base 4 CC "question" ["self"] (spQuestion CC CM CH))
    (GB : MethOk P w K mg base 3 CM "as_bytes" ["self"] (spAsBytes CM CH)) : DefOk P w K mg base 5 "client_says" ["client"] (spClSays CC CH) := by
  refine D.ok fun f fd F => F.ok scClSays (fun vs H Q E h => ?_) (fun cdv A outer s H vs Q E hr h => ?_)
  · obtain ⟨H0, a, c, rfl, _⟩ := h
    rfl
  · obtain ⟨H0, a, c, rfl, hc, k⟩ := h
    obtain ⟨ad, hraw⟩ := hc.raw
    obtain ⟨⟨dx, hd, kvs, ha, _⟩, ok⟩ := id hraw
    have hr1 : Room 1 _ := hr.mono (by decide)
    have hr3 : Room 3 _ := hr.mono (by decide)
    unfold DoesC at k
    rw [says_does] at k
    refine ⟨_, pss_cons (ps_if (pt_not (pt_val (pe_m0 (pv 0) T.lC GG hr1))) (pss_one (ps_ret (pe_lst (pa_cons (pe_un un_neg pe_int) pa_nil)))) pss_nil)
      (pss_one (ps_ret (pe_op op_cat (pe_lst (pa_cons pe_int pa_nil)) (pe_m0 (pe_m0 (pv 0) T.lC GQ hr) T.lM GB hr3)))), ?_⟩
    refine ifS (sNot_of (sB_of (sMeth (v := .bl c.goes) (gVar rfl) ha (clF_m_goes_on _ _ _ _ _ _ _) aNil fun Q q => ⟨a, ad, c, rfl, hraw, q⟩))) (fun q H1 s1 => ?_) (fun q H1 s1 => ?_)
    · have q' : c.goes = false := by simpa using q
      rw [q', if_neg Bool.false_ne_true] at k
      exact one_lst (gNeg gC) fun p np => k _ p ((hc.same s1).same (Same.add np)) ((hc.same s1).1.free np) upd_same
    · have q' : c.goes = true := by simpa using q
      rw [if_pos q'] at k
      refine nxt ?_
      refine ⟨(by show 1 ≤ sizeLine; decide), fun p np => ?_⟩
      have s2 : Same H1 (upd H1 p (.lst [.int 0])) := Same.add np
      have s3 := s1.trans s2
      refine ⟨_, rfl, a, dx, _, rfl, s3 _ _ ha, clF_m_question _ _ _ _ _ _ _, a, ad, c, rfl, hraw.same s3, fun H3 x s4 hx => ?_⟩
      obtain ⟨d3, hd3, hX, hhX⟩ := id hx
      refine ⟨x, d3, _, rfl, hX, msgF_asBytes _ _ _ _ _, x, _, rfl, hx, fun H4 y s5 hy => ?_⟩
      refine ⟨p, y, _, _, rfl, rfl, s5 _ _ (s4 _ _ upd_same), hy, (by rw [iv_length, bytes_length]; show 1 + 24 ≤ sizeLine; decide), fun z nz => ?_⟩
      refine k _ z (hc.same (((s3.trans s4).trans s5).trans (Same.add nz))) ((hc.same ((s3.trans s4).trans s5)).1.free nz) ?_
      rw [upd_same, tv_out]
      rfl
def spClHeard (K : PySem.W.Frag) (CC CH : Addr) : Sp := fun vs H Q _ => ∃ (H0 : Hp) (a : Addr) (c : Km356.Client) (r : Addr) (l : List Nat), vs = [.ref a, .ref r] ∧ ClAt CC CH H0 H a c ∧ SqL K H r (iv l) ∧ l.length = 24 ∧ (∀ b ∈ l, b < 256) ∧ DoesC CC CH H0 a c (.cHeard l) Q
theorem scClHeard : FnScope ["client", "some", "message"] ["client", "some"] (defScope sClHeard) := ⟨rfl, rfl, rfl, by decide +kernel, rfl, by decide +kernel, by decide +kernel⟩
theorem msg_hideD {a b : Addr} {H : Hp} {m : Km356.Message} {kvs : List (Key × V)} (x : MsgAt CM CH H a m) (h' : H b = some (.dK kvs)) : MsgAt CM CH (hide H b) a m := by
  obtain ⟨dm, hd, e, dh, eh⟩ := x
  exact ⟨dm, hd, by rw [hide_ne (ne_of e h' (by intro z; cases z))]; exact e, dh, by rw [hide_ne (ne_of eh h' (by intro z; cases z))]; exact eh⟩
theorem ok_clHeard (D : DefAt K mg "client_heard" sClHeard ["client", "some"]) (T : Txt K mg CH CM CC CK CA q1 q2 q3 q4) (GO : DefOk P w K mg base 3 "message_of" ["some"] (spMsgOf K CM CH)) (GA : MethOk P w K mg base 2 CC "is_answer" ["self", "message"] (spIsAnswer CC CM CH))
    (GH : MethOk P w K mg base 4 CC "hear" ["self", "message"] (spClHear CC CM CH)) : DefOk P w K mg base 5 "client_heard" ["client", "some"] (spClHeard K CC CH) := by
  refine D.ok fun f fd F => F.ok scClHeard (fun vs H Q E h => ?_) (fun cdv A outer s H vs Q E hr h => ?_)
  · obtain ⟨H0, a, c, r, l, rfl, _⟩ := h
    rfl
  · obtain ⟨H0, a, c, r, l, rfl, hc, hS, h24, hb, k⟩ := h
    have hr2 : Room 2 _ := hr.mono (by decide)
    have hr3 : Room 3 _ := hr.mono (by decide)
    unfold DoesC at k
    refine ⟨_, pss_cons (ps_set (i := 2) scClHeard.nd rfl (Or.inl rfl) (pe_f GO hr3 rfl (pa_cons (pv 1) pa_nil)))
      (pss_cons (ps_if (pt_cmp (pc_isN (pv 2))) (pss_one (ps_ret (pe_lst (pa_cons (pe_un un_neg pe_int) pa_nil)))) pss_nil)
      (pss_cons (ps_if (pt_not (pt_val (pe_m (pv 0) T.lC GA hr2 (pa_cons (pv 2) pa_nil)))) (pss_one (ps_ret (pe_lst (pa_cons pe_int pa_nil)))) pss_nil)
      (pss_cons (ps_expr (pe_m (pv 0) T.lC GH hr (pa_cons (pv 2) pa_nil)))
      (pss_one (ps_ret (pe_lst (pa_cons pe_int pa_nil))))))), ?_⟩
    refine ⟨_, rfl, r, l, rfl, hS, h24, hb, fun e H1 s1 => ?_, fun m e em H1 mp s1 hm => ?_⟩
    · rw [cHeard_none e] at k
      refine ifP (tB_of (gIsN (v := .non) (gVar rfl))) (fun _ => ?_) (fun q => by cases q)
      exact one_lst (gNeg gC) fun p np => k _ p ((hc.same s1).same (Same.add np)) ((hc.same s1).1.free np) upd_same
    · rw [cHeard_some e] at k
      have hc1 := hc.same s1
      obtain ⟨ad, hraw⟩ := hc1.raw
      obtain ⟨⟨dx, hd, kvs, ha, _⟩, ok⟩ := id hraw
      refine ifP (tB_of (gIsN (v := .ref mp) (gVar rfl))) (fun q => by cases q) (fun _ => ?_)
      refine nxt ?_
      refine ifS (sNot_of (sB_of (sMeth (v := .bl (c.wants m)) (gVar rfl) ha (clF_m_is_answer _ _ _ _ _ _ _) (aCons (gVar rfl) aNil) fun Q q => ⟨a, ad, c, mp, m, rfl, hraw, hm, q⟩))) (fun q H2 s2 => ?_) (fun q H2 s2 => ?_)
      · have q' : c.wants m = false := by simpa using q
        rw [q', if_neg Bool.false_ne_true] at k
        refine ⟨(by show 1 ≤ sizeLine; decide), fun p np => ?_⟩
        exact k _ p ((hc1.same s2).same (Same.add np)) ((hc1.same s2).1.free np) upd_same
      · have q' : c.wants m = true := by simpa using q
        rw [if_pos q'] at k
        refine nxt ?_
        obtain ⟨s02, n02, ad2, nad2, hraw2⟩ := hc1.same s2
        obtain ⟨⟨dx2, hd2, kvs2, ha2, hh2, hk2, hg2⟩, ok2⟩ := id hraw2
        have hk2' : (hide H2 a) ad2 = some (.dK kvs2) := by
          rw [hide_ne (ne_of hk2 ha2 (by intro z; cases z))]
          exact hk2
        have hm2 := msg_hideD ((hm.same s2).hide ha2 (by show 3 ≠ 7; decide) (by show 5 ≠ 7; decide)) hk2'
        have s00 : Same (hide (hide H2 a) ad2) H2 := hide_same.trans hide_same
        have na0 : (hide (hide H2 a) ad2) a = none := by
          rw [hide_ne (ne_of ha2 hk2 (by intro z; cases z))]
          exact hide_self
        have hnum : m.held.stamp.number < 2 ^ 32 := by
          rw [em]
          exact (decoded_bounds hb).1
        refine ⟨_, rfl, a, dx2, _, rfl, ha2, clF_m_hear _ _ _ _ _ _ _, _, rfl, hide (hide H2 a) ad2, a, c, mp, m, rfl, ⟨s00, na0, ad2, hide_self, hraw2⟩, hm2, q', hnum, fun H3 h3 => ?_⟩
        have h3' := h3.weak (same_hide (same_hide s02 n02) nad2)
        refine ⟨(by show 1 ≤ sizeLine; decide), fun p np => ?_⟩
        exact k _ p (h3'.same (Same.add np)) (h3'.1.free np) upd_same
def spClDone (CC CH : Addr) : Sp := fun vs H Q _ => ∃ (H0 : Hp) (a : Addr) (c : Km356.Client), vs = [.ref a] ∧ ClAt CC CH H0 H a c ∧ DoesC CC CH H0 a c .cDone Q
theorem scClDone : FnScope ["client"] ["client"] (defScope sClDone) := ⟨rfl, rfl, rfl, by decide +kernel, rfl, by decide +kernel, by decide +kernel⟩
theorem ok_clDone (D : DefAt K mg "client_done" sClDone ["client"]) (T : Txt K mg CH CM CC CK CA q1 q2 q3 q4) (GG : MethOk P w K mg base 1 CC "goes_on" ["self"] (spGoesOn CC CH)) : DefOk P w K mg base 2 "client_done" ["client"] (spClDone CC CH) := by
  refine D.ok fun f fd F => F.ok scClDone (fun vs H Q E h => ?_) (fun cdv A outer s H vs Q E hr h => ?_)
  · obtain ⟨H0, a, c, rfl, _⟩ := h
    rfl
  · obtain ⟨H0, a, c, rfl, hc, k⟩ := h
    obtain ⟨ad, hraw⟩ := hc.raw
    obtain ⟨⟨dx, hd, kvs, ha, hh, _⟩, ok⟩ := id hraw
    obtain ⟨dh, eh⟩ := id hh
    unfold DoesC at k
    rw [done_does] at k
    refine ⟨_, pss_cons (ps_if (PW.pt (pw_or (pt_cmpR op_eq (pe_fld (pv 0) rfl) (pe_gi rfl T.gNB) (nomark _)) (pw_or1 (pt_val (pe_m0 (pv 0) T.lC GG hr))))) (pss_one (ps_ret (pe_lst (pa_cons (pe_un un_neg pe_int) pa_nil)))) pss_nil)
      (pss_cons (ps_if (pt_cmpR op_eq (pe_fld (pv 0) rfl) (pe_gi rfl T.gFAILED) (nomark _)) (pss_one (ps_ret (pe_lst (pa_cons (pe_un un_neg pe_int) pa_nil)))) pss_nil)
      (pss_one (ps_ret (pe_lst (pa_cons pe_int (pa_cons (pe_fld (pe_fld (pv 0) rfl) rfl) pa_nil)))))), ?_⟩
    have e0 : decide (V.int (c.phase : Int) = V.int 0) = decide (c.phase = 0) := int_eq_nat c.phase 0
    have e4 : decide (V.int (c.phase : Int) = V.int 4) = decide (c.phase = 4) := int_eq_nat c.phase 4
    refine ifS (a := (decide (c.phase = 0) || c.goes)) (sOr_of (by rw [← e0]; exact Tells.S (tTest_of (gEq (gFld (gVar rfl) ha T.lC T.cStands (clF_stands _ _ _ _ _ _ _)) gC rfl))) fun H1 s1 => sB_of (sMeth (v := .bl c.goes) (gVar rfl) (s1 _ _ ha) (clF_m_goes_on _ _ _ _ _ _ _) aNil fun Q q => ⟨a, ad, c, rfl, hraw.same s1, q⟩)) (fun q H1 s1 => ?_) (fun q H1 s1 => ?_)
    · have z : ¬ c.phase = 3 ∧ ¬ c.phase = 4 := by
        rw [Bool.or_eq_true] at q
        rcases q with q | q
        · have := of_decide_eq_true q
          omega
        · have := goes_phase q
          omega
      rw [if_neg z.1, if_neg z.2] at k
      exact one_lst (gNeg gC) fun p np => k _ p ((hc.same s1).same (Same.add np)) ((hc.same s1).1.free np) upd_same
    · rw [Bool.or_eq_false_iff] at q
      have z0 := of_decide_eq_false q.1
      have z1 : ¬ (c.phase = 1 ∨ c.phase = 2) := fun z => by
        have y := goes_of z
        rw [q.2] at y
        cases y
      have z4 := ok.ph
      refine nxt ?_
      refine ifP (a := decide (c.phase = 4)) (by rw [← e4]; exact tTest_of (gEq (gFld (gVar rfl) (s1 _ _ ha) T.lC T.cStands (clF_stands _ _ _ _ _ _ _)) gC rfl)) (fun q2 => ?_) (fun q2 => ?_)
      · have y := of_decide_eq_true q2
        rw [if_neg (by omega), if_pos y] at k
        exact one_lst (gNeg gC) fun p np => k _ p ((hc.same s1).same (Same.add np)) ((hc.same s1).1.free np) upd_same
      · have y := of_decide_eq_false q2
        rw [if_pos (by omega)] at k
        refine nxt ?_
        refine ⟨_, rfl, a, CC, dx, _, _, rfl, s1 _ _ ha, T.lC, T.cHeld, clF_held _ _ _ _ _ _ _, hd, CH, dh, _, _, rfl, s1 _ _ eh, T.lH, T.hValue, heldF_value _, (by show 2 ≤ sizeLine; decide), fun p np => ?_⟩
        exact k _ p ((hc.same s1).same (Same.add np)) ((hc.same s1).1.free np) upd_same
end
end MC
namespace MC
open PySem PySem.Spec PyProof.Rows L2
def zv (l : List Int) : List V := l.map V.int
theorem zv_nats : ∀ {l : List Int}, (∀ z ∈ l, 0 ≤ z) → zv l = iv (Km356Neutral.nats l)
  | [], _ => rfl
  | a :: r, h => by
    have ih := zv_nats (l := r) fun z hz => h z (List.mem_cons_of_mem _ hz)
    have ha := h a List.mem_cons_self
    show V.int a :: zv r = V.int ((a.toNat : Nat) : Int) :: iv (Km356Neutral.nats r)
    rw [ih, Int.toNat_of_nonneg ha]
theorem nats_bytes {l : List Int} (h : ∀ z ∈ l, 0 ≤ z ∧ z < 256) : ∀ b ∈ Km356Neutral.nats l, b < 256 := by
  intro b hb
  obtain ⟨z, hz, rfl⟩ := List.mem_map.mp hb
  have := h z hz
  omega
theorem nats_length (l : List Int) : (Km356Neutral.nats l).length = l.length := List.length_map _
/-! ### the machines in the heap -/
def maF (k c : Addr) : List (Str × V) := [("keepers", .ref k), ("clients", .ref c)]
theorem n_keepers_clients : ¬ (("keepers" : Str) = "clients") := by decide +kernel
theorem maF_keepers (k c : Addr) : (maF k c).lookup ("keepers" : Str) = some (.ref k) := lk_here
theorem maF_clients (k c : Addr) : (maF k c).lookup ("clients" : Str) = some (.ref c) := (lk_past (by decide +kernel)).trans lk_here
theorem maF_new (k c : Addr) : putF "clients" (.ref c) (putF "keepers" (.ref k) []) = maF k c := by
  simp only [put_nil, put_past n_keepers_clients]
  rfl
theorem maF_ne {k c h : Addr} {me : Int} {CA CK dx dx' : Addr} : ¬ HO.ins CA dx (maF k c) = HO.ins CK dx' (kpF me h) := fun z => by
  injection z with _ _ q
  have q' : ((("keepers" : Str), V.ref k) :: [(("clients" : Str), V.ref c)] : List (Str × V)) = (("me" : Str), V.int me) :: [(("held" : Str), V.ref h)] := q
  injection q' with q1 _
  injection q1 with _ q2
  cases q2
/-- what is kept but at two addresses -/
def Kept (H H' : Hp) (x y : Addr) : Prop := ∀ b o, H b = some o → b ≠ x → b ≠ y → H' b = some o
def NoHeld (CH : Addr) (H : Hp) (x : Addr) : Prop := ∀ h, ¬ HeldAt CH H x h
section
variable {CH CK CC : Addr} {H H' : Hp} {x y a ad : Addr}
theorem NoHeld.dict {kvs : List (Key × V)} (h : H x = some (.dK kvs)) : NoHeld CH H x := fun _ ⟨_, e⟩ => by
  rw [h] at e
  cases e
theorem NoHeld.ins {C dx : Addr} {fs : List (Str × V)} (h : H x = some (.ins C dx fs)) (n : 3 ≠ fs.length) : NoHeld CH H x := fun g z => held_ne (b := x) z h n rfl
theorem KpRaw.kept {k : Km356.Keeper} (r : KpRaw CK CH H a k) (R : Kept H H' x y) (ax : a ≠ x) (ay : a ≠ y) (hx : NoHeld CH H x) (hy : NoHeld CH H y) : KpRaw CK CH H' a k := by
  obtain ⟨dx, hd, e, dh, eh⟩ := r
  exact ⟨dx, hd, R _ _ e ax ay, dh, R _ _ eh (fun z => hx k.held ⟨dh, by rw [← z]; exact eh⟩) fun z => hy k.held ⟨dh, by rw [← z]; exact eh⟩⟩
theorem ClRaw.kept {c : Km356.Client} (r : ClRaw CC CH H a ad c) (R : Kept H H' x y) (ax : a ≠ x) (ay : a ≠ y) (bx : ad ≠ x) (by' : ad ≠ y) (hx : NoHeld CH H x) (hy : NoHeld CH H y) : ClRaw CC CH H' a ad c := by
  obtain ⟨⟨dx, hd, kvs, e, ⟨dh, eh⟩, d, g⟩, ok⟩ := r
  exact ⟨⟨dx, hd, kvs, R _ _ e ax ay, ⟨dh, R _ _ eh (fun z => hx c.best ⟨dh, by rw [← z]; exact eh⟩) fun z => hy c.best ⟨dh, by rw [← z]; exact eh⟩⟩, R _ _ d bx by', g⟩, ok⟩
theorem Kept.same (s : Same H H') : Kept H H' x y := fun b o e _ _ => s b o e
theorem Kept.hide2 (s : Same (hide (hide H x) y) H') : Kept H H' x y := fun b o e n1 n2 => s b o (by rw [hide_ne n2, hide_ne n1]; exact e)
theorem Kept.hide1 (s : Same (hide H x) H') : Kept H H' x x := fun b o e n1 _ => s b o (by rw [hide_ne n1]; exact e)
end
theorem putK_len {kvs : List (Key × V)} {k : Key} {v : V} : (putK kvs k v).length ≤ kvs.length + 1 := by
  unfold putK
  split
  · rw [List.length_map]
    omega
  · rw [List.length_append]
    exact Nat.le_refl _
/-- keepers -/
structure KpS (CK CH : Addr) (H0 H : Hp) (l : List (Option Km356.Keeper)) (kk : List (Key × V)) (kA : Nat → Addr) : Prop where
  len : l.length = 4
  at_ : ∀ (i : Nat) k, l[i]? = some (some k) → valV kk (.inl (i : Int)) = some (.ref (kA i)) ∧ H0 (kA i) = none ∧ KpRaw CK CH H (kA i) k
  inj : ∀ (i j : Nat) k k', l[i]? = some (some k) → l[j]? = some (some k') → kA i = kA j → i = j
structure ClS (CC CH : Addr) (H0 H : Hp) (l : List (Option Km356.Client)) (ck : List (Key × V)) (kd cd : Addr) (cA dA : Nat → Addr) : Prop where
  len : l.length = 2
  at_ : ∀ (i : Nat) c, l[i]? = some (some c) → valV ck (.inl (i : Int)) = some (.ref (cA i)) ∧ H0 (cA i) = none ∧ H0 (dA i) = none ∧ dA i ≠ kd ∧ dA i ≠ cd ∧ ClRaw CC CH H (cA i) (dA i) c
  inj : ∀ (i j : Nat) c c', l[i]? = some (some c) → l[j]? = some (some c') → cA i = cA j → i = j
  injD : ∀ (i j : Nat) c c', l[i]? = some (some c) → l[j]? = some (some c') → dA i = dA j → i = j
structure Mach (CA CK CC CH : Addr) (H0 H : Hp) (m : Addr) (s : Km356Neutral.S) (N : Nat) : Prop where
  same : Same H0 H
  n0 : H0 m = none
  ex : ∃ dx kd cd kk ck kA cA dA, H m = some (.ins CA dx (maF kd cd)) ∧ H kd = some (.dK kk) ∧ H cd = some (.dK ck) ∧ H0 kd = none ∧ H0 cd = none ∧ kd ≠ cd ∧ kk.length ≤ N ∧ ck.length ≤ N ∧ KpS CK CH H0 H s.1 kk kA ∧ ClS CC CH H0 H s.2 ck kd cd cA dA
section
variable {CA CK CC CH : Addr} {H0 H0' H H' : Hp} {m : Addr} {s : Km356Neutral.S} {N : Nat}
theorem Mach.keep (M : Mach CA CK CC CH H0 H m s N) (h : Same H H') : Mach CA CK CC CH H0 H' m s N := by
  obtain ⟨s0, n0, dx, kd, cd, kk, ck, kA, cA, dA, e1, e2, e3, e4, e5, e6, e7, e8, KS, CS⟩ := M
  exact ⟨s0.trans h, n0, dx, kd, cd, kk, ck, kA, cA, dA, h _ _ e1, h _ _ e2, h _ _ e3, e4, e5, e6, e7, e8, ⟨KS.len, fun i k q => let ⟨a, b, c⟩ := KS.at_ i k q; ⟨a, b, c.same h⟩, KS.inj⟩,
    ⟨CS.len, fun i c q => let ⟨a, b, c, d, e, f⟩ := CS.at_ i c q; ⟨a, b, c, d, e, f.same h⟩, CS.inj, CS.injD⟩⟩
theorem Mach.more (M : Mach CA CK CC CH H0 H m s N) : Mach CA CK CC CH H0 H m s (N + 1) := by
  obtain ⟨s0, n0, dx, kd, cd, kk, ck, kA, cA, dA, e1, e2, e3, e4, e5, e6, e7, e8, KS, CS⟩ := M
  exact ⟨s0, n0, dx, kd, cd, kk, ck, kA, cA, dA, e1, e2, e3, e4, e5, e6, by omega, by omega, KS, CS⟩
/-- the ghost heap may be another, as long as what the machines own is not in it -/
theorem Mach.ghost (M : Mach CA CK CC CH H0 H m s N) (h : Same H0' H) (g : ∀ b, H0 b = none → H b ≠ none → H0' b = none) : Mach CA CK CC CH H0' H m s N := by
  obtain ⟨s0, n0, dx, kd, cd, kk, ck, kA, cA, dA, e1, e2, e3, e4, e5, e6, e7, e8, KS, CS⟩ := M
  refine ⟨h, g _ n0 (by rw [e1]; simp), dx, kd, cd, kk, ck, kA, cA, dA, e1, e2, e3, g _ e4 (by rw [e2]; simp), g _ e5 (by rw [e3]; simp), e6, e7, e8, ⟨KS.len, fun i k q => ?_, KS.inj⟩, ⟨CS.len, fun i c q => ?_, CS.inj, CS.injD⟩⟩
  · obtain ⟨a, b, r⟩ := KS.at_ i k q
    refine ⟨a, g _ b ?_, r⟩
    obtain ⟨_, _, e, _⟩ := r
    rw [e]
    simp
  · obtain ⟨a, b, c', d, e, r⟩ := CS.at_ i c q
    obtain ⟨⟨_, _, _, z1, _, z2, _⟩, _⟩ := id r
    exact ⟨a, g _ b (by rw [z1]; simp), g _ c' (by rw [z2]; simp), d, e, r⟩
theorem set_get {α : Type} {l : List α} {i j : Nat} {x y : α} (h : (l.set i x)[j]? = some y) : (i = j ∧ x = y) ∨ (j ≠ i ∧ l[j]? = some y) := by
  rw [List.getElem?_set] at h
  by_cases e : i = j
  · rw [if_pos e] at h
    by_cases l' : i < l.length
    · rw [if_pos l'] at h
      exact .inl ⟨e, Option.some.inj h⟩
    · rw [if_neg l'] at h
      cases h
  · rw [if_neg e] at h
    exact .inr ⟨fun z => e z.symm, h⟩
/-- a keeper's own call -/
theorem Mach.keeper (M : Mach CA CK CC CH H0 H m s N) {i : Nat} {k : Km356.Keeper} (hi : s.1[i]? = some (some k)) : ∃ dx kd cd kk a, H m = some (.ins CA dx (maF kd cd)) ∧ H kd = some (.dK kk) ∧ valV kk (.inl (i : Int)) = some (.ref a) ∧
    Same H0 (hide H a) ∧ KeeperAt CK CH (hide H a) H a k ∧ ∀ (H' : Hp) (k' : Km356.Keeper), KeeperAt CK CH (hide H a) H' a k' → Mach CA CK CC CH H0 H' m (s.1.set i (some k'), s.2) N := by
  obtain ⟨s0, n0, dx, kd, cd, kk, ck, kA, cA, dA, e1, e2, e3, e4, e5, e6, e7, e8, KS, CS⟩ := M
  obtain ⟨v1, nA, r1⟩ := KS.at_ i k hi
  refine ⟨dx, kd, cd, kk, kA i, e1, e2, v1, same_hide s0 nA, ⟨hide_same, hide_self, r1⟩, fun H' k' K' => ?_⟩
  have R := Kept.hide1 K'.1
  obtain ⟨dk, hd, eK, hh⟩ := id r1
  have nhK : NoHeld CH H (kA i) := NoHeld.ins eK (by show 3 ≠ 2; decide)
  have mne : m ≠ kA i := ne_of e1 eK maF_ne
  have kne : kd ≠ kA i := ne_of e2 eK (by intro z; cases z)
  have cne : cd ≠ kA i := ne_of e3 eK (by intro z; cases z)
  refine ⟨(same_hide s0 nA).trans K'.1, n0, dx, kd, cd, kk, ck, kA, cA, dA, R _ _ e1 mne mne, R _ _ e2 kne kne, R _ _ e3 cne cne, e4, e5, e6, e7, e8, ⟨by rw [List.length_set]; exact KS.len, fun j k2 hj => ?_, fun j j' k2 k3 hj hj' e => ?_⟩, ⟨CS.len, fun j c hj => ?_, CS.inj, CS.injD⟩⟩
  · rcases set_get hj with ⟨rfl, e⟩ | ⟨ne, hj⟩
    · cases e
      exact ⟨v1, nA, K'.2.2⟩
    · obtain ⟨v2, n2, r2⟩ := KS.at_ j k2 hj
      have aj : kA j ≠ kA i := fun z => ne (KS.inj _ _ _ _ hj hi z)
      exact ⟨v2, n2, r2.kept R aj aj nhK nhK⟩
  · have h1 : ∃ k4, s.1[j]? = some (some k4) := by
      rcases set_get hj with ⟨rfl, _⟩ | ⟨_, hj⟩
      · exact ⟨k, hi⟩
      · exact ⟨_, hj⟩
    have h2 : ∃ k4, s.1[j']? = some (some k4) := by
      rcases set_get hj' with ⟨rfl, _⟩ | ⟨_, hj⟩
      · exact ⟨k, hi⟩
      · exact ⟨_, hj⟩
    obtain ⟨k4, h1⟩ := h1
    obtain ⟨k5, h2⟩ := h2
    exact KS.inj _ _ _ _ h1 h2 e
  · obtain ⟨a1, a2, a3, a4, a5, r⟩ := CS.at_ j c hj
    obtain ⟨⟨_, _, _, z1, _, z2, _⟩, _⟩ := id r
    have q1 : cA j ≠ kA i := ne_len z1 eK (by show 7 ≠ 2; decide)
    have q2 : dA j ≠ kA i := ne_of z2 eK (by intro z; cases z)
    exact ⟨a1, a2, a3, a4, a5, r.kept R q1 q1 q2 q2 nhK nhK⟩
/-- a client's own call -/
theorem Mach.client (M : Mach CA CK CC CH H0 H m s N) {i : Nat} {c : Km356.Client} (hi : s.2[i]? = some (some c)) : ∃ dx kd cd ck a d, H m = some (.ins CA dx (maF kd cd)) ∧ H cd = some (.dK ck) ∧ valV ck (.inl (i : Int)) = some (.ref a) ∧
    Same H0 (hide (hide H a) d) ∧ ClAt CC CH (hide (hide H a) d) H a c ∧ ∀ (H' : Hp) (c' : Km356.Client), ClAt CC CH (hide (hide H a) d) H' a c' → Mach CA CK CC CH H0 H' m (s.1, s.2.set i (some c')) N := by
  obtain ⟨s0, n0, dx, kd, cd, kk, ck, kA, cA, dA, e1, e2, e3, e4, e5, e6, e7, e8, KS, CS⟩ := M
  obtain ⟨v1, nA, nD, dk, dc, r1⟩ := CS.at_ i c hi
  obtain ⟨⟨dz, hz, kz, eC, hh, eD, _⟩, _⟩ := id r1
  have nCD : cA i ≠ dA i := ne_of eC eD (by intro z; cases z)
  have nh1 : NoHeld CH H (cA i) := NoHeld.ins eC (by show 3 ≠ 7; decide)
  have nh2 : NoHeld CH H (dA i) := NoHeld.dict eD
  refine ⟨dx, kd, cd, ck, cA i, dA i, e1, e3, v1, same_hide (same_hide s0 nA) nD, ⟨hide_same.trans hide_same, by rw [hide_ne nCD]; exact hide_self, dA i, hide_self, r1⟩, fun H' c' C' => ?_⟩
  have R := Kept.hide2 C'.1
  obtain ⟨sC, nC, d', nd', r'⟩ := C'
  have m1 : m ≠ cA i := ne_len e1 eC (by show 2 ≠ 7; decide)
  have m2 : m ≠ dA i := ne_of e1 eD (by intro z; cases z)
  have k1 : kd ≠ cA i := ne_of e2 eC (by intro z; cases z)
  have c1 : cd ≠ cA i := ne_of e3 eC (by intro z; cases z)
  -- what is in the ghost heap is not the new dict
  have new : ∀ b o, H b = some o → b ≠ cA i → b ≠ dA i → d' ≠ b := fun b o e n1 n2 z => by
    rw [z, hide_ne n2, hide_ne n1, e] at nd'
    cases nd'
  have s0' : Same H0 (hide (hide H (cA i)) (dA i)) := same_hide (same_hide s0 nA) nD
  have others : ∀ j c2, j ≠ i → s.2[j]? = some (some c2) → cA j ≠ cA i ∧ cA j ≠ dA i ∧ dA j ≠ cA i ∧ dA j ≠ dA i ∧ ∃ o, H (dA j) = some o := fun j c2 ne hj => by
    obtain ⟨_, _, _, _, _, r⟩ := CS.at_ j c2 hj
    obtain ⟨⟨_, _, _, z1, _, z2, _⟩, _⟩ := id r
    exact ⟨fun z => ne (CS.inj _ _ _ _ hj hi z), ne_of z1 eD (by intro z; cases z), ne_of z2 eC (by intro z; cases z), fun z => ne (CS.injD _ _ _ _ hj hi z), _, z2⟩
  refine ⟨s0'.trans sC, n0, dx, kd, cd, kk, ck, kA, cA, fun j => if j = i then d' else dA j, R _ _ e1 m1 m2, R _ _ e2 k1 dk.symm, R _ _ e3 c1 dc.symm, e4, e5, e6, e7, e8, ⟨KS.len, fun j k hj => ?_, KS.inj⟩, ⟨by rw [List.length_set]; exact CS.len, fun j c2 hj => ?_, fun j j' c2 c3 hj hj' e => ?_, fun j j' c2 c3 hj hj' e => ?_⟩⟩
  · obtain ⟨a1, a2, r⟩ := KS.at_ j k hj
    obtain ⟨_, _, z1, _⟩ := id r
    exact ⟨a1, a2, r.kept R (ne_len z1 eC (by show 2 ≠ 7; decide)) (ne_of z1 eD (by intro z; cases z)) nh1 nh2⟩
  · rcases set_get hj with ⟨rfl, e⟩ | ⟨ne, hj⟩
    · cases e
      rw [if_pos rfl]
      exact ⟨v1, nA, s0'.free nd', new _ _ e2 k1 dk.symm, new _ _ e3 c1 dc.symm, r'⟩
    · rw [if_neg ne]
      obtain ⟨a1, a2, a3, a4, a5, r⟩ := CS.at_ j c2 hj
      obtain ⟨q1, q2, q3, q4, _⟩ := others j c2 ne hj
      exact ⟨a1, a2, a3, a4, a5, r.kept R q1 q2 q3 q4 nh1 nh2⟩
  · have h1 : ∃ k4, s.2[j]? = some (some k4) := by
      rcases set_get hj with ⟨rfl, _⟩ | ⟨_, hj⟩
      · exact ⟨c, hi⟩
      · exact ⟨_, hj⟩
    have h2 : ∃ k4, s.2[j']? = some (some k4) := by
      rcases set_get hj' with ⟨rfl, _⟩ | ⟨_, hj⟩
      · exact ⟨c, hi⟩
      · exact ⟨_, hj⟩
    obtain ⟨k4, h1⟩ := h1
    obtain ⟨k5, h2⟩ := h2
    exact CS.inj _ _ _ _ h1 h2 e
  · rcases set_get hj with ⟨ej, _⟩ | ⟨ne, hj⟩
    · rcases set_get hj' with ⟨ej', _⟩ | ⟨ne', hj'⟩
      · exact ej.symm.trans ej'
      · have e' : d' = dA j' := by
          have z := e
          simp only [if_pos ej.symm, if_neg ne'] at z
          exact z
        obtain ⟨_, _, q3, q4, o, q5⟩ := others j' c3 ne' hj'
        exact absurd e' (new _ _ q5 q3 q4)
    · rcases set_get hj' with ⟨ej', _⟩ | ⟨ne', hj'⟩
      · have e' : dA j = d' := by
          have z := e
          simp only [if_neg ne, if_pos ej'.symm] at z
          exact z
        obtain ⟨_, _, q3, q4, o, q5⟩ := others j c2 ne hj
        exact absurd e'.symm (new _ _ q5 q3 q4)
      · have e' : dA j = dA j' := by
          have z := e
          simp only [if_neg ne, if_neg ne'] at z
          exact z
        exact CS.injD _ _ _ _ hj hj' e'
end
end MC
namespace MC
open PySem PySem.Spec PyProof.Rows L2
section
variable {CA CK CC CH : Addr} {H0 H0' H H' : Hp} {m : Addr} {s : Km356Neutral.S} {N : Nat}
theorem Mach.kStart (M : Mach CA CK CC CH H0 H m s N) {i : Nat} (hi : i < 4) : ∃ dx kd cd kk, H m = some (.ins CA dx (maF kd cd)) ∧ H kd = some (.dK kk) ∧ kk.length ≤ N ∧
    ∀ (H' : Hp) (x : Addr) (k' : Km356.Keeper), H x = none → KpRaw CK CH H' x k' → H' kd = some (.dK (putK kk (.inl (i : Int)) (.ref x))) → (∀ b o, H b = some o → b ≠ kd → H' b = some o) → Mach CA CK CC CH H0 H' m (s.1.set i (some k'), s.2) (N + 1) := by
  obtain ⟨s0, n0, dx, kd, cd, kk, ck, kA, cA, dA, e1, e2, e3, e4, e5, e6, e7, e8, KS, CS⟩ := M
  refine ⟨dx, kd, cd, kk, e1, e2, e7, fun H' x k' nx r' hk R0 => ?_⟩
  have R : Kept H H' kd kd := fun b o e n _ => R0 b o e n
  have nh : NoHeld CH H kd := NoHeld.dict e2
  have m1 : m ≠ kd := ne_of e1 e2 (by intro z; cases z)
  refine ⟨fun b o e => R0 b o (s0 b o e) (ne_of_none e e4), n0, dx, kd, cd, _, ck, fun j => if j = i then x else kA j, cA, dA, R0 _ _ e1 m1, hk, R0 _ _ e3 e6.symm, e4, e5, e6, Nat.le_trans putK_len (by omega), by omega, ⟨by rw [List.length_set]; exact KS.len, fun j k2 hj => ?_, fun j j' k2 k3 hj hj' e => ?_⟩, ⟨CS.len, fun j c hj => ?_, CS.inj, CS.injD⟩⟩
  · rcases set_get hj with ⟨rfl, e⟩ | ⟨ne, hj⟩
    · cases e
      rw [if_pos rfl, valV_put, if_pos rfl]
      exact ⟨rfl, s0.free nx, r'⟩
    · rw [if_neg ne, valV_put, if_neg (fun z => ne (by injection z with z; omega))]
      obtain ⟨a1, a2, r⟩ := KS.at_ j k2 hj
      obtain ⟨_, _, z1, _⟩ := id r
      have q := ne_of z1 e2 (by intro z; cases z)
      exact ⟨a1, a2, r.kept R q q nh nh⟩
  · have old : ∀ j k2, s.1[j]? = some (some k2) → kA j ≠ x := fun j k2 hj z => by
      obtain ⟨_, _, _, _, z1, _⟩ := KS.at_ j k2 hj
      rw [z, nx] at z1
      cases z1
    rcases set_get hj with ⟨ej, _⟩ | ⟨ne, hj⟩
    · rcases set_get hj' with ⟨ej', _⟩ | ⟨ne', hj'⟩
      · exact ej.symm.trans ej'
      · have e' : x = kA j' := by
          have z := e
          simp only [if_pos ej.symm, if_neg ne'] at z
          exact z
        exact absurd e'.symm (old _ _ hj')
    · rcases set_get hj' with ⟨ej', _⟩ | ⟨ne', hj'⟩
      · have e' : kA j = x := by
          have z := e
          simp only [if_neg ne, if_pos ej'.symm] at z
          exact z
        exact absurd e' (old _ _ hj)
      · have e' : kA j = kA j' := by
          have z := e
          simp only [if_neg ne, if_neg ne'] at z
          exact z
        exact KS.inj _ _ _ _ hj hj' e'
  · obtain ⟨a1, a2, a3, a4, a5, r⟩ := CS.at_ j c hj
    obtain ⟨⟨_, _, _, z1, _, z2, _⟩, _⟩ := id r
    have q1 := ne_of z1 e2 (by intro z; cases z)
    exact ⟨a1, a2, a3, a4, a5, r.kept R q1 q1 a4 a4 nh nh⟩
theorem Mach.cStart (M : Mach CA CK CC CH H0 H m s N) {i : Nat} (hi : i < 2) : ∃ dx kd cd ck, H m = some (.ins CA dx (maF kd cd)) ∧ H cd = some (.dK ck) ∧ ck.length ≤ N ∧
    ∀ (H' : Hp) (x ad : Addr) (c' : Km356.Client), H x = none → H ad = none → ClRaw CC CH H' x ad c' → H' cd = some (.dK (putK ck (.inl (i : Int)) (.ref x))) → (∀ b o, H b = some o → b ≠ cd → H' b = some o) → Mach CA CK CC CH H0 H' m (s.1, s.2.set i (some c')) (N + 1) := by
  obtain ⟨s0, n0, dx, kd, cd, kk, ck, kA, cA, dA, e1, e2, e3, e4, e5, e6, e7, e8, KS, CS⟩ := M
  refine ⟨dx, kd, cd, ck, e1, e3, e8, fun H' x ad c' nx nad r' hk R0 => ?_⟩
  have R : Kept H H' cd cd := fun b o e n _ => R0 b o e n
  have nh : NoHeld CH H cd := NoHeld.dict e3
  have m1 : m ≠ cd := ne_of e1 e3 (by intro z; cases z)
  have old : ∀ j c2, s.2[j]? = some (some c2) → cA j ≠ x ∧ dA j ≠ ad := fun j c2 hj => by
    obtain ⟨_, _, _, _, _, ⟨_, _, _, z1, _, z2, _⟩, _⟩ := CS.at_ j c2 hj
    exact ⟨ne_of_none z1 nx, ne_of_none z2 nad⟩
  refine ⟨fun b o e => R0 b o (s0 b o e) (ne_of_none e e5), n0, dx, kd, cd, kk, _, kA, fun j => if j = i then x else cA j, fun j => if j = i then ad else dA j, R0 _ _ e1 m1, R0 _ _ e2 e6, hk, e4, e5, e6, by omega, Nat.le_trans putK_len (by omega), ⟨KS.len, fun j k hj => ?_, KS.inj⟩, ⟨by rw [List.length_set]; exact CS.len, fun j c2 hj => ?_, fun j j' c2 c3 hj hj' e => ?_, fun j j' c2 c3 hj hj' e => ?_⟩⟩
  · obtain ⟨a1, a2, r⟩ := KS.at_ j k hj
    obtain ⟨_, _, z1, _⟩ := id r
    have q := ne_of z1 e3 (by intro z; cases z)
    exact ⟨a1, a2, r.kept R q q nh nh⟩
  · rcases set_get hj with ⟨rfl, e⟩ | ⟨ne, hj⟩
    · cases e
      rw [if_pos rfl, if_pos rfl, valV_put, if_pos rfl]
      exact ⟨rfl, s0.free nx, s0.free nad, (ne_of_none e2 nad).symm, (ne_of_none e3 nad).symm, r'⟩
    · rw [if_neg ne, if_neg ne, valV_put, if_neg (fun z => ne (by injection z with z; omega))]
      obtain ⟨a1, a2, a3, a4, a5, r⟩ := CS.at_ j c2 hj
      obtain ⟨⟨_, _, _, z1, _, z2, _⟩, _⟩ := id r
      have q1 := ne_of z1 e3 (by intro z; cases z)
      exact ⟨a1, a2, a3, a4, a5, r.kept R q1 q1 a5 a5 nh nh⟩
  · rcases set_get hj with ⟨ej, _⟩ | ⟨ne, hj⟩
    · rcases set_get hj' with ⟨ej', _⟩ | ⟨ne', hj'⟩
      · exact ej.symm.trans ej'
      · have e' : x = cA j' := by
          have z := e
          simp only [if_pos ej.symm, if_neg ne'] at z
          exact z
        exact absurd e'.symm (old _ _ hj').1
    · rcases set_get hj' with ⟨ej', _⟩ | ⟨ne', hj'⟩
      · have e' : cA j = x := by
          have z := e
          simp only [if_neg ne, if_pos ej'.symm] at z
          exact z
        exact absurd e' (old _ _ hj).1
      · have e' : cA j = cA j' := by
          have z := e
          simp only [if_neg ne, if_neg ne'] at z
          exact z
        exact CS.inj _ _ _ _ hj hj' e'
  · rcases set_get hj with ⟨ej, _⟩ | ⟨ne, hj⟩
    · rcases set_get hj' with ⟨ej', _⟩ | ⟨ne', hj'⟩
      · exact ej.symm.trans ej'
      · have e' : ad = dA j' := by
          have z := e
          simp only [if_pos ej.symm, if_neg ne'] at z
          exact z
        exact absurd e'.symm (old _ _ hj').2
    · rcases set_get hj' with ⟨ej', _⟩ | ⟨ne', hj'⟩
      · have e' : dA j = ad := by
          have z := e
          simp only [if_neg ne, if_pos ej'.symm] at z
          exact z
        exact absurd e' (old _ _ hj).2
      · have e' : dA j = dA j' := by
          have z := e
          simp only [if_neg ne, if_neg ne'] at z
          exact z
        exact CS.injD _ _ _ _ hj hj' e'
end
/-- a client's call that is no start, by its number, its whole numbers, its row -/
inductive CArg : Int → List Int → List Int → Km356.Call → Prop where
  | r (xs rl : List Int) : CArg 3 xs rl .cRead
  | w (k v : Int) (rl : List Int) : 0 ≤ v → CArg 4 [k, v] rl (.cWrite v.toNat)
  | s (xs rl : List Int) : CArg 5 xs rl .cSay
  | h (xs rl : List Int) : rl.length = 24 → (∀ z ∈ rl, 0 ≤ z ∧ z < 256) → CArg 6 xs rl (.cHeard (Km356Neutral.nats rl))
  | d (xs rl : List Int) : CArg 7 xs rl .cDone
section
variable {P : Program} {w : World} {K : PySem.W.Frag} {mg : Str → Option Value} {base : Heap} {CH CM CC CK CA q1 q2 q3 q4 : Addr}
def spMaInit (CA : Addr) : Sp := fun vs H Q _ => ∃ (p dx : Addr), vs = [.ref p] ∧ H p = some (.ins CA dx []) ∧
  ∀ (H' : Hp) (kd cd : Addr), H' p = some (.ins CA dx (maF kd cd)) → H kd = none → H cd = none → H' kd = some (.dK []) → H' cd = some (.dK []) → kd ≠ cd → (∀ b o, H b = some o → b ≠ p → H' b = some o) → Q .non H'
theorem scMaInit : FnScope ["self"] ["self"] (defScope sMaInit) := ⟨rfl, rfl, rfl, by decide +kernel, rfl, by decide +kernel, by decide +kernel⟩
theorem ok_maInit (D : InitAt K CA "Machines.__init__" sMaInit ["self"]) (T : Txt K mg CH CM CC CK CA q1 q2 q3 q4) : InitOk P w K mg base 1 CA ["self"] (spMaInit CA) := by
  refine D.ok fun f fd F => F.ok scMaInit (fun vs H Q E h => ?_) (fun cdv A outer s H vs Q E hr h => ?_)
  · obtain ⟨p, dx, rfl, _⟩ := h
    rfl
  · obtain ⟨p, dx, rfl, hp, k⟩ := h
    refine ⟨_, pss_cons (ps_fld (pv 0) pe_dnewK rfl) (pss_one (ps_fld (pv 0) pe_dnewK rfl)), ?_⟩
    refine fun kd nk => ?_
    have n1 : p ≠ kd := ne_of_none hp nk
    refine ⟨_, rfl, p, CA, dx, _, rfl, (upd_ne n1).trans hp, T.lA, T.aKeepers, short_lt nil_short (by decide), fun cd nc => ?_⟩
    have n2 : p ≠ cd := ne_of_none (H := upd _ p _) upd_same nc
    have n3 : kd ≠ cd := fun z => by
      rw [← z, upd_ne n1.symm, upd_same] at nc
      cases nc
    have nc0 : H cd = none := by
      rw [upd_ne n2.symm, upd_ne n3.symm] at nc
      exact nc
    refine ⟨_, rfl, p, CA, dx, _, rfl, (upd_ne n2).trans upd_same, T.lA, T.aClients, short_lt (put_short nil_short) (by decide), ?_⟩
    refine k _ kd cd (upd_same.trans (by rw [maF_new])) nk nc0 ?_ ?_ n3 fun b o e hb => ?_
    · rw [upd_ne n1.symm, upd_ne n3, upd_ne n1.symm, upd_same]
    · rw [upd_ne n2.symm, upd_same]
    · rw [upd_ne hb, upd_ne (ne_of_none e nc0), upd_ne hb, upd_ne (ne_of_none e nk)]
      exact e
def spOfClient (K : PySem.W.Frag) (CC CH : Addr) : Sp := fun vs H Q _ => ∃ (H0 : Hp) (a : Addr) (c : Km356.Client) (p : Int) (g r : Addr) (xs rl : List Int) (x : Km356.Call), vs = [.ref a, .int p, .ref g, .ref r] ∧ ClAt CC CH H0 H a c ∧ SqL K H g (zv xs) ∧ SqL K H r (zv rl) ∧ CArg p xs rl x ∧ DoesC CC CH H0 a c x Q
theorem scOfClient : FnScope ["client", "call", "given", "row"] ["client", "call", "given", "row"] (defScope sOfClient) := ⟨rfl, rfl, rfl, by decide +kernel, rfl, by decide +kernel, by decide +kernel⟩
theorem no_ {c : Bool} {A : Prop} (h : c = false) (q : c = true) : A := by
  rw [h] at q
  cases q
theorem no' {c : Bool} {A : Prop} (h : c = true) (q : c = false) : A := by
  rw [h] at q
  cases q
theorem ok_ofClient (D : DefAt K mg "of_client" sOfClient ["client", "call", "given", "row"]) (T : Txt K mg CH CM CC CK CA q1 q2 q3 q4) (GB : DefOk P w K mg base 5 "client_begins" ["client", "value"] (spClBegins CC CH)) (GS : DefOk P w K mg base 5 "client_says" ["client"] (spClSays CC CH))
    (GH : DefOk P w K mg base 5 "client_heard" ["client", "some"] (spClHeard K CC CH)) (GD : DefOk P w K mg base 2 "client_done" ["client"] (spClDone CC CH)) : DefOk P w K mg base 6 "of_client" ["client", "call", "given", "row"] (spOfClient K CC CH) := by
  refine D.ok fun f fd F => F.ok scOfClient (fun vs H Q E h => ?_) (fun cdv A outer s H vs Q E hr h => ?_)
  · obtain ⟨H0, a, c, p, g, r, xs, rl, x, rfl, _⟩ := h
    rfl
  · obtain ⟨H0, a, c, p, g, r, xs, rl, x, rfl, hc, hG, hR, ca, k⟩ := h
    have hr2 : Room 2 _ := hr.mono (by decide)
    refine ⟨_, pss_cons (ps_if (pt_cmpR op_eq (pv 1) pe_int (nomark _)) (pss_one (ps_ret (pe_f GB hr rfl (pa_cons (pv 0) (pa_cons pe_non pa_nil))))) pss_nil)
      (pss_cons (ps_if (pt_cmpR op_eq (pv 1) pe_int (nomark _)) (pss_one (ps_ret (pe_f GB hr rfl (pa_cons (pv 0) (pa_cons (pe_ix ix_list (pv 2) pe_int (fun _ _ => rfl)) pa_nil))))) pss_nil)
      (pss_cons (ps_if (pt_cmpR op_eq (pv 1) pe_int (nomark _)) (pss_one (ps_ret (pe_f GS hr rfl (pa_cons (pv 0) pa_nil)))) pss_nil)
      (pss_cons (ps_if (pt_cmpR op_eq (pv 1) pe_int (nomark _)) (pss_one (ps_ret (pe_f GH hr rfl (pa_cons (pv 0) (pa_cons (pv 3) pa_nil))))) pss_nil)
      (pss_one (ps_ret (pe_f GD hr2 rfl (pa_cons (pv 0) pa_nil))))))), ?_⟩
    cases ca with
    | r =>
      refine ifP (tTest_of (gEq (gVar rfl) gC rfl)) (fun _ => ?_) (fun q => no' (by decide) q)
      exact ⟨_, rfl, H0, a, c, none, rfl, hc, k⟩
    | w k0 v _ hv =>
      refine ifP (tTest_of (gEq (gVar rfl) gC rfl)) (fun q => no_ (by decide) q) (fun _ => nxt ?_)
      refine ifP (tTest_of (gEq (gVar rfl) gC rfl)) (fun _ => ?_) (fun q => no' (by decide) q)
      refine ⟨_, rfl, _, rfl, g, _, _, _, rfl, rfl, hG, atI_nat (j := 1) rfl, H0, a, c, some v.toNat, ?_, hc, k⟩
      show [V.ref a, V.int v] = [V.ref a, V.int ((v.toNat : Nat) : Int)]
      rw [Int.toNat_of_nonneg hv]
    | s =>
      refine ifP (tTest_of (gEq (gVar rfl) gC rfl)) (fun q => no_ (by decide) q) (fun _ => nxt ?_)
      refine ifP (tTest_of (gEq (gVar rfl) gC rfl)) (fun q => no_ (by decide) q) (fun _ => nxt ?_)
      refine ifP (tTest_of (gEq (gVar rfl) gC rfl)) (fun _ => ?_) (fun q => no' (by decide) q)
      exact ⟨_, rfl, H0, a, c, rfl, hc, k⟩
    | h _ _ h24 hb =>
      refine ifP (tTest_of (gEq (gVar rfl) gC rfl)) (fun q => no_ (by decide) q) (fun _ => nxt ?_)
      refine ifP (tTest_of (gEq (gVar rfl) gC rfl)) (fun q => no_ (by decide) q) (fun _ => nxt ?_)
      refine ifP (tTest_of (gEq (gVar rfl) gC rfl)) (fun q => no_ (by decide) q) (fun _ => nxt ?_)
      refine ifP (tTest_of (gEq (gVar rfl) gC rfl)) (fun _ => ?_) (fun q => no' (by decide) q)
      refine ⟨_, rfl, _, rfl, H0, a, c, r, Km356Neutral.nats rl, rfl, hc, ?_, by rw [nats_length]; exact h24, nats_bytes hb, k⟩
      rw [← zv_nats fun z hz => (hb z hz).1]
      exact hR
    | d =>
      refine ifP (tTest_of (gEq (gVar rfl) gC rfl)) (fun q => no_ (by decide) q) (fun _ => nxt ?_)
      refine ifP (tTest_of (gEq (gVar rfl) gC rfl)) (fun q => no_ (by decide) q) (fun _ => nxt ?_)
      refine ifP (tTest_of (gEq (gVar rfl) gC rfl)) (fun q => no_ (by decide) q) (fun _ => nxt ?_)
      refine ifP (tTest_of (gEq (gVar rfl) gC rfl)) (fun q => no_ (by decide) q) (fun _ => nxt ?_)
      exact ⟨_, rfl, H0, a, c, rfl, hc, k⟩
end
end MC
namespace MC
open PySem PySem.Spec PyProof.Rows L2
open Km356Neutral (step)
section
variable {P : Program} {w : World} {K : PySem.W.Frag} {mg : Str → Option Value} {base : Heap} {CH CM CC CK CA q1 q2 q3 q4 : Addr}
theorem dget_of {H : Hp} {a x : Addr} {kvs : List (Key × V)} {i : Nat} (e : H a = some (.dK kvs)) (v : valV kvs (.inl (i : Int)) = some (.ref x)) : DGet H a (.int (i : Int)) (some (.ref x)) := by
  have z := DGet.k (k := Sum.inl (i : Int)) e
  rw [v] at z
  exact z
/-- what the step of a client's call is -/
theorem step_client {s : Km356Neutral.S} {i : Nat} {c : List (List Int)} {x : Km356.Call} (e : step s c = Km356Neutral.step1 s i x) (hi : i < 2) (hx : Km356.isStart x = false) (h : (step s c).2 ≠ []) :
    ∃ a, s.2[i]? = some (some a) ∧ step s c = ((s.1, s.2.set i (some (Km356.cDoes a x).1)), Km356Neutral.told (Km356.cDoes a x).2) := by
  rw [e] at h ⊢
  obtain ⟨a, h1, h2⟩ := step1_some hi hx h
  exact ⟨a, getD_some h1, h2⟩
theorem form_client {p : Int} {xs : List Int} {rows : List (List Int)} (h : Form ((p :: xs) :: rows)) (n : ¬ (p = 0 ∨ p = 1 ∨ p = 2)) : ∃ (i : Nat) (ys : List Int) (x : Km356.Call), xs = (i : Int) :: ys ∧ i < 2 ∧ CArg p xs (rows.getD 0 []) x ∧ Km356.isStart x = false ∧
    ∀ s, step s ((p :: xs) :: rows) = Km356Neutral.step1 s i x := by
  have nat : ∀ k : Int, 0 ≤ k → k ≤ 1 → ∃ i : Nat, k = (i : Int) ∧ i < 2 := fun k h0 h1 => ⟨k.toNat, by omega, by omega⟩
  cases h with
  | f0 => exact absurd (.inl rfl) n
  | f1 => exact absurd (.inr (.inl rfl)) n
  | f2 => exact absurd (.inr (.inr rfl)) n
  | f3 k h0 h1 =>
    obtain ⟨i, rfl, hi⟩ := nat k h0 h1
    exact ⟨i, [], .cRead, rfl, hi, .r _ _, rfl, fun s => rfl⟩
  | f4 k b0 h0 h1 h2 =>
    obtain ⟨i, rfl, hi⟩ := nat k h0 h1
    exact ⟨i, [b0], .cWrite b0.toNat, rfl, hi, .w _ _ _ h2, rfl, fun s => rfl⟩
  | f5 k h0 h1 =>
    obtain ⟨i, rfl, hi⟩ := nat k h0 h1
    exact ⟨i, [], .cSay, rfl, hi, .s _ _, rfl, fun s => rfl⟩
  | f6 k r0 h0 h1 h2 h3 =>
    obtain ⟨i, rfl, hi⟩ := nat k h0 h1
    exact ⟨i, [], .cHeard (Km356Neutral.nats r0), rfl, hi, .h _ _ h2 h3, rfl, fun s => rfl⟩
  | f7 k h0 h1 =>
    obtain ⟨i, rfl, hi⟩ := nat k h0 h1
    exact ⟨i, [], .cDone, rfl, hi, .d _ _, rfl, fun s => rfl⟩
def spAnswer (K : PySem.W.Frag) (CA CK CC CH : Addr) : Sp := fun vs H Q _ => ∃ (H0 : Hp) (m : Addr) (s : Km356Neutral.S) (N : Nat) (p : Int) (g r : Addr) (xs : List Int) (rows : List (List Int)), vs = [.ref m, .int p, .ref g, .ref r] ∧ Mach CA CK CC CH H0 H m s N ∧ N ≤ 16000 ∧
  SqL K H g (zv xs) ∧ SqL K H r (zv (rows.getD 0 [])) ∧ Form ((p :: xs) :: rows) ∧ (step s ((p :: xs) :: rows)).2 ≠ [] ∧
  ∀ (H' : Hp) (q : Addr), Mach CA CK CC CH H0 H' m (step s ((p :: xs) :: rows)).1 (N + 1) → H0 q = none → H' q = some (.lst (zv (step s ((p :: xs) :: rows)).2)) → Q (.ref q) H'
theorem scAnswer : FnScope ["machines", "call", "given", "row"] ["machines", "call", "given", "row"] (defScope sAnswer) := ⟨rfl, rfl, rfl, by decide +kernel, rfl, by decide +kernel, by decide +kernel⟩
theorem small16 {n N : Nat} (h : n ≤ N) (h2 : N ≤ 16000) : n < sizeLine := by
  rw [sizeLine_eq]
  omega
theorem dec_int_f {p n : Int} (h : ¬ p = n) : decide (V.int p = V.int n) = false := by
  rw [int_eq_dec]
  exact decide_eq_false h
theorem ok_answer (D : DefAt K mg "answer" sAnswer ["machines", "call", "given", "row"]) (T : Txt K mg CH CM CC CK CA q1 q2 q3 q4) (GK : DefOk P w K mg base 6 "keeper_started" ["keepers", "which", "me"] (spKpStarted CK CH)) (GH : DefOk P w K mg base 5 "keeper_heard" ["keeper", "some"] (spKpHeard K CK CH))
    (GC : DefOk P w K mg base 6 "client_started" ["clients", "which", "me", "keepers"] (spClStarted CC CH)) (GO : DefOk P w K mg base 6 "of_client" ["client", "call", "given", "row"] (spOfClient K CC CH)) : DefOk P w K mg base 7 "answer" ["machines", "call", "given", "row"] (spAnswer K CA CK CC CH) := by
  refine D.ok fun f fd F => F.ok scAnswer (fun vs H Q E h => ?_) (fun cdv A outer s0 H vs Q E hr h => ?_)
  · obtain ⟨H0, m, s, N, p, g, r, xs, rows, rfl, _⟩ := h
    rfl
  · obtain ⟨H0, m, s, N, p, g, r, xs, rows, rfl, hM, hN, hG, hR, hF, hne, k⟩ := h
    have hr5 : Room 5 _ := hr.mono (by decide)
    refine ⟨_, pss_cons (ps_if (pt_cmpR op_eq (pv 1) pe_int (nomark _)) (pss_one (ps_ret (pe_f GK hr rfl (pa_cons (pe_fld (pv 0) rfl) (pa_cons (pe_ix ix_list (pv 2) pe_int (fun _ _ => rfl)) (pa_cons (pe_ix ix_list (pv 2) pe_int (fun _ _ => rfl)) pa_nil)))))) pss_nil)
      (pss_cons (ps_if (pt_cmpR op_eq (pv 1) pe_int (nomark _)) (pss_one (ps_ret (pe_f GH hr5 rfl (pa_cons (pe_dget (hu_of hr) (pe_fld (pv 0) rfl) (pe_ix ix_list (pv 2) pe_int (fun _ _ => rfl)) (fun _ _ => rfl)) (pa_cons (pv 3) pa_nil))))) pss_nil)
      (pss_cons (ps_if (pt_cmpR op_eq (pv 1) pe_int (nomark _)) (pss_one (ps_ret (pe_f GC hr rfl (pa_cons (pe_fld (pv 0) rfl) (pa_cons (pe_ix ix_list (pv 2) pe_int (fun _ _ => rfl)) (pa_cons (pe_ix ix_list (pv 2) pe_int (fun _ _ => rfl)) (pa_cons (pe_ix ix_list (pv 2) pe_int (fun _ _ => rfl)) pa_nil))))))) pss_nil)
      (pss_one (ps_ret (pe_f GO hr rfl (pa_cons (pe_dget (hu_of hr) (pe_fld (pv 0) rfl) (pe_ix ix_list (pv 2) pe_int (fun _ _ => rfl)) (fun _ _ => rfl)) (pa_cons (pv 1) (pa_cons (pv 2) (pa_cons (pv 3) pa_nil))))))))), ?_⟩
    by_cases h0 : p = 0
    · subst h0
      refine ifP (tTest_of (gEq (gVar rfl) gC rfl)) (fun _ => ?_) (fun q => no' (by decide) q)
      cases hF with
      | f0 k0 b0 a1 a2 a3 =>
        obtain ⟨i, rfl⟩ : ∃ i : Nat, k0 = (i : Int) := ⟨k0.toNat, by omega⟩
        obtain ⟨j, rfl⟩ : ∃ j : Nat, b0 = (j : Int) := ⟨b0.toNat, by omega⟩
        have hi : i < 4 := by omega
        rw [step_kStart s (i : Int) (j : Int) (by rw [Int.toNat_natCast]; exact hi), Int.toNat_natCast, Int.toNat_natCast] at k
        obtain ⟨dx, kd, cd, kk, e1, e2, e3, go⟩ := hM.kStart hi
        refine ⟨_, rfl, m, CA, dx, _, _, rfl, e1, T.lA, T.aKeepers, maF_keepers _ _, _, rfl, g, _, _, _, rfl, rfl, hG, atI_nat (j := 0) rfl, _, rfl, g, _, _, _, rfl, rfl, hG, atI_nat (j := 1) rfl, kd, kk, (i : Int), j, rfl, e2, small16 e3 hN, fun z H' q nq s1 hq => ?_, fun z H' q x nq nx r1 hk R hq => ?_⟩
        · rw [if_pos z] at k
          exact k H' q (hM.keep s1).more (hM.same.free nq) hq
        · rw [if_neg z] at k
          exact k H' q (go H' x _ nx r1 hk R) (hM.same.free nq) hq
    · refine ifP (tTest_of (gEq (gVar rfl) gC rfl)) (fun q => no_ (dec_int_f h0) q) (fun _ => nxt ?_)
      by_cases h1 : p = 1
      · subst h1
        refine ifP (tTest_of (gEq (gVar rfl) gC rfl)) (fun _ => ?_) (fun q => no' (by decide) q)
        cases hF with
        | f1 k0 r0 a1 a2 a3 a4 =>
          obtain ⟨i, rfl⟩ : ∃ i : Nat, k0 = (i : Int) := ⟨k0.toNat, by omega⟩
          have hi : i < 4 := by omega
          obtain ⟨kp, b1, b2⟩ := step_kHeard s (i : Int) r0 (by rw [Int.toNat_natCast]; exact hi) hne
          rw [Int.toNat_natCast] at b1 b2
          rw [b2] at k
          obtain ⟨dx, kd, cd, kk, a, e1, e2, e3, e0, e4, go⟩ := hM.keeper (getD_some b1)
          refine ⟨_, rfl, m, CA, dx, _, _, rfl, e1, T.lA, T.aKeepers, maF_keepers _ _, _, rfl, g, _, _, _, rfl, rfl, hG, atI_nat (j := 0) rfl, kd, _, rfl, dget_of e2 e3, _, rfl, hide H a, a, kp, r, Km356Neutral.nats r0, rfl, e4, ?_, by rw [nats_length]; exact a3, nats_bytes a4, fun H' q K' nq hq => ?_⟩
          · rw [← zv_nats fun z hz => (a4 z hz).1]
            exact hR
          · exact k H' q (go H' _ K').more (e0.free nq) hq
      · refine ifP (tTest_of (gEq (gVar rfl) gC rfl)) (fun q => no_ (dec_int_f h1) q) (fun _ => nxt ?_)
        by_cases h2 : p = 2
        · subst h2
          refine ifP (tTest_of (gEq (gVar rfl) gC rfl)) (fun _ => ?_) (fun q => no' (by decide) q)
          cases hF with
          | f2 k0 b0 c0 a1 a2 a3 a4 =>
            obtain ⟨i, rfl⟩ : ∃ i : Nat, k0 = (i : Int) := ⟨k0.toNat, by omega⟩
            obtain ⟨j, rfl⟩ : ∃ j : Nat, b0 = (j : Int) := ⟨b0.toNat, by omega⟩
            obtain ⟨n, rfl⟩ : ∃ n : Nat, c0 = (n : Int) := ⟨c0.toNat, by omega⟩
            have hi : i < 2 := by omega
            rw [step_cStart s (i : Int) (j : Int) (n : Int) (by rw [Int.toNat_natCast]; exact hi), Int.toNat_natCast, Int.toNat_natCast, Int.toNat_natCast] at k
            obtain ⟨dx, kd, cd, ck, e1, e2, e3, go⟩ := hM.cStart hi
            refine ⟨_, rfl, m, CA, dx, _, _, rfl, e1, T.lA, T.aClients, maF_clients _ _, _, rfl, g, _, _, _, rfl, rfl, hG, atI_nat (j := 0) rfl, _, rfl, g, _, _, _, rfl, rfl, hG, atI_nat (j := 1) rfl, _, rfl, g, _, _, _, rfl, rfl, hG, atI_nat (j := 2) rfl, cd, ck, (i : Int), j, n, rfl, e2, small16 e3 hN, fun z H' q nq s1 hq => ?_, fun z H' q x ad nq nx na r1 hk R hq => ?_⟩
            · rw [if_pos z] at k
              exact k H' q (hM.keep s1).more (hM.same.free nq) hq
            · rw [if_neg z] at k
              exact k H' q (go H' x ad _ nx na r1 hk R) (hM.same.free nq) hq
        · refine ifP (tTest_of (gEq (gVar rfl) gC rfl)) (fun q => no_ (dec_int_f h2) q) (fun _ => nxt ?_)
          obtain ⟨i, ys, x, rfl, hi, ca, hx, hs⟩ := form_client hF (by omega)
          obtain ⟨c, b1, b2⟩ := step_client (hs s) hi hx hne
          rw [b2] at k
          obtain ⟨dx, kd, cd, ck, a, d, e1, e2, e3, e0, e4, go⟩ := hM.client b1
          refine ⟨_, rfl, m, CA, dx, _, _, rfl, e1, T.lA, T.aClients, maF_clients _ _, _, rfl, g, _, _, _, rfl, rfl, hG, atI_nat (j := 0) rfl, cd, _, rfl, dget_of e2 e3, _, rfl, _, rfl, _, rfl, hide (hide H a) d, a, c, p, g, r, _, _, x, rfl, e4, hG, hR, ca, fun H' q C' nq hq => ?_⟩
          exact k H' q (go H' _ C').more (e0.free nq) hq
end
end MC
namespace MC
open PySem PySem.Spec PyProof.Rows L2
section
variable {P : Program} {w : World} {K : PySem.W.Frag} {mg : Str → Option Value} {base : Heap} {CH CM CC CK CA q1 q2 q3 q4 : Addr}
theorem zv_length (l : List Int) : (zv l).length = l.length := List.length_map _
theorem zv_at {l : List Int} {i : Nat} {z : Int} (h : l[i]? = some z) : atI (zv l) (i : Int) = some (.int z) := by
  refine atI_nat (j := i) ?_
  unfold zv
  rw [List.getElem?_map, h]
  rfl
theorem zv_cut (l : List Int) {a b : Nat} (ha : a ≤ l.length) (hb : b ≤ l.length) : cutV (zv l) (some (a : Int)) (some (b : Int)) = zv ((l.drop a).take (b - a)) := by
  rw [cut_both _ (by rw [zv_length]; exact hb) (by rw [zv_length]; exact ha)]
  simp only [zv, List.map_drop, List.map_take]
theorem gnm {i : Nat} {v : V} {σ : L2.St} {H : Hp} {f : L2.St → Hp → Prop} (h : f (σ.set i (some v)) H) : gName i v σ H f := h
def spCallAt (K : PySem.W.Frag) : Sp := fun vs H Q _ => ∃ (a : Addr) (i : Nat) (L : List Int) (c : List (List Int)) (t : List Int), vs = [.ref a, .int (i : Int)] ∧ SqL K H a (zv L) ∧ i < L.length ∧ PyFlat.call PyKm356.shape (L.drop i) = some (c, t) ∧
  ∀ (H' : Hp) (tp g r : Addr) (p : Int) (xs : List Int) (rows : List (List Int)) (e : Nat), Same H H' → H' tp = some (.tup [.int p, .ref g, .ref r, .int (e : Int)]) → c = (p :: xs) :: rows → H' g = some (.lst (zv xs)) → H' r = some (.lst (zv (rows.getD 0 []))) →
    L.drop e = t → i < e → e ≤ L.length → Q (.ref tp) H'
theorem scCallAt : FnScope ["calls", "at", "call", "end", "given", "behind"] ["calls", "at"] (defScope sCallAt) := ⟨rfl, rfl, rfl, by decide +kernel, rfl, by decide +kernel, by decide +kernel⟩
theorem ok_callAt (D : DefAt K mg "call_at" sCallAt ["calls", "at"]) (T : Txt K mg CH CM CC CK CA q1 q2 q3 q4) : DefOk P w K mg base 1 "call_at" ["calls", "at"] (spCallAt K) := by
  refine D.ok fun f fd F => F.ok scCallAt (fun vs H Q E h => ?_) (fun cdv A outer s0 H vs Q E hr h => ?_)
  · obtain ⟨a, i, L, c, t, rfl, _⟩ := h
    rfl
  · obtain ⟨a, i, L, c, t, rfl, hS, hi, hc, k⟩ := h
    obtain ⟨q, n, m, z1, z2, z3, z4, z5⟩ := call_at_facts hi hc
    refine ⟨_, pss_cons (ps_set (i := 2) scCallAt.nd rfl (Or.inl rfl) (pe_ix ix_list (pv 0) (pv 1) (fun _ _ => rfl)))
      (pss_cons (ps_set (i := 3) scCallAt.nd rfl (Or.inl rfl) (pe_op op_add (pe_op op_add (pv 1) pe_int) (pe_ix ix_tup (pe_gt rfl T.gWN) (pv 2) (fun _ _ => rfl))))
      (pss_cons (ps_set (i := 4) scCallAt.nd rfl (Or.inl rfl) (pe_slice sl_list (pv 0) (po_some (pe_op op_add (pv 1) pe_int)) (po_some (pv 3))))
      (pss_cons (ps_if (pt_cmpR op_eq (pe_ix ix_tup (pe_gt rfl T.gRO) (pv 2) (fun _ _ => rfl)) pe_int (nomark _)) (pss_one (ps_ret (pe_tup (pa_cons (pv 2) (pa_cons (pv 4) (pa_cons (pe_lst pa_nil) (pa_cons (pv 3) pa_nil))))))) pss_nil)
      (pss_cons (ps_set (i := 5) scCallAt.nd rfl (Or.inl rfl) (pe_op op_add (pe_op op_add (pv 3) pe_int) (pe_ix ix_list (pv 0) (pv 3) (fun _ _ => rfl))))
      (pss_one (ps_ret (pe_tup (pa_cons (pv 2) (pa_cons (pv 4) (pa_cons (pe_slice sl_list (pv 0) (po_some (pe_op op_add (pv 3) pe_int)) (po_some (pv 5))) (pa_cons (pv 5) pa_nil))))))))))), ?_⟩
    have aW : atI (([2, 1, 3, 1, 2, 1, 1, 1] : List Int).map V.int) (q : Int) = some (.int (n : Int)) := zv_at z2
    have aR : atI (([0, 1, 0, 0, 0, 0, 1, 0] : List Int).map V.int) (q : Int) = some (.int (m : Int)) := zv_at z3
    have ee : (i : Int) + 1 + (n : Int) = ((i + 1 + n : Nat) : Int) := by omega
    have e1 : (i : Int) + 1 = ((i + 1 : Nat) : Int) := by omega
    refine ⟨_, rfl, _, rfl, a, _, _, _, rfl, rfl, hS, zv_at z1, ?_⟩
    refine ⟨_, rfl, _, _, rfl, rfl, _, rfl, q3, _, _, _, rfl, rfl, T.gWN.sq H, aW, _, _, rfl, rfl, ?_⟩
    show tSeq _ _ _ [some (.ref a), some (.int (i : Int)), some (.int (q : Int)), some (.int ((i : Int) + 1 + (n : Int))), none, none] H
    rw [ee]
    refine ⟨_, rfl, _, rfl, _, _, rfl, rfl, _, rfl, _, rfl, _, rfl, a, _, rfl, hS, fun g ng => ?_⟩
    have c1 : cutV (zv L) (some ((i : Int) + 1)) (some ((i + 1 + n : Nat) : Int)) = zv ((L.drop (i + 1)).take n) := by
      rw [e1, zv_cut L (a := i + 1) (b := i + 1 + n) (by omega) z4, show i + 1 + n - (i + 1) = n by omega]
    rw [c1]
    have sg : Same H (upd H g (.lst (zv ((L.drop (i + 1)).take n)))) := Same.add ng
    have em : decide (V.int (m : Int) = V.int 0) = decide (m = 0) := int_eq_nat m 0
    show gName 4 (V.ref g) _ _ _
    refine gnm (nxp ?_)
    refine ifP (a := decide (m = 0)) (by rw [← em]; exact tTest_of (gEq (gIxT gC (gVar rfl) (T.gRO.sq _) aR) gC rfl)) (fun q0 => ?_) (fun q0 => ?_)
    · have m0 := of_decide_eq_true q0
      rcases z5 with ⟨_, ec, et⟩ | ⟨m1, _⟩
      · refine ⟨_, rfl, _, rfl, Nat.zero_le _, fun r nr => ?_⟩
        refine ⟨_, rfl, (by show 4 ≤ sizeLine; decide), fun tp nt => ?_⟩
        have sr := Same.add (o := .lst []) nr
        have st := Same.add (o := .tup [.int (q : Int), .ref g, .ref r, .int ((i + 1 + n : Nat) : Int)]) nt
        exact k _ tp g r (q : Int) _ [] (i + 1 + n) ((sg.trans sr).trans st) upd_same ec (st _ _ (sr _ _ upd_same)) (st _ _ upd_same) et (by omega) z4
      · omega
    · have m0 := of_decide_eq_false q0
      rcases z5 with ⟨m1, _⟩ | ⟨_, cnt, a1, a2, ec, et⟩
      · omega
      · refine nxt ?_
        refine ⟨_, rfl, _, _, rfl, rfl, _, rfl, _, rfl, a, _, _, _, rfl, rfl, sg.seq hS, zv_at a1, _, _, rfl, rfl, ?_⟩
        have e2 : ((i + 1 + n : Nat) : Int) + 1 = ((i + 1 + n + 1 : Nat) : Int) := by omega
        have e3 : ((i + 1 + n : Nat) : Int) + 1 + (cnt : Int) = ((i + 1 + n + 1 + cnt : Nat) : Int) := by omega
        show gName 5 (V.int (((i + 1 + n : Nat) : Int) + 1 + (cnt : Int))) _ _ _
        rw [e3]
        refine gnm (nxp ?_)
        refine ⟨_, rfl, _, rfl, _, rfl, _, rfl, _, _, rfl, rfl, _, rfl, _, rfl, _, rfl, a, _, rfl, sg.seq hS, fun r nr => ?_⟩
        have c2 : cutV (zv L) (some (((i + 1 + n : Nat) : Int) + 1)) (some ((i + 1 + n + 1 + cnt : Nat) : Int)) = zv ((L.drop (i + 1 + n + 1)).take cnt) := by
          rw [e2, zv_cut L (a := i + 1 + n + 1) (b := i + 1 + n + 1 + cnt) (by omega) a2, show i + 1 + n + 1 + cnt - (i + 1 + n + 1) = cnt by omega]
        rw [c2]
        have sr := Same.add (o := .lst (zv ((L.drop (i + 1 + n + 1)).take cnt))) nr
        refine ⟨_, rfl, (by show 4 ≤ sizeLine; decide), fun tp nt => ?_⟩
        have st := Same.add (o := .tup [.int (q : Int), .ref g, .ref r, .int ((i + 1 + n + 1 + cnt : Nat) : Int)]) nt
        exact k _ tp g r (q : Int) _ _ (i + 1 + n + 1 + cnt) ((sg.trans sr).trans st) upd_same ec (st _ _ (sr _ _ upd_same)) (st _ _ upd_same) et (by omega) a2
end
end MC
namespace MC
open PySem PySem.Spec PyProof.Rows L2
open Km356Neutral (step may asked1)
section
variable {CA CK CC CH : Addr} {H0 H0' H H' : Hp} {m : Addr} {s : Km356Neutral.S} {N N' : Nat}
theorem Mach.upTo (M : Mach CA CK CC CH H0 H m s N) (h : N ≤ N') : Mach CA CK CC CH H0 H m s N' := by
  induction N' with
  | zero =>
    have e : N = 0 := by omega
    rw [← e]
    exact M
  | succ n ih =>
    by_cases e : N = n + 1
    · rw [← e]
      exact M
    · exact (ih (by omega)).more
theorem start_keepers (i : Nat) (k : Km356.Keeper) : ¬ (Km356Neutral.start.1)[i]? = some (some k) := by
  show ¬ ([none, none, none, none] : List (Option Km356.Keeper))[i]? = some (some k)
  match i with
  | 0 => exact fun z => by cases z
  | 1 => exact fun z => by cases z
  | 2 => exact fun z => by cases z
  | 3 => exact fun z => by cases z
  | n + 4 => exact fun z => by cases z
theorem start_clients (i : Nat) (c : Km356.Client) : ¬ (Km356Neutral.start.2)[i]? = some (some c) := by
  show ¬ ([none, none] : List (Option Km356.Client))[i]? = some (some c)
  match i with
  | 0 => exact fun z => by cases z
  | 1 => exact fun z => by cases z
  | n + 2 => exact fun z => by cases z
theorem Mach.new {dx kd cd : Addr} (h0 : Same H0 H) (h1 : H0 m = none) (e1 : H m = some (.ins CA dx (maF kd cd))) (n1 : H0 kd = none) (n2 : H0 cd = none) (e2 : H kd = some (.dK [])) (e3 : H cd = some (.dK [])) (ne : kd ≠ cd) : Mach CA CK CC CH H0 H m Km356Neutral.start 0 :=
  ⟨h0, h1, dx, kd, cd, [], [], fun _ => 0, fun _ => 0, fun _ => 0, e1, e2, e3, n1, n2, ne, Nat.le_refl _, Nat.le_refl _, ⟨rfl, fun i k z => absurd z (start_keepers i k), fun i _ k _ z => absurd z (start_keepers i k)⟩,
    ⟨rfl, fun i c z => absurd z (start_clients i c), fun i _ c _ z => absurd z (start_clients i c), fun i _ c _ z => absurd z (start_clients i c)⟩⟩
/-- another list stands where the found ones are gathered -/
theorem Mach.gather {f : Addr} {o o' : HO} {G : Hp} (M : Mach CA CK CC CH (upd G f o) H m s N) (hf : H f = some o) (keep : ∀ C dx fs, o ≠ .ins C dx fs) (keep' : ∀ kvs, o ≠ .dK kvs) : Mach CA CK CC CH (upd G f o') (upd H f o') m s N := by
  obtain ⟨s0, n0, dx, kd, cd, kk, ck, kA, cA, dA, e1, e2, e3, e4, e5, e6, e7, e8, KS, CS⟩ := M
  have nf : ∀ {b}, (upd G f o) b = none → b ≠ f := fun {b} z q => by
    rw [q, upd_same] at z
    cases z
  have un : ∀ {b}, (upd G f o) b = none → (upd G f o') b = none := fun {b} z => by
    have q := nf z
    rw [upd_ne q] at z ⊢
    exact z
  have R : Kept H (upd H f o') f f := fun b u e n _ => by
    rw [upd_ne n]
    exact e
  have nh : NoHeld CH H f := fun g z => by
    obtain ⟨_, e⟩ := z
    rw [hf] at e
    exact keep _ _ _ (Option.some.inj e)
  refine ⟨fun b u e => ?_, un n0, dx, kd, cd, kk, ck, kA, cA, dA, R _ _ e1 (nf n0) (nf n0), R _ _ e2 (nf e4) (nf e4), R _ _ e3 (nf e5) (nf e5), un e4, un e5, e6, e7, e8, ⟨KS.len, fun i k q => ?_, KS.inj⟩, ⟨CS.len, fun i c q => ?_, CS.inj, CS.injD⟩⟩
  · by_cases z : b = f
    · rw [z, upd_same] at e ⊢
      exact e
    · rw [upd_ne z] at e ⊢
      exact s0 _ _ (by rw [upd_ne z]; exact e)
  · obtain ⟨a, b, r⟩ := KS.at_ i k q
    exact ⟨a, un b, r.kept R (nf b) (nf b) nh nh⟩
  · obtain ⟨a, b, c', d, e, r⟩ := CS.at_ i c q
    exact ⟨a, un b, un c', d, e, r.kept R (nf b) (nf b) (nf c') (nf c') nh nh⟩
end
section
variable {P : Program} {w : World} {K : PySem.W.Frag} {mg : Str → Option Value} {base : Heap} {CH CM CC CK CA q1 q2 q3 q4 : Addr}
def spAnswers (K : PySem.W.Frag) : Sp := fun vs H Q _ => ∃ (a : Addr) (L : List Int), vs = [.ref a] ∧ SqL K H a (zv L) ∧ PyKm356.answers_asked L = true ∧ L.length ≤ 16000 ∧
  ∀ (H' : Hp) (p : Addr), H' p = some (.lst (zv (PyKm356.answers L))) → Q (.ref p) H'
theorem scAnswers : FnScope ["calls", "machines", "found", "at", "call", "given", "row", "answered"] ["calls"] (defScope sAnswers) := ⟨rfl, rfl, rfl, by decide +kernel, rfl, by decide +kernel, by decide +kernel⟩
/-- how far it has come -/
structure Far (L : List Int) (at_ : Nat) (s : Km356Neutral.S) (fnd : List Int) (cs : List (List (List Int))) (fuel : Nat) : Prop where
  read : PyFlat.calls PyKm356.shape fuel (L.drop at_) = some cs
  asked : cs.all asked1 = true
  inside : PyInside.calls PyKm356.bound cs = true
  may : may s cs = true
  told : fnd ++ PyFlat.told (PyFlat.played step s cs) = PyKm356.answers L
  short : (PyKm356.answers L).length ≤ 10000000
  le : at_ ≤ L.length
theorem Far.first {L : List Int} (h : PyKm356.answers_asked L = true) : ∃ cs fuel, Far L 0 Km356Neutral.start [] cs fuel := by
  obtain ⟨raw, h1, h2, h3, h4, h5, h6⟩ := asked_of h
  exact ⟨raw, L.length, h1, h3, h2, h4, h5.symm, h6, Nat.zero_le _⟩
theorem Far.next {L : List Int} {at_ fuel : Nat} {s : Km356Neutral.S} {fnd : List Int} {cs : List (List (List Int))} (F : Far L at_ s fnd cs fuel) (h : at_ < L.length) : ∃ c t, PyFlat.call PyKm356.shape (L.drop at_) = some (c, t) ∧ Form c ∧ (step s c).2 ≠ [] ∧
    fnd.length + 1 + (step s c).2.length ≤ 10000000 ∧ ∀ e, L.drop e = t → e ≤ L.length → ∃ cs' fuel', Far L e (step s c).1 (fnd ++ [((step s c).2.length : Int)] ++ (step s c).2) cs' fuel' := by
  have hr := F.read
  rw [List.drop_eq_getElem_cons h] at hr
  obtain ⟨f', c, t, cs', h1, h2, h3⟩ := calls_cons hr
  rw [← List.drop_eq_getElem_cons h] at h1
  have ha := F.asked
  have hi := F.inside
  have hm := F.may
  have ht := F.told
  rw [h3] at ha hi hm ht
  rw [List.all_cons, Bool.and_eq_true] at ha
  have hi' : (PyInside.call PyKm356.bound c && PyInside.calls PyKm356.bound cs') = true := hi
  rw [Bool.and_eq_true] at hi'
  obtain ⟨m1, m2⟩ := may_cons hm
  rw [played_cons, told_cons] at ht
  have ht' : (fnd ++ [((step s c).2.length : Int)] ++ (step s c).2) ++ PyFlat.told (PyFlat.played step (step s c).1 cs') = PyKm356.answers L := by
    rw [← ht]
    simp
  refine ⟨c, t, h1, form_of ha.1 hi'.1, m1, ?_, fun e he hle => ⟨cs', f', by rw [he]; exact h2, ha.2, hi'.2, m2, ht', F.short, hle⟩⟩
  have z := F.short
  rw [← ht'] at z
  simp only [List.length_append, List.length_singleton] at z
  omega
theorem Far.last {L : List Int} {at_ fuel : Nat} {s : Km356Neutral.S} {fnd : List Int} {cs : List (List (List Int))} (F : Far L at_ s fnd cs fuel) (h : ¬ at_ < L.length) : fnd = PyKm356.answers L := by
  have hr := F.read
  rw [List.drop_of_length_le (by omega)] at hr
  have e := calls_nil hr
  have ht := F.told
  rw [e] at ht
  rw [← ht]
  show fnd = fnd ++ []
  rw [List.append_nil]
def atOf (σ : List (Option V)) : Nat := match (σ[3]? : Option (Option V)) with
  | some (some (V.int z)) => z.toNat
  | _ => 0
theorem fn_answers {fa : Addr} {fd : FuncData} (F : Fun K "answers" "answers" sAnswers fa fd) (T : Txt K mg CH CM CC CK CA q1 q2 q3 q4) (GM : InitOk P w K mg base 1 CA ["self"] (spMaInit CA)) (GA : DefOk P w K mg base 7 "answer" ["machines", "call", "given", "row"] (spAnswer K CA CK CC CH))
    (GC : DefOk P w K mg base 1 "call_at" ["calls", "at"] (spCallAt K)) : FnOk P w K mg base CX0 8 fa fd ["calls"] (spAnswers K) := by
  refine F.ok scAnswers (fun vs H Q E h => ?_) (fun cdv A outer sh H vs Q E hr h => ?_)
  · obtain ⟨a, L, rfl, _⟩ := h
    rfl
  · obtain ⟨a, L, rfl, hS, hask, hlen, k⟩ := h
    have hr1 : Room 1 _ := hr.mono (by decide)
    have hr2 : Room 2 _ := hr.mono (by decide)
    refine ⟨_, pss_cons (ps_set (i := 1) scAnswers.nd rfl (Or.inl rfl) (pe_c0 GM hr2 rfl T.cA))
      (pss_cons (ps_set (i := 2) scAnswers.nd rfl (Or.inl rfl) (pe_lst pa_nil))
      (pss_cons (ps_set (i := 3) scAnswers.nd rfl (Or.inl rfl) pe_int)
      (pss_cons (ps_while PassesOwn.never (pt_cmpR op_lt (pv 3) (pe_callB call_len_seq (by rfl) T.len PySem.boot_len (pa_cons (pv 0) pa_nil)) (nomark _))
        (pss_cons (ps_asg (pe_f GC hr1 rfl (pa_cons (pv 0) (pa_cons (pv 3) pa_nil))) (pg_tup rfl (pgs_cons (pg_name (i := 4) scAnswers.nd rfl (Or.inl rfl)) (pgs_cons (pg_name (i := 5) scAnswers.nd rfl (Or.inl rfl)) (pgs_cons (pg_name (i := 6) scAnswers.nd rfl (Or.inl rfl)) (pgs_cons (pg_name (i := 3) scAnswers.nd rfl (Or.inl rfl)) pgs_nil))))))
        (pss_cons (ps_set (i := 7) scAnswers.nd rfl (Or.inl rfl) (pe_f GA hr rfl (pa_cons (pv 1) (pa_cons (pv 4) (pa_cons (pv 5) (pa_cons (pv 6) pa_nil))))))
        (pss_cons (ps_expr (pe_bm PySem.F.plainAttrs_list PySem.F.slot_list_append PySem.F.type_list_append mt_append (pv 2) (pa_cons (pe_callB call_len_seq (by rfl) T.len PySem.boot_len (pa_cons (pv 7) pa_nil)) pa_nil)))
        (pss_one (ps_expr (pe_bm PySem.F.plainAttrs_list PySem.F.slot_list_extend PySem.F.type_list_extend mt_extend (pv 2) (pa_cons (pv 7) pa_nil))))))))
      (pss_one (ps_ret (pv 2)))))), ?_⟩
    intro m dx nm nd nem
    refine ⟨m, dx, rfl, upd_same, fun H1 kd cd h1 nk nc h2 h3 nkc R => ⟨rfl, ?_⟩⟩
    have s1 : Same H H1 := fun b o e => R b o (by rw [upd_ne (ne_of_none e nm), upd_ne (ne_of_none e nd)]; exact e) (ne_of_none e nm)
    have old : ∀ {b : Addr}, (upd (upd H dx (.own m)) m (.ins CA dx [])) b = none → H b = none := fun {b} z => by
      cases y : H b with
      | none => rfl
      | some o =>
        rw [upd_ne (ne_of_none y nm), upd_ne (ne_of_none y nd), y] at z
        cases z
    refine ⟨Nat.zero_le _, fun f nf => ?_⟩
    have nf0 : H f = none := s1.free nf
    have M0 : Mach CA CK CC CH (upd H f (.lst (zv []))) (upd H1 f (.lst (zv []))) m Km356Neutral.start 0 := by
      have z1 : m ≠ f := ne_of_none h1 nf
      have z2 : kd ≠ f := ne_of_none h2 nf
      have z3 : cd ≠ f := ne_of_none h3 nf
      refine Mach.new (dx := dx) (kd := kd) (cd := cd) (fun b u e => ?_) (by rw [upd_ne z1]; exact nm) (by rw [upd_ne z1]; exact h1) (by rw [upd_ne z2]; exact old nk) (by rw [upd_ne z3]; exact old nc) (by rw [upd_ne z2]; exact h2) (by rw [upd_ne z3]; exact h3) nkc
      by_cases z : b = f
      · rw [z, upd_same] at e ⊢
        exact e
      · rw [upd_ne z] at e ⊢
        exact s1 _ _ e
    obtain ⟨cs0, fuel0, F0⟩ := Far.first hask
    refine while_by (fun σ Hc => ∃ (at_ : Nat) (v4 v5 v6 v7 : Option V) (fnd : List Int) (s : Km356Neutral.S) (cs : List (List (List Int))) (fuel : Nat), σ = [some (.ref a), some (.ref m), some (.ref f), some (.int (at_ : Int)), v4, v5, v6, v7] ∧
      Mach CA CK CC CH (upd H f (.lst (zv fnd))) Hc m s at_ ∧ Far L at_ s fnd cs fuel) (fun σ _ => L.length - atOf σ) ⟨0, none, none, none, none, [], _, cs0, fuel0, rfl, M0, F0⟩ ?_ ?_
    · rintro σ Hc ⟨at_, v4, v5, v6, v7, fnd, s, cs, fuel, rfl, M, Fr⟩
      have hSc : SqL K Hc a (zv L) := M.same.seq ((Same.add nf0).seq hS)
      refine ⟨_, rfl, _, rfl, a, _, rfl, .inl hSc, _, _, rfl, rfl, _, rfl, ?_⟩
      have ed : decide ((at_ : Int) < ((zv L).length : Int)) = decide (at_ < L.length) := by
        rw [zv_length]
        exact lt_nat _ _
      show if decide ((at_ : Int) < ((zv L).length : Int)) = true then _ else _
      rw [ed]
      refine if_dec (fun q => ?_) (fun q => ?_)
      · have hlt := of_decide_eq_true q
        obtain ⟨c, t, hc, hform, hne, hroom, hnext⟩ := Fr.next hlt
        refine ⟨_, rfl, _, rfl, a, at_, L, c, t, rfl, hSc, hlt, hc, fun H2 tp g r p xs rows e s2 htp ec hg hrw he hlt2 hle => ?_⟩
        have M2 := M.keep s2
        refine ⟨tp, _, rfl, SqT.of htp, rfl, ?_⟩
        refine ⟨_, _, rfl, _, _, rfl, _, _, rfl, _, _, rfl, rfl, ?_⟩
        subst ec
        refine ⟨_, rfl, _, rfl, _, rfl, _, rfl, upd H f (.lst (zv fnd)), m, s, at_, p, g, r, xs, rows, rfl, M2, by omega, SqL.of hg, SqL.of hrw, hform, hne, fun H3 x M3 nx hx => ?_⟩
        obtain ⟨cs', fuel', Fn⟩ := hnext e he hle
        generalize step s ((p :: xs) :: rows) = stp at *
        have hf3 : H3 f = some (.lst (zv fnd)) := M3.same _ _ upd_same
        have nxf : x ≠ f := fun z => by
          rw [z, upd_same] at nx
          cases nx
        have l1 : (zv fnd).length < sizeLine := by
          rw [zv_length, sizeLine_eq]
          omega
        refine ⟨_, rfl, .inl ⟨rfl, _, SqL.of hf3⟩, _, rfl, x, _, rfl, .inl (SqL.of hx), f, _, _, rfl, rfl, hf3, l1, ?_⟩
        have M4 := M3.gather (o' := .lst (zv fnd ++ [.int ((zv stp.2).length : Int)])) hf3 (fun _ _ _ z => by cases z) (fun _ z => by cases z)
        refine ⟨_, rfl, .inl ⟨rfl, _, SqL.of upd_same⟩, _, rfl, f, x, _, _, rfl, rfl, upd_same, (upd_ne nxf).trans hx, ?_, ?_⟩
        · rw [List.length_append, zv_length, zv_length, List.length_singleton, sizeLine_eq]
          omega
        · have M5 := M4.gather (o' := .lst (zv fnd ++ [.int ((zv stp.2).length : Int)] ++ zv stp.2)) upd_same (fun _ _ _ z => by cases z) (fun _ z => by cases z)
          have ez : zv fnd ++ [V.int ((zv stp.2).length : Int)] ++ zv stp.2 = zv (fnd ++ [(stp.2.length : Int)] ++ stp.2) := by
            rw [zv_length]
            simp [zv]
          rw [ez] at M5 ⊢
          refine ⟨⟨e, _, _, _, _, _, _, cs', fuel', rfl, M5.upTo (by omega), Fn⟩, ?_⟩
          show L.length - ((e : Int)).toNat < L.length - ((at_ : Int)).toNat
          rw [Int.toNat_natCast, Int.toNat_natCast]
          omega
      · have hlt := of_decide_eq_false q
        have efn := Fr.last hlt
        refine ⟨_, rfl, k Hc f ?_⟩
        rw [← efn]
        exact M.same _ _ upd_same
    · rintro σ Hc Q1 Q2 mono ⟨v, e1, v2, e2, p, ys, e3, e4, i, j, e5, e6, b, e7, q⟩
      exact ⟨v, e1, v2, e2, p, ys, e3, e4, i, j, e5, e6, b, e7, mono _ _ q⟩
end
end MC
namespace MC
open PySem PySem.Spec PyProof.Rows L2
/-! ### what the top has written -/
section
variable {P : Program} {w : World} {K : PySem.W.Frag} {h : Heap} {mg : Str → Option Value}
theorem gi_at {x : Str} {n : Int} {t : Tok} (X : K.In h) (G : h.Ns mainGlobals mg) (a : PySem.W.nsIn K mainGlobals x = some (some (.int n t))) : GiM mg x n := ⟨t, PySem.W.mg_of X G a⟩
theorem na_at {C : Addr} {f : Str} (a : PySem.W.findIn K (.ref C) f = some none) : NoAttr K C f := a
theorem gt_at2 {x : Str} {i j : Int} {t1 t2 : Tok} {q : Addr} {od : Option Addr} {nn : Nat} {sl : Array (Option Value)} (X : K.In h) (G : h.Ns mainGlobals mg) (a : PySem.W.nsIn K mainGlobals x = some (some (.ref q)))
    (l : K.lookup q = some ⟨.type "tuple", od, .seq #[.int i t1, .int j t2] nn, sl⟩) : GtM K mg x [i, j] q :=
  ⟨PySem.W.mg_of X G a, _, _, nn, l, rfl, rfl, (by show 2 ≤ sizeLine; decide), .cons ⟨_, rfl⟩ (.cons ⟨_, rfl⟩ .nil)⟩
theorem gt_at8 {x : Str} {i1 i2 i3 i4 i5 i6 i7 i8 : Int} {t1 t2 t3 t4 t5 t6 t7 t8 : Tok} {q : Addr} {od : Option Addr} {nn : Nat} {sl : Array (Option Value)} (X : K.In h) (G : h.Ns mainGlobals mg) (a : PySem.W.nsIn K mainGlobals x = some (some (.ref q)))
    (l : K.lookup q = some ⟨.type "tuple", od, .seq #[.int i1 t1, .int i2 t2, .int i3 t3, .int i4 t4, .int i5 t5, .int i6 t6, .int i7 t7, .int i8 t8] nn, sl⟩) : GtM K mg x [i1, i2, i3, i4, i5, i6, i7, i8] q :=
  ⟨PySem.W.mg_of X G a, _, _, nn, l, rfl, rfl, (by show 8 ≤ sizeLine; decide), .cons ⟨_, rfl⟩ (.cons ⟨_, rfl⟩ (.cons ⟨_, rfl⟩ (.cons ⟨_, rfl⟩ (.cons ⟨_, rfl⟩ (.cons ⟨_, rfl⟩ (.cons ⟨_, rfl⟩ (.cons ⟨_, rfl⟩ .nil)))))))⟩
theorem def_at {x : Str} {st : Stmt} {ps : List Str} {f : Addr} {od an : Option Addr} {sl : Array (Option Value)} {oc kV dc pm cd ct : Value} (X : K.In h) (G : h.Ns mainGlobals mg) (a : PySem.W.nsIn K mainGlobals x = some (some (.ref f)))
    (l : K.lookup f = some ⟨oc, od, .func (PySem.W.fnOf x x (defArgs st) (defBody st) (defScope st) .none kV dc pm an cd ct), sl⟩) (c : PySem.W.codeIn K cd x = true) (k : PySem.W.keepIn K (.ref f) = true)
    (hb : ∀ (kV doc pm : Value) (an : Option Addr) (cdv ct : Value) (us : List Value), us.length = ps.length → bindArgs (PySem.W.fnOf x x (defArgs st) (defBody st) (defScope st) .none kV doc pm an cdv ct) ⟨us, []⟩ = pure (ps.zip us)) : DefAt K mg x st ps :=
  ⟨⟨f, _, PySem.W.mg_of X G a, fun_mk l c k, (fun_mk l c k).binds hb⟩⟩
theorem meth_at {C : Addr} {x qual : Str} {st : Stmt} {ps : List Str} {f : Addr} {od an : Option Addr} {sl : Array (Option Value)} {oc kV dc pm cd ct : Value} (_X : K.In h) (a : PySem.W.findIn K (.ref C) x = some (some (.ref f))) (i : PySem.W.isFn K (.ref f) = true)
    (l : K.lookup f = some ⟨oc, od, .func (PySem.W.fnOf x qual (defArgs st) (defBody st) (defScope st) .none kV dc pm an cd ct), sl⟩) (c : PySem.W.codeIn K cd qual = true) (k : PySem.W.keepIn K (.ref f) = true)
    (hb : ∀ (kV doc pm : Value) (an : Option Addr) (cdv ct : Value) (us : List Value), us.length = ps.length → bindArgs (PySem.W.fnOf x qual (defArgs st) (defBody st) (defScope st) .none kV doc pm an cdv ct) ⟨us, []⟩ = pure (ps.zip us)) : MethAt K C x qual st ps :=
  ⟨⟨f, _, ⟨a, i, k⟩, fun_mk l c k, (fun_mk l c k).binds hb⟩⟩
theorem init_at {C : Addr} {qual : Str} {st : Stmt} {ps : List Str} {f : Addr} {od an : Option Addr} {sl : Array (Option Value)} {oc kV dc pm cd ct : Value} (_X : K.In h) (a : PySem.W.findIn K (.ref C) "__init__" = some (some (.ref f))) (i : PySem.W.isFn K (.ref f) = true)
    (l : K.lookup f = some ⟨oc, od, .func (PySem.W.fnOf "__init__" qual (defArgs st) (defBody st) (defScope st) .none kV dc pm an cd ct), sl⟩) (c : PySem.W.codeIn K cd qual = true) (k : PySem.W.keepIn K (.ref f) = true) (mk : PySem.W.makesIn K C = true) (kc : PySem.W.keepIn K (.ref C) = true)
    (hb : ∀ (kV doc pm : Value) (an : Option Addr) (cdv ct : Value) (us : List Value), us.length = ps.length → bindArgs (PySem.W.fnOf "__init__" qual (defArgs st) (defBody st) (defScope st) .none kV doc pm an cdv ct) ⟨us, []⟩ = pure (ps.zip us)) : InitAt K C qual st ps :=
  ⟨⟨f, _, ⟨mk, a, i, kc⟩, fun_mk l c k, (fun_mk l c k).binds hb⟩⟩
end
/-- all promises, one behind another -/
theorem all_ok {P : Program} {w : World} {K : PySem.W.Frag} {h : Heap} {mg : Str → Option Value} {fa CH CM CC CK CA q1 q2 q3 q4 : Addr} (X : K.In h) (G : h.Ns mainGlobals mg) (hfa : mg "answers" = some (.ref fa))
    (aHeld : PySem.W.nsIn K mainGlobals "Held" = some (some (.ref CH)))
    (aMessage : PySem.W.nsIn K mainGlobals "Message" = some (some (.ref CM)))
    (aClient : PySem.W.nsIn K mainGlobals "Client" = some (some (.ref CC)))
    (aKeeper : PySem.W.nsIn K mainGlobals "Keeper" = some (some (.ref CK)))
    (aMachines : PySem.W.nsIn K mainGlobals "Machines" = some (some (.ref CA)))
    (gONES : GiM mg "ALL_ONES" 4294967295)
    (gPOLY : GiM mg "POLYNOMIAL" 2197175160)
    (gCB : GiM mg "CHECK_BYTES" 4)
    (gASK : GiM mg "ASK" 1)
    (gTELL : GiM mg "TELL_HELD" 2)
    (gHOLD : GiM mg "HOLD" 3)
    (gIS : GiM mg "IS_HELD" 4)
    (gMC : GiM mg "MOST_CLIENT" 15)
    (gMK : GiM mg "MOST_KEEPER" 14)
    (gLONG : GiM mg "LONG" 20)
    (gMKS : GiM mg "MOST_KEEPERS" 15)
    (gMO : GiM mg "MOST_OPERATIONS" 4294967295)
    (gMN : GiM mg "MOST_NUMBER" 4294967295)
    (gNB : GiM mg "NOTHING_BEGUN" 0)
    (gASKING : GiM mg "ASKING" 1)
    (gHOLDING : GiM mg "HOLDING" 2)
    (gDONE : GiM mg "DONE" 3)
    (gFAILED : GiM mg "FAILED" 4)
    (gQ : GtM K mg "QUESTIONS" [1, 3] q1)
    (gWH : GtM K mg "WITHOUT_HELD" [1, 4] q2)
    (gWN : GtM K mg "WHOLE_NUMBERS" [2, 1, 3, 1, 2, 1, 1, 1] q3)
    (gRO : GtM K mg "ROWS" [0, 1, 0, 0, 0, 0, 1, 0] q4)
    (brange : PySem.W.nsIn K mainGlobals "range" = some none)
    (brev : PySem.W.nsIn K mainGlobals "reversed" = some none)
    (blen : PySem.W.nsIn K mainGlobals "len" = some none)
    (bint : PySem.W.nsIn K mainGlobals "int" = some none)
    (lHeld : Cls K CH)
    (lMessage : Cls K CM)
    (lClient : Cls K CC)
    (lKeeper : Cls K CK)
    (lMachines : Cls K CA)
    (nHeld_number : NoAttr K CH "number")
    (nHeld_client : NoAttr K CH "client")
    (nHeld_value : NoAttr K CH "value")
    (nMessage_kind : NoAttr K CM "kind")
    (nMessage_client : NoAttr K CM "client")
    (nMessage_keeper : NoAttr K CM "keeper")
    (nMessage_operation : NoAttr K CM "operation")
    (nMessage_held : NoAttr K CM "held")
    (nClient_me : NoAttr K CC "me")
    (nClient_keepers : NoAttr K CC "keepers")
    (nClient_begun : NoAttr K CC "begun")
    (nClient_stands : NoAttr K CC "stands")
    (nClient_own : NoAttr K CC "own")
    (nClient_held : NoAttr K CC "held")
    (nClient_answered : NoAttr K CC "answered")
    (nKeeper_me : NoAttr K CK "me")
    (nKeeper_held : NoAttr K CK "held")
    (nMachines_keepers : NoAttr K CA "keepers")
    (nMachines_clients : NoAttr K CA "clients")
    (d0 : DefAt K mg "behind_byte" sBehind ["check", "byte"])
    (d1 : DefAt K mg "check_of" sCheck ["some"])
    (d2 : DefAt K mg "number_bytes" sNumBytes ["number", "many"])
    (d3 : DefAt K mg "bytes_number" sBytesNum ["some"])
    (d4 : DefAt K mg "nothing_held" sNothing [])
    (d5 : DefAt K mg "are_in_range" sInRange ["message"])
    (d6 : DefAt K mg "are_noughts_right" sNoughts ["message"])
    (d7 : DefAt K mg "message_of" sMsgOf ["some"])
    (d8 : DefAt K mg "client_started" sClStarted ["clients", "which", "me", "keepers"])
    (d9 : DefAt K mg "client_begins" sClBegins ["client", "value"])
    (d10 : DefAt K mg "client_says" sClSays ["client"])
    (d11 : DefAt K mg "client_heard" sClHeard ["client", "some"])
    (d12 : DefAt K mg "client_done" sClDone ["client"])
    (d13 : DefAt K mg "keeper_started" sKpStarted ["keepers", "which", "me"])
    (d14 : DefAt K mg "keeper_heard" sKpHeard ["keeper", "some"])
    (d15 : DefAt K mg "of_client" sOfClient ["client", "call", "given", "row"])
    (d16 : DefAt K mg "answer" sAnswer ["machines", "call", "given", "row"])
    (d17 : DefAt K mg "call_at" sCallAt ["calls", "at"])
    (d18 : DefAt K mg "answers" sAnswers ["calls"])
    (i0 : InitAt K CH "Held.__init__" sHeldInit ["self", "number", "client", "value"])
    (i1 : InitAt K CM "Message.__init__" sMsgInit ["self", "kind", "client", "keeper", "operation", "held"])
    (i2 : InitAt K CC "Client.__init__" sClInit ["self", "me", "keepers"])
    (i3 : InitAt K CK "Keeper.__init__" sKpInit ["self", "me"])
    (i4 : InitAt K CA "Machines.__init__" sMaInit ["self"])
    (m0 : MethAt K CH "stamp" "Held.stamp" sStamp ["self"])
    (m1 : MethAt K CH "is_nothing" "Held.is_nothing" sIsNothing ["self"])
    (m2 : MethAt K CM "is_question" "Message.is_question" sIsQ ["self"])
    (m3 : MethAt K CM "as_bytes" "Message.as_bytes" sAsBytes ["self"])
    (m4 : MethAt K CC "goes_on" "Client.goes_on" sGoesOn ["self"])
    (m5 : MethAt K CC "begin" "Client.begin" sBegin ["self", "value"])
    (m6 : MethAt K CC "question" "Client.question" sQuestion ["self"])
    (m7 : MethAt K CC "is_answer" "Client.is_answer" sIsAnswer ["self", "message"])
    (m8 : MethAt K CC "hear" "Client.hear" sClHear ["self", "message"])
    (m9 : MethAt K CC "go_on" "Client.go_on" sGoOn ["self"])
    (m10 : MethAt K CK "hear" "Keeper.hear" sKpHear ["self", "question"])
    : ∃ fd : FuncData, (∀ (s : Shared) (us : List Value), us.length = (["calls"] : List Str).length → BindsTo s fd ⟨us, []⟩ ((["calls"] : List Str).zip us)) ∧ ∀ base : Heap, K.In base → base.Ns mainGlobals mg → FnOk P w K mg base CX0 8 fa fd ["calls"] (spAnswers K) := by
  have T : Txt K mg CH CM CC CK CA q1 q2 q3 q4 := ⟨gONES, gPOLY, gCB, gASK, gTELL, gHOLD, gIS, gMC, gMK, gLONG, gMKS, gMO, gMN, gNB, gASKING, gHOLDING, gDONE, gFAILED, gQ, gWH, gWN, gRO, PySem.W.mg_none_of X G brange, PySem.W.mg_none_of X G brev, PySem.W.mg_none_of X G blen, PySem.W.mg_none_of X G bint, PySem.W.mg_of X G aHeld, PySem.W.mg_of X G aMessage, PySem.W.mg_of X G aClient, PySem.W.mg_of X G aKeeper, PySem.W.mg_of X G aMachines, lHeld, lMessage, lClient, lKeeper, lMachines, nHeld_number, nHeld_client, nHeld_value, nMessage_kind, nMessage_client, nMessage_keeper, nMessage_operation, nMessage_held, nClient_me, nClient_keepers, nClient_begun, nClient_stands, nClient_own, nClient_held, nClient_answered, nKeeper_me, nKeeper_held, nMachines_keepers, nMachines_clients⟩
  obtain ⟨f, fd, e, F, _⟩ := d18.ex
  have ef := hfa.symm.trans e
  cases ef
  refine ⟨fd, fun s us hu => ?_, fun base _ _ => ?_⟩
  · obtain ⟨oc, od, kV, doc, pm, an, cdv, ct, osl, rfl, lk, hcd⟩ := F.ex
    exact match us, hu with | [_], _ => .of_eq rfl
  have g0 : DefOk P w K mg base 1 "behind_byte" ["check", "byte"] spBehind := ok_behind d0 T
  have g1 := ok_check d1 T g0
  have g2 : DefOk P w K mg base 1 "number_bytes" ["number", "many"] spNumBytes := ok_numBytes d2 T
  have g3 : DefOk P w K mg base 1 "bytes_number" ["some"] (spBytesNum K) := ok_bytesNum d3 T
  have n0 : InitOk P w K mg base 1 CH ["self", "number", "client", "value"] (spHeldInit CH) := ok_heldInit i0 T
  have p0 : MethOk P w K mg base 1 CH "stamp" ["self"] (spStamp CH) := ok_stamp m0 T
  have p1 : MethOk P w K mg base 1 CH "is_nothing" ["self"] (spIsNothing CH) := ok_isNothing m1 T
  have n1 : InitOk P w K mg base 1 CM ["self", "kind", "client", "keeper", "operation", "held"] (spMsgInit CM) := ok_msgInit i1 T
  have p2 : MethOk P w K mg base 1 CM "is_question" ["self"] (spIsQ CM CH) := ok_isQ m2 T
  have g4 := ok_nothing d4 T n0
  have g5 : DefOk P w K mg base 1 "are_in_range" ["message"] (spInRange CM CH) := ok_inRange d5 T
  have g6 := ok_noughts d6 T p2 p1
  have p3 := ok_asBytes m3 T g2 g1
  have g7 := ok_msgOf d7 T g3 g1 n0 n1 g5 g6
  have n3 := ok_kpInit i3 T g4
  have p10 := ok_kpHear m10 T g4 n1 p0
  have g13 := ok_kpStarted d13 T n3
  have g14 := ok_kpHeard d14 T g7 p2 p10 p3
  have n2 := ok_clInit i2 T g4
  have p4 : MethOk P w K mg base 1 CC "goes_on" ["self"] (spGoesOn CC CH) := ok_goesOn m4 T
  have p5 := ok_begin m5 T g4
  have p6 := ok_question m6 T g4 n1
  have p7 : MethOk P w K mg base 2 CC "is_answer" ["self", "message"] (spIsAnswer CC CM CH) := ok_isAnswer m7 T p4
  have p9 := ok_goOn m9 T n0
  have p8 : MethOk P w K mg base 4 CC "hear" ["self", "message"] (spClHear CC CM CH) := ok_clHear m8 T p0 p9
  have g8 := ok_clStarted d8 T n2
  have g9 := ok_clBegins d9 T p4 p5
  have g10 := ok_clSays d10 T p4 p6 p3
  have g11 := ok_clHeard d11 T g7 p7 p8
  have g12 := ok_clDone d12 T p4
  have g15 := ok_ofClient d15 T g9 g10 g11 g12
  have g16 := ok_answer d16 T g13 g14 g8 g15
  have g17 : DefOk P w K mg base 1 "call_at" ["calls", "at"] (spCallAt K) := ok_callAt d17 T
  have n4 : InitOk P w K mg base 1 CA ["self"] (spMaInit CA) := ok_maInit i4 T
  exact fn_answers F T n4 g16 g17
end MC
open PySem PySem.W PyProof.Rows
set_option maxRecDepth 100000 in
set_option maxHeartbeats 8000000 in
theorem PySem.Challenge.cw_mostcell_s01_answers_holds : PySem.Challenge.rw_mostcell_s01_answers.Holds := by
  w_on; k_headS; (case hw => exact ⟨[.list [.int 0, .int 0, .int 0]], by decide +kernel, by decide +kernel⟩)
  k_fillS
  refine L2.walk_specK (r := PySem.Challenge.rw_mostcell_s01_answers) (k := 8) (CX := L2.CX0) (ps := ["calls"]) (sp := MC.spAnswers) (by decide +kernel) rfl rfl ⟨rfl, by decide, by decide⟩ (fun w h Y => PySem.W.kIn_of Y) ?F ?S (fun _ _ _ _ z => z)
  case F =>
    intro w mg fa h Y KX G hmg
    refine' MC.all_ok KX G hmg ?zq_aHeld ?zq_aMessage ?zq_aClient ?zq_aKeeper ?zq_aMachines ?zq_gONES ?zq_gPOLY ?zq_gCB ?zq_gASK ?zq_gTELL ?zq_gHOLD ?zq_gIS ?zq_gMC ?zq_gMK ?zq_gLONG ?zq_gMKS ?zq_gMO ?zq_gMN ?zq_gNB ?zq_gASKING ?zq_gHOLDING ?zq_gDONE ?zq_gFAILED ?zq_gQ ?zq_gWH ?zq_gWN ?zq_gRO ?zq_brange ?zq_brev ?zq_blen ?zq_bint ?zq_lHeld ?zq_lMessage ?zq_lClient ?zq_lKeeper ?zq_lMachines ?zq_nHeld_number ?zq_nHeld_client ?zq_nHeld_value ?zq_nMessage_kind ?zq_nMessage_client ?zq_nMessage_keeper ?zq_nMessage_operation ?zq_nMessage_held ?zq_nClient_me ?zq_nClient_keepers ?zq_nClient_begun ?zq_nClient_stands ?zq_nClient_own ?zq_nClient_held ?zq_nClient_answered ?zq_nKeeper_me ?zq_nKeeper_held ?zq_nMachines_keepers ?zq_nMachines_clients ?zq_d0 ?zq_d1 ?zq_d2 ?zq_d3 ?zq_d4 ?zq_d5 ?zq_d6 ?zq_d7 ?zq_d8 ?zq_d9 ?zq_d10 ?zq_d11 ?zq_d12 ?zq_d13 ?zq_d14 ?zq_d15 ?zq_d16 ?zq_d17 ?zq_d18 ?zq_i0 ?zq_i1 ?zq_i2 ?zq_i3 ?zq_i4 ?zq_m0 ?zq_m1 ?zq_m2 ?zq_m3 ?zq_m4 ?zq_m5 ?zq_m6 ?zq_m7 ?zq_m8 ?zq_m9 ?zq_m10
    (case zq_aHeld => k_is)
    (case zq_aMessage => k_is)
    (case zq_aClient => k_is)
    (case zq_aKeeper => k_is)
    (case zq_aMachines => k_is)
    (case zq_gONES => (refine' MC.gi_at KX G ?zr1; (case zr1 => k_is)))
    (case zq_gPOLY => (refine' MC.gi_at KX G ?zr2; (case zr2 => k_is)))
    (case zq_gCB => (refine' MC.gi_at KX G ?zr3; (case zr3 => k_is)))
    (case zq_gASK => (refine' MC.gi_at KX G ?zr4; (case zr4 => k_is)))
    (case zq_gTELL => (refine' MC.gi_at KX G ?zr5; (case zr5 => k_is)))
    (case zq_gHOLD => (refine' MC.gi_at KX G ?zr6; (case zr6 => k_is)))
    (case zq_gIS => (refine' MC.gi_at KX G ?zr7; (case zr7 => k_is)))
    (case zq_gMC => (refine' MC.gi_at KX G ?zr8; (case zr8 => k_is)))
    (case zq_gMK => (refine' MC.gi_at KX G ?zr9; (case zr9 => k_is)))
    (case zq_gLONG => (refine' MC.gi_at KX G ?zr10; (case zr10 => k_is)))
    (case zq_gMKS => (refine' MC.gi_at KX G ?zr11; (case zr11 => k_is)))
    (case zq_gMO => (refine' MC.gi_at KX G ?zr12; (case zr12 => k_is)))
    (case zq_gMN => (refine' MC.gi_at KX G ?zr13; (case zr13 => k_is)))
    (case zq_gNB => (refine' MC.gi_at KX G ?zr14; (case zr14 => k_is)))
    (case zq_gASKING => (refine' MC.gi_at KX G ?zr15; (case zr15 => k_is)))
    (case zq_gHOLDING => (refine' MC.gi_at KX G ?zr16; (case zr16 => k_is)))
    (case zq_gDONE => (refine' MC.gi_at KX G ?zr17; (case zr17 => k_is)))
    (case zq_gFAILED => (refine' MC.gi_at KX G ?zr18; (case zr18 => k_is)))
    (case zq_gQ => (refine' MC.gt_at2 KX G ?zr19 ?zr20; (case zr19 => k_is); (case zr20 => k_is)))
    (case zq_gWH => (refine' MC.gt_at2 KX G ?zr21 ?zr22; (case zr21 => k_is); (case zr22 => k_is)))
    (case zq_gWN => (refine' MC.gt_at8 KX G ?zr23 ?zr24; (case zr23 => k_is); (case zr24 => k_is)))
    (case zq_gRO => (refine' MC.gt_at8 KX G ?zr25 ?zr26; (case zr25 => k_is); (case zr26 => k_is)))
    (case zq_brange => k_is)
    (case zq_brev => k_is)
    (case zq_blen => k_is)
    (case zq_bint => k_is)
    (case zq_lHeld => (refine' ⟨?zr27, ?zr28, ?zr29, ?zr30⟩; (case zr27 => k_is); (case zr28 => k_is); (case zr29 => k_is); (case zr30 => k_is)))
    (case zq_lMessage => (refine' ⟨?zr31, ?zr32, ?zr33, ?zr34⟩; (case zr31 => k_is); (case zr32 => k_is); (case zr33 => k_is); (case zr34 => k_is)))
    (case zq_lClient => (refine' ⟨?zr35, ?zr36, ?zr37, ?zr38⟩; (case zr35 => k_is); (case zr36 => k_is); (case zr37 => k_is); (case zr38 => k_is)))
    (case zq_lKeeper => (refine' ⟨?zr39, ?zr40, ?zr41, ?zr42⟩; (case zr39 => k_is); (case zr40 => k_is); (case zr41 => k_is); (case zr42 => k_is)))
    (case zq_lMachines => (refine' ⟨?zr43, ?zr44, ?zr45, ?zr46⟩; (case zr43 => k_is); (case zr44 => k_is); (case zr45 => k_is); (case zr46 => k_is)))
    (case zq_nHeld_number => (refine' MC.na_at ?zr47; (case zr47 => k_is)))
    (case zq_nHeld_client => (refine' MC.na_at ?zr48; (case zr48 => k_is)))
    (case zq_nHeld_value => (refine' MC.na_at ?zr49; (case zr49 => k_is)))
    (case zq_nMessage_kind => (refine' MC.na_at ?zr50; (case zr50 => k_is)))
    (case zq_nMessage_client => (refine' MC.na_at ?zr51; (case zr51 => k_is)))
    (case zq_nMessage_keeper => (refine' MC.na_at ?zr52; (case zr52 => k_is)))
    (case zq_nMessage_operation => (refine' MC.na_at ?zr53; (case zr53 => k_is)))
    (case zq_nMessage_held => (refine' MC.na_at ?zr54; (case zr54 => k_is)))
    (case zq_nClient_me => (refine' MC.na_at ?zr55; (case zr55 => k_is)))
    (case zq_nClient_keepers => (refine' MC.na_at ?zr56; (case zr56 => k_is)))
    (case zq_nClient_begun => (refine' MC.na_at ?zr57; (case zr57 => k_is)))
    (case zq_nClient_stands => (refine' MC.na_at ?zr58; (case zr58 => k_is)))
    (case zq_nClient_own => (refine' MC.na_at ?zr59; (case zr59 => k_is)))
    (case zq_nClient_held => (refine' MC.na_at ?zr60; (case zr60 => k_is)))
    (case zq_nClient_answered => (refine' MC.na_at ?zr61; (case zr61 => k_is)))
    (case zq_nKeeper_me => (refine' MC.na_at ?zr62; (case zr62 => k_is)))
    (case zq_nKeeper_held => (refine' MC.na_at ?zr63; (case zr63 => k_is)))
    (case zq_nMachines_keepers => (refine' MC.na_at ?zr64; (case zr64 => k_is)))
    (case zq_nMachines_clients => (refine' MC.na_at ?zr65; (case zr65 => k_is)))
    (case zq_d0 => (refine' MC.def_at KX G ?zr66 ?zr67 ?zr68 ?zr69 (fun _ _ _ _ _ _ us hl => match us, hl with | [_, _], _ => rfl); (case zr66 => k_is); (case zr67 => k_is); (case zr68 => k_is); (case zr69 => k_is)))
    (case zq_d1 => (refine' MC.def_at KX G ?zr70 ?zr71 ?zr72 ?zr73 (fun _ _ _ _ _ _ us hl => match us, hl with | [_], _ => rfl); (case zr70 => k_is); (case zr71 => k_is); (case zr72 => k_is); (case zr73 => k_is)))
    (case zq_d2 => (refine' MC.def_at KX G ?zr74 ?zr75 ?zr76 ?zr77 (fun _ _ _ _ _ _ us hl => match us, hl with | [_, _], _ => rfl); (case zr74 => k_is); (case zr75 => k_is); (case zr76 => k_is); (case zr77 => k_is)))
    (case zq_d3 => (refine' MC.def_at KX G ?zr78 ?zr79 ?zr80 ?zr81 (fun _ _ _ _ _ _ us hl => match us, hl with | [_], _ => rfl); (case zr78 => k_is); (case zr79 => k_is); (case zr80 => k_is); (case zr81 => k_is)))
    (case zq_d4 => (refine' MC.def_at KX G ?zr82 ?zr83 ?zr84 ?zr85 (fun _ _ _ _ _ _ us hl => match us, hl with | [], _ => rfl); (case zr82 => k_is); (case zr83 => k_is); (case zr84 => k_is); (case zr85 => k_is)))
    (case zq_d5 => (refine' MC.def_at KX G ?zr86 ?zr87 ?zr88 ?zr89 (fun _ _ _ _ _ _ us hl => match us, hl with | [_], _ => rfl); (case zr86 => k_is); (case zr87 => k_is); (case zr88 => k_is); (case zr89 => k_is)))
    (case zq_d6 => (refine' MC.def_at KX G ?zr90 ?zr91 ?zr92 ?zr93 (fun _ _ _ _ _ _ us hl => match us, hl with | [_], _ => rfl); (case zr90 => k_is); (case zr91 => k_is); (case zr92 => k_is); (case zr93 => k_is)))
    (case zq_d7 => (refine' MC.def_at KX G ?zr94 ?zr95 ?zr96 ?zr97 (fun _ _ _ _ _ _ us hl => match us, hl with | [_], _ => rfl); (case zr94 => k_is); (case zr95 => k_is); (case zr96 => k_is); (case zr97 => k_is)))
    (case zq_d8 => (refine' MC.def_at KX G ?zr98 ?zr99 ?zr100 ?zr101 (fun _ _ _ _ _ _ us hl => match us, hl with | [_, _, _, _], _ => rfl); (case zr98 => k_is); (case zr99 => k_is); (case zr100 => k_is); (case zr101 => k_is)))
    (case zq_d9 => (refine' MC.def_at KX G ?zr102 ?zr103 ?zr104 ?zr105 (fun _ _ _ _ _ _ us hl => match us, hl with | [_, _], _ => rfl); (case zr102 => k_is); (case zr103 => k_is); (case zr104 => k_is); (case zr105 => k_is)))
    (case zq_d10 => (refine' MC.def_at KX G ?zr106 ?zr107 ?zr108 ?zr109 (fun _ _ _ _ _ _ us hl => match us, hl with | [_], _ => rfl); (case zr106 => k_is); (case zr107 => k_is); (case zr108 => k_is); (case zr109 => k_is)))
    (case zq_d11 => (refine' MC.def_at KX G ?zr110 ?zr111 ?zr112 ?zr113 (fun _ _ _ _ _ _ us hl => match us, hl with | [_, _], _ => rfl); (case zr110 => k_is); (case zr111 => k_is); (case zr112 => k_is); (case zr113 => k_is)))
    (case zq_d12 => (refine' MC.def_at KX G ?zr114 ?zr115 ?zr116 ?zr117 (fun _ _ _ _ _ _ us hl => match us, hl with | [_], _ => rfl); (case zr114 => k_is); (case zr115 => k_is); (case zr116 => k_is); (case zr117 => k_is)))
    (case zq_d13 => (refine' MC.def_at KX G ?zr118 ?zr119 ?zr120 ?zr121 (fun _ _ _ _ _ _ us hl => match us, hl with | [_, _, _], _ => rfl); (case zr118 => k_is); (case zr119 => k_is); (case zr120 => k_is); (case zr121 => k_is)))
    (case zq_d14 => (refine' MC.def_at KX G ?zr122 ?zr123 ?zr124 ?zr125 (fun _ _ _ _ _ _ us hl => match us, hl with | [_, _], _ => rfl); (case zr122 => k_is); (case zr123 => k_is); (case zr124 => k_is); (case zr125 => k_is)))
    (case zq_d15 => (refine' MC.def_at KX G ?zr126 ?zr127 ?zr128 ?zr129 (fun _ _ _ _ _ _ us hl => match us, hl with | [_, _, _, _], _ => rfl); (case zr126 => k_is); (case zr127 => k_is); (case zr128 => k_is); (case zr129 => k_is)))
    (case zq_d16 => (refine' MC.def_at KX G ?zr130 ?zr131 ?zr132 ?zr133 (fun _ _ _ _ _ _ us hl => match us, hl with | [_, _, _, _], _ => rfl); (case zr130 => k_is); (case zr131 => k_is); (case zr132 => k_is); (case zr133 => k_is)))
    (case zq_d17 => (refine' MC.def_at KX G ?zr134 ?zr135 ?zr136 ?zr137 (fun _ _ _ _ _ _ us hl => match us, hl with | [_, _], _ => rfl); (case zr134 => k_is); (case zr135 => k_is); (case zr136 => k_is); (case zr137 => k_is)))
    (case zq_d18 => (refine' MC.def_at KX G ?zr138 ?zr139 ?zr140 ?zr141 (fun _ _ _ _ _ _ us hl => match us, hl with | [_], _ => rfl); (case zr138 => k_is); (case zr139 => k_is); (case zr140 => k_is); (case zr141 => k_is)))
    (case zq_i0 => (refine' MC.init_at KX ?zr142 ?zr143 ?zr144 ?zr145 ?zr146 ?zr147 ?zr148 (fun _ _ _ _ _ _ us hl => match us, hl with | [_, _, _, _], _ => rfl); (case zr142 => k_is); (case zr143 => k_is); (case zr144 => k_is); (case zr145 => k_is); (case zr146 => k_is); (case zr147 => k_is); (case zr148 => k_is)))
    (case zq_i1 => (refine' MC.init_at KX ?zr149 ?zr150 ?zr151 ?zr152 ?zr153 ?zr154 ?zr155 (fun _ _ _ _ _ _ us hl => match us, hl with | [_, _, _, _, _, _], _ => rfl); (case zr149 => k_is); (case zr150 => k_is); (case zr151 => k_is); (case zr152 => k_is); (case zr153 => k_is); (case zr154 => k_is); (case zr155 => k_is)))
    (case zq_i2 => (refine' MC.init_at KX ?zr156 ?zr157 ?zr158 ?zr159 ?zr160 ?zr161 ?zr162 (fun _ _ _ _ _ _ us hl => match us, hl with | [_, _, _], _ => rfl); (case zr156 => k_is); (case zr157 => k_is); (case zr158 => k_is); (case zr159 => k_is); (case zr160 => k_is); (case zr161 => k_is); (case zr162 => k_is)))
    (case zq_i3 => (refine' MC.init_at KX ?zr163 ?zr164 ?zr165 ?zr166 ?zr167 ?zr168 ?zr169 (fun _ _ _ _ _ _ us hl => match us, hl with | [_, _], _ => rfl); (case zr163 => k_is); (case zr164 => k_is); (case zr165 => k_is); (case zr166 => k_is); (case zr167 => k_is); (case zr168 => k_is); (case zr169 => k_is)))
    (case zq_i4 => (refine' MC.init_at KX ?zr170 ?zr171 ?zr172 ?zr173 ?zr174 ?zr175 ?zr176 (fun _ _ _ _ _ _ us hl => match us, hl with | [_], _ => rfl); (case zr170 => k_is); (case zr171 => k_is); (case zr172 => k_is); (case zr173 => k_is); (case zr174 => k_is); (case zr175 => k_is); (case zr176 => k_is)))
    (case zq_m0 => (refine' MC.meth_at KX ?zr177 ?zr178 ?zr179 ?zr180 ?zr181 (fun _ _ _ _ _ _ us hl => match us, hl with | [_], _ => rfl); (case zr177 => k_is); (case zr178 => k_is); (case zr179 => k_is); (case zr180 => k_is); (case zr181 => k_is)))
    (case zq_m1 => (refine' MC.meth_at KX ?zr182 ?zr183 ?zr184 ?zr185 ?zr186 (fun _ _ _ _ _ _ us hl => match us, hl with | [_], _ => rfl); (case zr182 => k_is); (case zr183 => k_is); (case zr184 => k_is); (case zr185 => k_is); (case zr186 => k_is)))
    (case zq_m2 => (refine' MC.meth_at KX ?zr187 ?zr188 ?zr189 ?zr190 ?zr191 (fun _ _ _ _ _ _ us hl => match us, hl with | [_], _ => rfl); (case zr187 => k_is); (case zr188 => k_is); (case zr189 => k_is); (case zr190 => k_is); (case zr191 => k_is)))
    (case zq_m3 => (refine' MC.meth_at KX ?zr192 ?zr193 ?zr194 ?zr195 ?zr196 (fun _ _ _ _ _ _ us hl => match us, hl with | [_], _ => rfl); (case zr192 => k_is); (case zr193 => k_is); (case zr194 => k_is); (case zr195 => k_is); (case zr196 => k_is)))
    (case zq_m4 => (refine' MC.meth_at KX ?zr197 ?zr198 ?zr199 ?zr200 ?zr201 (fun _ _ _ _ _ _ us hl => match us, hl with | [_], _ => rfl); (case zr197 => k_is); (case zr198 => k_is); (case zr199 => k_is); (case zr200 => k_is); (case zr201 => k_is)))
    (case zq_m5 => (refine' MC.meth_at KX ?zr202 ?zr203 ?zr204 ?zr205 ?zr206 (fun _ _ _ _ _ _ us hl => match us, hl with | [_, _], _ => rfl); (case zr202 => k_is); (case zr203 => k_is); (case zr204 => k_is); (case zr205 => k_is); (case zr206 => k_is)))
    (case zq_m6 => (refine' MC.meth_at KX ?zr207 ?zr208 ?zr209 ?zr210 ?zr211 (fun _ _ _ _ _ _ us hl => match us, hl with | [_], _ => rfl); (case zr207 => k_is); (case zr208 => k_is); (case zr209 => k_is); (case zr210 => k_is); (case zr211 => k_is)))
    (case zq_m7 => (refine' MC.meth_at KX ?zr212 ?zr213 ?zr214 ?zr215 ?zr216 (fun _ _ _ _ _ _ us hl => match us, hl with | [_, _], _ => rfl); (case zr212 => k_is); (case zr213 => k_is); (case zr214 => k_is); (case zr215 => k_is); (case zr216 => k_is)))
    (case zq_m8 => (refine' MC.meth_at KX ?zr217 ?zr218 ?zr219 ?zr220 ?zr221 (fun _ _ _ _ _ _ us hl => match us, hl with | [_, _], _ => rfl); (case zr217 => k_is); (case zr218 => k_is); (case zr219 => k_is); (case zr220 => k_is); (case zr221 => k_is)))
    (case zq_m9 => (refine' MC.meth_at KX ?zr222 ?zr223 ?zr224 ?zr225 ?zr226 (fun _ _ _ _ _ _ us hl => match us, hl with | [_], _ => rfl); (case zr222 => k_is); (case zr223 => k_is); (case zr224 => k_is); (case zr225 => k_is); (case zr226 => k_is)))
    (case zq_m10 => (refine' MC.meth_at KX ?zr227 ?zr228 ?zr229 ?zr230 ?zr231 (fun _ _ _ _ _ _ us hl => match us, hl with | [_, _], _ => rfl); (case zr227 => k_is); (case zr228 => k_is); (case zr229 => k_is); (case zr230 => k_is); (case zr231 => k_is)))
  case S =>
    intro K H xs a hO hwi hask hx
    cases hx with
    | cons h1 h2 =>
      cases h2
      cases h1 with
      | lst hs ha =>
        have e := L2.ints_dw a.1 _ ha
        subst e
        have q : ((Codec.inLen 0 16000 a.1 && a.1.all (Codec.inInt 0 18446744073709551615)) && true) = true := hwi
        rw [Bool.and_eq_true, Bool.and_eq_true] at q
        exact ⟨_, a.1, rfl, hs, hask, (Codec.inNat_iff.mp q.1.1).2, fun H' p hp => .lst (L2.SqL.of hp) (L2.dw_ints _)⟩
#print axioms PySem.Challenge.cw_mostcell_s01_answers_holds
