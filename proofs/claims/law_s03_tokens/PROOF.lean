import PyProof.Rows.All
import Wide.All
import OpenK.AllK
import Wide.FinOn
import PyProof.EqAt
import PyProof.EqKinds
import PyProof.TupleCall
import Open.SpecLaws
import KE.OsGo
import PySem.Challenge.RW_strictask_s03_tokens
import HandS.ForSpec
import HandS.Comp
import HandS.Deep
import HandS.TupAny
import HandS.Style
import HandS.ExcInit
import HandS.ExcField
import HandS.Evl
import PyProof.P3In
set_option Elab.async false
set_option linter.all false
set_option maxRecDepth 100000
set_option maxHeartbeats 2000000
namespace TkM
open Dbm Si22

/-! ### positions in a text -/
def bt (b : Bytes) (i : Nat) : Int := match b[i]? with
  | some c => (c.toNat : Int)
  | none => -1
def run (p : UInt8 → Bool) (b : Bytes) (i : Nat) : Nat := i + ((b.drop i).takeWhile p).length
theorem bt_some {b : Bytes} {i : Nat} {c : UInt8} (h : b[i]? = some c) : bt b i = (c.toNat : Int) := by unfold bt; rw [h]
theorem bt_none {b : Bytes} {i : Nat} (h : b[i]? = none) : bt b i = -1 := by unfold bt; rw [h]
theorem drop_some {b : Bytes} {i : Nat} {c : UInt8} (h : b[i]? = some c) : b.drop i = c :: b.drop (i + 1) := by
  obtain ⟨hl, e⟩ := List.getElem?_eq_some_iff.mp h
  rw [← e, List.drop_eq_getElem_cons hl]
theorem drop_none {b : Bytes} {i : Nat} (h : b[i]? = none) : b.drop i = [] :=
  List.drop_eq_nil_of_le (List.getElem?_eq_none_iff.mp h)
theorem run_step {p : UInt8 → Bool} {b : Bytes} {i : Nat} {c : UInt8} (h : b[i]? = some c) (hp : p c = true) : run p b i = run p b (i + 1) := by
  unfold run
  rw [drop_some h, List.takeWhile_cons_of_pos hp, List.length_cons]
  omega
theorem run_stop {p : UInt8 → Bool} {b : Bytes} {i : Nat} (h : ∀ c, b[i]? = some c → p c = false) : run p b i = i := by
  unfold run
  cases e : b[i]? with
  | none => rw [drop_none e]; rfl
  | some c =>
    rw [drop_some e, List.takeWhile_cons_of_neg (by rw [h c e]; decide)]
    rfl
theorem run_ge {p : UInt8 → Bool} {b : Bytes} {i : Nat} : i ≤ run p b i := Nat.le_add_right _ _
theorem takeWhile_le {α : Type} (p : α → Bool) : ∀ l : List α, (l.takeWhile p).length ≤ l.length
  | [] => Nat.le_refl _
  | a :: l => by
    rw [List.takeWhile_cons]
    split
    · exact Nat.succ_le_succ (takeWhile_le p l)
    · exact Nat.zero_le _
theorem run_le {p : UInt8 → Bool} {b : Bytes} {i : Nat} (h : i ≤ b.length) : run p b i ≤ b.length := by
  have := takeWhile_le p (b.drop i)
  rw [List.length_drop] at this
  unfold run
  omega
theorem drop_run {p : UInt8 → Bool} {b : Bytes} {i : Nat} : b.drop (run p b i) = (b.drop i).drop ((b.drop i).takeWhile p).length := by
  rw [List.drop_drop]
  rfl
theorem takeWhile_take {α : Type} (p : α → Bool) : ∀ l : List α, l.takeWhile p = l.take (l.takeWhile p).length
  | [] => rfl
  | a :: l => by
    rw [List.takeWhile_cons]
    split
    · rw [List.length_cons, List.take_succ_cons, ← takeWhile_take p l]
    · rfl

/-! ### bytes as Python sees them -/
def digZ (x : Int) : Bool := decide (48 ≤ x) && decide (x ≤ 57)
def letZ (x : Int) : Bool := (decide (65 ≤ x) && decide (x ≤ 90)) || ((decide (97 ≤ x) && decide (x ≤ 122)) || decide (x = 95))
def worZ (x : Int) : Bool := letZ x || digZ x
def hexZ (x : Int) : Bool := digZ x || (decide (97 ≤ x) && decide (x ≤ 102))
def taiZ (x : Int) : Bool := decide (128 ≤ x) && decide (x ≤ 191)
theorem cast_le {a b : Nat} : decide ((a : Int) ≤ (b : Int)) = decide (a ≤ b) := decide_eq_decide.mpr Int.ofNat_le
theorem u8_eq {c d : UInt8} : c = d ↔ c.toNat = d.toNat := UInt8.toNat_inj.symm
theorem digZ_u (c : UInt8) : digZ (c.toNat : Int) = isDigit c := by
  unfold digZ isDigit
  rw [show (48 : Int) = ((48 : Nat) : Int) from rfl, show (57 : Int) = ((57 : Nat) : Int) from rfl, cast_le, cast_le]
theorem letZ_u (c : UInt8) : letZ (c.toNat : Int) = isLetter c := by
  unfold letZ isLetter
  have e : decide ((c.toNat : Int) = 95) = (c == 95) := by
    rw [Bool.beq_eq_decide_eq]
    refine decide_eq_decide.mpr ?_
    rw [u8_eq]
    show ((c.toNat : Int) = 95) ↔ c.toNat = 95
    omega
  rw [e, show (65 : Int) = ((65 : Nat) : Int) from rfl, show (90 : Int) = ((90 : Nat) : Int) from rfl, show (97 : Int) = ((97 : Nat) : Int) from rfl, show (122 : Int) = ((122 : Nat) : Int) from rfl, cast_le, cast_le, cast_le, cast_le]
theorem worZ_u (c : UInt8) : worZ (c.toNat : Int) = isWordByte c := by
  unfold worZ isWordByte
  rw [letZ_u, digZ_u]
theorem hexZ_u (c : UInt8) : hexZ (c.toNat : Int) = isHex c := by
  unfold hexZ isHex
  rw [digZ_u, show (97 : Int) = ((97 : Nat) : Int) from rfl, show (102 : Int) = ((102 : Nat) : Int) from rfl, cast_le, cast_le]
theorem taiZ_u (c : UInt8) : taiZ (c.toNat : Int) = (c.toNat / 64 == 2) := by
  unfold taiZ
  rw [Bool.beq_eq_decide_eq, ← Bool.decide_and]
  refine decide_eq_decide.mpr ?_
  omega
theorem at_byte {f : Int → Bool} {p : UInt8 → Bool} (hf : ∀ c : UInt8, f (c.toNat : Int) = p c) (hn : f (-1) = false) (b : Bytes) (i : Nat) :
    f (bt b i) = (b[i]?.map p).getD false := by
  cases e : b[i]? with
  | none => rw [bt_none e, hn]; rfl
  | some c => rw [bt_some e, hf]; rfl
theorem head_drop (b : Bytes) (i : Nat) : (b.drop i).head? = b[i]? := by
  rw [List.head?_drop]
theorem bt_eq {b : Bytes} {i : Nat} (c : UInt8) : bt b i = (c.toNat : Int) ↔ b[i]? = some c := by
  cases e : b[i]? with
  | none =>
    rw [bt_none e]
    constructor
    · intro h; omega
    · intro h; cases h
  | some d =>
    rw [bt_some e]
    constructor
    · intro h
      have : d.toNat = c.toNat := by omega
      rw [u8_eq.mpr this]
    · intro h
      rw [Option.some.inj h]

/-! ### between -/
theorem between_nil (q : UInt8) : between q [] = none := rfl
theorem between_other {q c : UInt8} (h : c ≠ q) : ∀ r : Bytes, between q (c :: r) = (between q r).map fun x => (c :: x.1, x.2)
  | [] => by
    show (if c = q then some ([], []) else none) = _
    rw [if_neg h]
    rfl
  | d :: r => by
    rw [between]
    rw [if_neg (fun z => h z.1), if_neg h]
theorem between_two {q : UInt8} (r : Bytes) : between q (q :: q :: r) = (between q r).map fun x => (q :: x.1, x.2) := by
  rw [between]
  rw [if_pos ⟨rfl, rfl⟩]
theorem between_end {q : UInt8} : ∀ r : Bytes, r.head? ≠ some q → between q (q :: r) = some ([], r)
  | [], _ => by
    show (if q = q then some ([], []) else none) = _
    rw [if_pos rfl]
  | d :: r, h => by
    rw [between]
    rw [if_neg (fun z => h (by rw [z.2]; rfl)), if_pos rfl]
/-- what's behind is the end of what was handed in -/
theorem between_rest (q : UInt8) : ∀ (n : Nat) (l : Bytes), l.length ≤ n → ∀ x, between q l = some x → ∃ k, 1 ≤ k ∧ k ≤ l.length ∧ x.2 = l.drop k ∧ x.1.length < k
  | _, [], _, x, h => by cases h
  | 0, c :: r, hl, x, h => by simp at hl
  | n + 1, c :: r, hl, x, h => by
    by_cases hc : c = q
    · subst hc
      cases r with
      | nil =>
        rw [between_end [] (by simp)] at h
        cases h
        exact ⟨1, Nat.le_refl _, Nat.le_refl _, rfl, Nat.zero_lt_one⟩
      | cons d r =>
        by_cases hd : d = c
        · subst hd
          rw [between_two] at h
          cases e : between d r with
          | none => rw [e] at h; cases h
          | some y =>
            rw [e] at h
            cases h
            obtain ⟨k, h1, h2, h3, h4⟩ := between_rest d n r (by simp at hl; omega) y e
            exact ⟨k + 2, by omega, by simp; omega, by rw [h3]; rfl, by simp; omega⟩
        · rw [between_end (d :: r) (by simp [hd])] at h
          cases h
          exact ⟨1, Nat.le_refl _, by simp, rfl, Nat.zero_lt_one⟩
    · rw [between_other hc] at h
      cases e : between q r with
      | none => rw [e] at h; cases h
      | some y =>
        rw [e] at h
        cases h
        obtain ⟨k, h1, h2, h3, h4⟩ := between_rest q n r (by simp at hl; omega) y e
        exact ⟨k + 1, by omega, by simp; omega, by rw [h3]; rfl, by simp; omega⟩

/-! ### UTF-8 -/
/-- how many bytes the sign at the front has; 0: none well made -/
def szI (f s t u : Int) : Nat :=
  if f < 128 then 1
  else if 194 ≤ f ∧ f ≤ 223 then (if taiZ s = true then 2 else 0)
  else if 224 ≤ f ∧ f ≤ 239 then (if (decide ((if f = 224 then 160 else 128) ≤ s) && decide (s ≤ (if f = 237 then 159 else 191))) = true ∧ taiZ t = true then 3 else 0)
  else if 240 ≤ f ∧ f ≤ 244 then (if (decide ((if f = 240 then 144 else 128) ≤ s) && decide (s ≤ (if f = 244 then 143 else 191))) = true ∧ (taiZ t && taiZ u) = true then 4 else 0)
  else 0
def sz (l : Bytes) : Nat := szI (bt l 0) (bt l 1) (bt l 2) (bt l 3)

theorem taiZ_neg : taiZ (-1) = false := by decide
theorem bt0 (c : UInt8) (r : Bytes) : bt (c :: r) 0 = (c.toNat : Int) := rfl
theorem btS (c : UInt8) (r : Bytes) (i : Nat) : bt (c :: r) (i + 1) = bt r i := rfl
/-- one sign of UTF-8 is taken by its size -/
theorem utf8_step (a : UInt8) (r : Bytes) : utf8 (a :: r) = (if sz (a :: r) = 0 then false else utf8 ((a :: r).drop (sz (a :: r)))) := by
  have tl : ∀ c : UInt8, (c.toNat / 64 == 2) = taiZ (c.toNat : Int) := fun c => (taiZ_u c).symm
  have ha : a.toNat < 256 := a.toNat_lt
  unfold sz
  rw [bt0, btS, btS, btS]
  rw [utf8.eq_def]
  dsimp only
  unfold szI
  by_cases h1 : a.toNat < 0x80
  · rw [if_pos h1, if_pos (show (a.toNat : Int) < 128 by omega)]
    rfl
  · rw [if_neg h1, if_neg (show ¬ (a.toNat : Int) < 128 by omega)]
    cases r with
    | nil =>
      have e : bt ([] : Bytes) 0 = -1 := rfl
      rw [e]
      dsimp only
      rw [taiZ_neg]
      have z1 : ¬ ((decide ((if (a.toNat : Int) = 224 then (160 : Int) else 128) ≤ -1) && decide ((-1 : Int) ≤ (if (a.toNat : Int) = 237 then 159 else 191))) = true ∧ taiZ (bt ([] : Bytes) 1) = true) := by
        intro z
        have := z.1
        rw [Bool.and_eq_true, decide_eq_true_eq] at this
        have := this.1
        split at this <;> omega
      have z2 : ¬ ((decide ((if (a.toNat : Int) = 240 then (144 : Int) else 128) ≤ -1) && decide ((-1 : Int) ≤ (if (a.toNat : Int) = 244 then 143 else 191))) = true ∧ (taiZ (bt ([] : Bytes) 1) && taiZ (bt ([] : Bytes) 2)) = true) := by
        intro z
        have := z.1
        rw [Bool.and_eq_true, decide_eq_true_eq] at this
        have := this.1
        split at this <;> omega
      rw [if_neg z1, if_neg z2]
      simp
    | cons b q =>
      dsimp only
      rw [bt0, btS, btS]
      have hb : b.toNat < 256 := b.toNat_lt
      have tb := taiZ_u b
      unfold taiZ at tb
      by_cases h2 : 0xC2 ≤ a.toNat ∧ a.toNat < 0xE0
      · rw [if_pos h2, if_pos (show 194 ≤ (a.toNat : Int) ∧ (a.toNat : Int) ≤ 223 by omega)]
        rw [tl b]
        cases taiZ (b.toNat : Int) <;> simp
      · rw [if_neg h2, if_neg (show ¬ (194 ≤ (a.toNat : Int) ∧ (a.toNat : Int) ≤ 223) by omega)]
        cases q with
        | nil =>
          have e : bt ([] : Bytes) 0 = -1 := rfl
          rw [e, taiZ_neg]
          simp
        | cons c p =>
          dsimp only
          rw [bt0, btS]
          by_cases h3 : 224 ≤ (a.toNat : Int) ∧ (a.toNat : Int) ≤ 239
          · rw [if_pos h3]
            by_cases e0 : a.toNat = 0xE0
            · rw [if_pos e0, if_pos (show (a.toNat : Int) = 224 by omega), if_neg (show ¬ (a.toNat : Int) = 237 by omega), tl b, tl c]
              by_cases k1 : 160 ≤ b.toNat
              · by_cases k2 : b.toNat ≤ 191
                · have k3 : taiZ (b.toNat : Int) = true := by unfold taiZ; simp; omega
                  have k4 : (160 : Int) ≤ b.toNat := by omega
                  have k5 : (b.toNat : Int) ≤ 191 := by omega
                  rw [k3]
                  cases hc : taiZ (c.toNat : Int) <;> simp [k1, k4, k5]
                · have k3 : taiZ (b.toNat : Int) = false := by unfold taiZ; simp; omega
                  rw [k3]
                  have : ¬ ((b.toNat : Int) ≤ 191) := by omega
                  simp [this]
              · have : ¬ ((160 : Int) ≤ b.toNat) := by omega
                have k1' : ¬ (0xA0 ≤ b.toNat) := by omega
                simp [this, k1']
            · rw [if_neg e0, if_neg (show ¬ (a.toNat : Int) = 224 by omega)]
              by_cases eD : a.toNat = 0xED
              · rw [if_pos eD, if_pos (show (a.toNat : Int) = 237 by omega), tl b, tl c]
                by_cases k1 : b.toNat < 0xA0
                · by_cases k2 : 128 ≤ b.toNat
                  · have k3 : taiZ (b.toNat : Int) = true := by unfold taiZ; simp; omega
                    have k4 : (b.toNat : Int) ≤ 159 := by omega
                    have k5 : (128 : Int) ≤ b.toNat := by omega
                    rw [k3]
                    cases hc : taiZ (c.toNat : Int) <;> simp [k1, k4, k5]
                  · have k3 : taiZ (b.toNat : Int) = false := by unfold taiZ; simp; omega
                    have k5 : ¬ (128 : Int) ≤ b.toNat := by omega
                    rw [k3]
                    simp [k5]
                · have : ¬ ((b.toNat : Int) ≤ 159) := by omega
                  simp [this, k1]
              · rw [if_neg eD, if_neg (show ¬ (a.toNat : Int) = 237 by omega), if_pos (show 0xE0 < a.toNat ∧ a.toNat < 0xF0 by omega), tl b, tl c]
                have : (decide ((128 : Int) ≤ b.toNat) && decide ((b.toNat : Int) ≤ 191)) = taiZ (b.toNat : Int) := rfl
                rw [this]
                cases hb : taiZ (b.toNat : Int) <;> cases hc : taiZ (c.toNat : Int) <;> simp
          · rw [if_neg h3, if_neg (show ¬ a.toNat = 0xE0 by omega), if_neg (show ¬ a.toNat = 0xED by omega), if_neg (show ¬ (0xE0 < a.toNat ∧ a.toNat < 0xF0) by omega)]
            cases p with
            | nil =>
              have e : bt ([] : Bytes) 0 = -1 := rfl
              rw [e, taiZ_neg]
              simp
            | cons d s =>
              dsimp only
              rw [bt0]
              by_cases h4 : 240 ≤ (a.toNat : Int) ∧ (a.toNat : Int) ≤ 244
              · rw [if_pos h4]
                by_cases e0 : a.toNat = 0xF0
                · rw [if_pos e0, if_pos (show (a.toNat : Int) = 240 by omega), if_neg (show ¬ (a.toNat : Int) = 244 by omega), tl b, tl c, tl d]
                  by_cases k1 : 0x90 ≤ b.toNat
                  · by_cases k2 : b.toNat ≤ 191
                    · have k3 : taiZ (b.toNat : Int) = true := by unfold taiZ; simp; omega
                      have k4 : (144 : Int) ≤ b.toNat := by omega
                      have k5 : (b.toNat : Int) ≤ 191 := by omega
                      rw [k3]
                      cases hc : taiZ (c.toNat : Int) <;> cases hd : taiZ (d.toNat : Int) <;> simp [k1, k4, k5]
                    · have k3 : taiZ (b.toNat : Int) = false := by unfold taiZ; simp; omega
                      have k5 : ¬ (b.toNat : Int) ≤ 191 := by omega
                      rw [k3]
                      simp [k5]
                  · have : ¬ ((144 : Int) ≤ b.toNat) := by omega
                    simp [this, k1]
                · rw [if_neg e0, if_neg (show ¬ (a.toNat : Int) = 240 by omega)]
                  by_cases e4 : a.toNat = 0xF4
                  · rw [if_neg (show ¬ (0xF0 < a.toNat ∧ a.toNat < 0xF4) by omega), if_pos e4, if_pos (show (a.toNat : Int) = 244 by omega), tl b, tl c, tl d]
                    by_cases k1 : b.toNat < 0x90
                    · by_cases k2 : 128 ≤ b.toNat
                      · have k3 : taiZ (b.toNat : Int) = true := by unfold taiZ; simp; omega
                        have k4 : (b.toNat : Int) ≤ 143 := by omega
                        have k5 : (128 : Int) ≤ b.toNat := by omega
                        rw [k3]
                        cases hc : taiZ (c.toNat : Int) <;> cases hd : taiZ (d.toNat : Int) <;> simp [k1, k4, k5]
                      · have k3 : taiZ (b.toNat : Int) = false := by unfold taiZ; simp; omega
                        have k5 : ¬ (128 : Int) ≤ b.toNat := by omega
                        rw [k3]
                        simp [k5]
                    · have : ¬ ((b.toNat : Int) ≤ 143) := by omega
                      simp [this, k1]
                  · rw [if_pos (show 0xF0 < a.toNat ∧ a.toNat < 0xF4 by omega), if_neg (show ¬ (a.toNat : Int) = 244 by omega), tl b, tl c, tl d]
                    have : (decide ((128 : Int) ≤ b.toNat) && decide ((b.toNat : Int) ≤ 191)) = taiZ (b.toNat : Int) := rfl
                    rw [this]
                    cases hb : taiZ (b.toNat : Int) <;> cases hc : taiZ (c.toNat : Int) <;> cases hd : taiZ (d.toNat : Int) <;> simp
              · rw [if_neg h4, if_neg (show ¬ a.toNat = 0xF0 by omega), if_neg (show ¬ (0xF0 < a.toNat ∧ a.toNat < 0xF4) by omega), if_neg (show ¬ a.toNat = 0xF4 by omega)]
                simp

theorem bt_tai {l : Bytes} {i : Nat} {lo hi : Int} (hlo : 128 ≤ lo) (h : (decide (lo ≤ bt l i) && decide (bt l i ≤ hi)) = true) : ∃ c, l[i]? = some c ∧ 128 ≤ c.toNat := by
  rw [Bool.and_eq_true, decide_eq_true_eq, decide_eq_true_eq] at h
  cases e : l[i]? with
  | none => rw [bt_none e] at h; omega
  | some c => rw [bt_some e] at h; exact ⟨c, rfl, by omega⟩
theorem bt_tai' {l : Bytes} {i : Nat} (h : taiZ (bt l i) = true) : ∃ c, l[i]? = some c ∧ 128 ≤ c.toNat := bt_tai (lo := 128) (hi := 191) (by omega) h
/-- behind the first byte of a sign stand bytes from 128 on -/
theorem sz_tail (a : UInt8) (r : Bytes) : ∀ i, 1 ≤ i → i < sz (a :: r) → ∃ c, (a :: r)[i]? = some c ∧ 128 ≤ c.toNat := by
  intro i h1 h2
  unfold sz szI at h2
  split at h2
  · omega
  · split at h2
    · split at h2
      · rename_i ht
        obtain rfl : i = 1 := by omega
        exact bt_tai' ht
      · omega
    · split at h2
      · by_cases ht : (decide ((if bt (a :: r) 0 = 224 then (160 : Int) else 128) ≤ bt (a :: r) 1) && decide (bt (a :: r) 1 ≤ (if bt (a :: r) 0 = 237 then 159 else 191))) = true ∧ taiZ (bt (a :: r) 2) = true
        · rw [if_pos ht] at h2
          have : i = 1 ∨ i = 2 := by omega
          rcases this with rfl | rfl
          · exact bt_tai (by split <;> omega) ht.1
          · exact bt_tai' ht.2
        · rw [if_neg ht] at h2
          omega
      · split at h2
        · by_cases ht : (decide ((if bt (a :: r) 0 = 240 then (144 : Int) else 128) ≤ bt (a :: r) 1) && decide (bt (a :: r) 1 ≤ (if bt (a :: r) 0 = 244 then 143 else 191))) = true ∧ (taiZ (bt (a :: r) 2) && taiZ (bt (a :: r) 3)) = true
          · rw [if_pos ht] at h2
            have hh := ht.2
            rw [Bool.and_eq_true] at hh
            have : i = 1 ∨ i = 2 ∨ i = 3 := by omega
            rcases this with rfl | rfl | rfl
            · exact bt_tai (by split <;> omega) ht.1
            · exact bt_tai' hh.1
            · exact bt_tai' hh.2
          · rw [if_neg ht] at h2
            omega
        · omega
theorem sz_le (a : UInt8) (r : Bytes) : sz (a :: r) ≤ (a :: r).length := by
  by_cases h : sz (a :: r) ≤ 1
  · simp; omega
  · obtain ⟨c, hc, _⟩ := sz_tail a r (sz (a :: r) - 1) (by omega) (by omega)
    have := (List.getElem?_eq_some_iff.mp hc).1
    omega
/-- what is_well_made says of what's left -/
def wm (least : Nat) (l : Bytes) : Bool := utf8 l && l.all fun x => decide (least ≤ x.toNat)
theorem wm_nil (least : Nat) : wm least [] = true := by
  unfold wm
  rw [utf8.eq_def]
  rfl
theorem wm_step (least : Nat) (hl : least ≤ 128) (a : UInt8) (r : Bytes) :
    wm least (a :: r) = (if sz (a :: r) = 0 ∨ a.toNat < least then false else wm least ((a :: r).drop (sz (a :: r)))) := by
  unfold wm
  rw [utf8_step]
  by_cases h0 : sz (a :: r) = 0
  · rw [if_pos h0, if_pos (Or.inl h0), Bool.false_and]
  · rw [if_neg h0]
    by_cases h1 : a.toNat < least
    · rw [if_pos (Or.inr h1)]
      have : decide (least ≤ a.toNat) = false := by simp; omega
      rw [List.all_cons, this, Bool.false_and, Bool.and_false]
    · rw [if_neg (by intro z; rcases z with z | z; exact h0 z; exact h1 z)]
      have key : ∀ l : Bytes, ∀ k : Nat, (∀ i, i < k → ∃ c, l[i]? = some c ∧ least ≤ c.toNat) → (l.all fun x => decide (least ≤ x.toNat)) = ((l.drop k).all fun x => decide (least ≤ x.toNat)) := by
        intro l
        induction l with
        | nil => intro k _; simp
        | cons d t ih =>
          intro k hk
          cases k with
          | zero => rfl
          | succ k =>
            obtain ⟨c, hc, hc2⟩ := hk 0 (Nat.zero_lt_succ _)
            cases hc
            rw [List.all_cons, List.drop_succ_cons, ih k fun i hi => hk (i + 1) (Nat.succ_lt_succ hi)]
            have : decide (least ≤ d.toNat) = true := by simp; omega
            rw [this, Bool.true_and]
      rw [key (a :: r) (sz (a :: r)) fun i hi => by
        cases i with
        | zero => exact ⟨a, rfl, by omega⟩
        | succ i =>
          obtain ⟨c, hc, hc2⟩ := sz_tail a r (i + 1) (by omega) hi
          exact ⟨c, hc, by omega⟩]
theorem bt_drop (l : Bytes) (i k : Nat) : bt (l.drop i) k = bt l (i + k) := by
  unfold bt
  rw [List.getElem?_drop]

/-! ### the tokens, as Python finds them -/
def mBytes (b : Bytes) (i : Nat) : Option Nat :=
  let e := run isHex b (i + 2)
  if bt b e = 39 ∧ (e - i - 2) % 2 = 0 ∧ e - i - 2 ≤ 8192 ∧ ¬ bt b (e + 1) = 39 then some (e + 1) else none
def mWord (b : Bytes) (i : Nat) : Option Nat :=
  let e := run isWordByte b i
  if e - i ≤ 64 then some e else none
def mQuoted (b : Bytes) (i : Nat) : Option Nat := match between 34 (b.drop (i + 1)) with
  | some (n, rest) => if 1 ≤ n.length ∧ n.length ≤ 64 ∧ wm 32 n = true then some (b.length - rest.length) else none
  | none => none
def mText (b : Bytes) (i : Nat) : Option Nat := match between 39 (b.drop (i + 1)) with
  | some (n, rest) => if n.length ≤ 4096 ∧ wm 0 n = true then some (b.length - rest.length) else none
  | none => none
def mGiven (b : Bytes) (i : Nat) : Option Nat :=
  let e := run isDigit b (i + 1)
  let row := (b.drop (i + 1)).take (e - (i + 1))
  if (1 ≤ row.length ∧ row.length ≤ 2 ∧ ¬ bt row 0 = 48 ∧ digitsOf row ≤ 64) ∧ worZ (bt b e) = false then some e else none
def mExp (b : Bytes) (i : Nat) : Nat :=
  if ¬ (bt b i = 69 ∨ bt b i = 101) then i
  else
    let g := if bt b (i + 1) = 43 ∨ bt b (i + 1) = 45 then i + 1 + 1 else i + 1
    if digZ (bt b g) = true then run isDigit b g else i
def mPoint (b : Bytes) (i : Nat) : Nat := if bt b i = 46 ∧ digZ (bt b (i + 1)) = true then run isDigit b (i + 1) else i
def mNumber (b : Bytes) (i : Nat) : Option Nat :=
  let e := mExp b (mPoint b (run isDigit b i))
  if worZ (bt b e) = false then some e else none
def two (x y : Int) : Bool := (decide (x = 60) && decide (y = 62)) || (decide (x = 60) && decide (y = 61)) || (decide (x = 62) && decide (y = 61)) || (decide (x = 124) && decide (y = 124))
def one (x : Int) : Bool := [(40 : Int), 41, 44, 46, 42, 43, 45, 47, 37, 61, 60, 62].contains x
def mSign (b : Bytes) (i : Nat) : Option Nat :=
  if two (bt b i) (bt b (i + 1)) = true then some (i + 2) else if one (bt b i) = true then some (i + 1) else none
/-- the token at a place: its sort's number, the place behind it -/
def mTok (b : Bytes) (i : Nat) : Option (Nat × Nat) :=
  if (bt b i = 88 ∨ bt b i = 120) ∧ bt b (i + 1) = 39 then (mBytes b i).map fun j => (4, j)
  else if letZ (bt b i) = true then (mWord b i).map fun j => (0, j)
  else if bt b i = 34 then (mQuoted b i).map fun j => (1, j)
  else if bt b i = 39 then (mText b i).map fun j => (3, j)
  else if bt b i = 36 then (mGiven b i).map fun j => (5, j)
  else if digZ (bt b i) = true then (mNumber b i).map fun j => (2, j)
  else (mSign b i).map fun j => (6, j)
/-- what one token's place and sort are by the specification, where the program finds m -/
def SpecTok (b : Bytes) (i : Nat) (m : Option (Nat × Nat)) (r : Except Nat (Tok × Bytes × Nat)) : Prop := match m with
  | none => r = .error i
  | some (k, j) => ∃ s t, r = .ok (⟨s, t, i⟩, b.drop j, j) ∧ sortNo s = k ∧ s ≠ .finish ∧ i < j ∧ j ≤ b.length

/-! ### the program's tokens are the specification's -/
theorem run_lt {p : UInt8 → Bool} {b : Bytes} {i : Nat} {c : UInt8} (h : b[i]? = some c) (hp : p c = true) : i < run p b i := by
  rw [run_step h hp]
  exact run_ge (i := i + 1)
theorem len_drop_sub {b : Bytes} {i j : Nat} (hi : i ≤ b.length) (hj : j ≤ b.length) (hij : i ≤ j) : i + ((b.drop i).length - (b.drop j).length) = j := by
  rw [List.length_drop, List.length_drop]
  omega
theorem run_drop {p : UInt8 → Bool} {b : Bytes} {i : Nat} : (b.drop i).drop ((b.drop i).takeWhile p).length = b.drop (run p b i) := drop_run.symm
/-- hexadecimal digits, then the sign -/
theorem between_hex : ∀ l : Bytes, (∃ r, l.drop (l.takeWhile isHex).length = 39 :: r ∧ r.head? ≠ some 39 ∧ between 39 l = some (l.takeWhile isHex, r)) ∨
    ((¬ ∃ r, l.drop (l.takeWhile isHex).length = 39 :: r ∧ r.head? ≠ some 39) ∧ ∀ x, between 39 l = some x → x.1.all isHex = false)
  | [] => .inr ⟨(by intro z; obtain ⟨r, h, _⟩ := z; cases h), (by intro x h; cases h)⟩
  | c :: r => by
    by_cases hc : isHex c = true
    · have h39 : c ≠ 39 := by
        intro z
        rw [z] at hc
        exact absurd hc (by decide)
      rw [List.takeWhile_cons_of_pos hc, List.length_cons, List.drop_succ_cons, between_other h39]
      rcases between_hex r with ⟨q, h1, h2, h3⟩ | ⟨h1, h2⟩
      · refine .inl ⟨q, h1, h2, ?_⟩
        rw [h3]
        rfl
      · refine .inr ⟨h1, fun x hx => ?_⟩
        cases e : between 39 r with
        | none => rw [e] at hx; cases hx
        | some y =>
          rw [e] at hx
          cases hx
          show (c :: y.1).all isHex = false
          rw [List.all_cons, h2 y e, Bool.and_false]
    · have hc' : isHex c = false := by simpa using hc
      rw [List.takeWhile_cons_of_neg hc]
      by_cases h39 : c = 39
      · subst h39
        cases r with
        | nil => exact .inl ⟨[], rfl, by simp, between_end [] (by simp)⟩
        | cons d r =>
          by_cases hd : d = 39
          · subst hd
            refine .inr ⟨fun ⟨q, h, h'⟩ => ?_, fun x hx => ?_⟩
            · cases h
              exact h' rfl
            · rw [between_two] at hx
              cases e : between 39 r with
              | none => rw [e] at hx; cases hx
              | some y =>
                rw [e] at hx
                cases hx
                rfl
          · exact .inl ⟨d :: r, rfl, by simp [hd], between_end _ (by simp [hd])⟩
      · refine .inr ⟨fun ⟨q, h, _⟩ => h39 (List.cons.inj h).1, fun x hx => ?_⟩
        rw [between_other h39] at hx
        cases e : between 39 r with
        | none => rw [e] at hx; cases hx
        | some y =>
          rw [e] at hx
          cases hx
          show (c :: y.1).all isHex = false
          rw [List.all_cons, hc', Bool.false_and]
theorem all_takeWhile {α : Type} (p : α → Bool) : ∀ l : List α, (l.takeWhile p).all p = true
  | [] => rfl
  | a :: l => by
    rw [List.takeWhile_cons]
    split
    · rename_i h
      rw [List.all_cons, h, all_takeWhile p l]
      rfl
    · rfl
theorem drop_cons_ix {b : Bytes} {i : Nat} {c : UInt8} {r : Bytes} (h : b.drop i = c :: r) : b[i]? = some c ∧ b.drop (i + 1) = r := by
  have e : b[i]? = some c := by rw [← head_drop, h]; rfl
  refine ⟨e, ?_⟩
  rw [drop_some e] at h
  exact (List.cons.inj h).2
theorem spec_bytes (b : Bytes) (i : Nat) (hi : i + 1 < b.length) : SpecTok b i ((mBytes b i).map fun j => (4, j))
    (match between 39 (b.drop (i + 2)) with
      | some (h, rest) => if h.all isHex = true ∧ h.length % 2 = 0 ∧ h.length ≤ 2 * LONG then .ok (⟨.bytes, pairs h, i⟩, rest, i + ((b.drop i).length - rest.length)) else .error i
      | none => .error i) := by
  unfold mBytes
  dsimp only
  have he : run isHex b (i + 2) - i - 2 = ((b.drop (i + 2)).takeWhile isHex).length := by unfold run; omega
  have hd : b.drop (run isHex b (i + 2)) = (b.drop (i + 2)).drop ((b.drop (i + 2)).takeWhile isHex).length := drop_run
  rcases between_hex (b.drop (i + 2)) with ⟨r, h1, h2, h3⟩ | ⟨h1, h2⟩
  · rw [h3]
    dsimp only
    rw [← hd] at h1
    obtain ⟨g1, g2⟩ := drop_cons_ix h1
    have g3 : ¬ bt b (run isHex b (i + 2) + 1) = 39 := fun z => h2 (by
      rw [← g2, head_drop]
      exact (bt_eq 39).mp z)
    have hl := (List.getElem?_eq_some_iff.mp g1).1
    rw [he]
    by_cases hz : ((b.drop (i + 2)).takeWhile isHex).length % 2 = 0 ∧ ((b.drop (i + 2)).takeWhile isHex).length ≤ 8192
    · rw [if_pos ⟨(bt_eq 39).mpr g1, hz.1, hz.2, g3⟩, if_pos ⟨all_takeWhile _ _, hz.1, hz.2⟩]
      refine ⟨.bytes, pairs ((b.drop (i + 2)).takeWhile isHex), ?_, rfl, by decide, ?_, hl⟩
      · rw [← g2, len_drop_sub (by omega) hl (by have := run_ge (p := isHex) (b := b) (i := i + 2); omega)]
      · have := run_ge (p := isHex) (b := b) (i := i + 2)
        omega
    · rw [if_neg (fun z => hz ⟨z.2.1, z.2.2.1⟩), if_neg (fun z => hz z.2)]
      rfl
  · have hn : ¬ (bt b (run isHex b (i + 2)) = 39 ∧ (run isHex b (i + 2) - i - 2) % 2 = 0 ∧ run isHex b (i + 2) - i - 2 ≤ 8192 ∧ ¬ bt b (run isHex b (i + 2) + 1) = 39) := fun z => by
      have g := (bt_eq 39).mp z.1
      refine h1 ⟨b.drop (run isHex b (i + 2) + 1), ?_, ?_⟩
      · rw [← hd, drop_some g]
      · rw [head_drop]
        exact fun q => z.2.2.2 ((bt_eq 39).mpr q)
    rw [if_neg hn]
    cases e : between 39 (b.drop (i + 2)) with
    | none => rfl
    | some x =>
      have := h2 x e
      show _ = _
      dsimp only
      rw [if_neg (by rw [this]; intro z; exact Bool.false_ne_true z.1)]
theorem spec_word (b : Bytes) (i : Nat) (c : UInt8) (hc : b[i]? = some c) (hl : isLetter c = true) : SpecTok b i ((mWord b i).map fun j => (0, j))
    (if NAME < ((b.drop i).takeWhile isWordByte).length then .error i else .ok (⟨.word, ((b.drop i).takeWhile isWordByte).map small, i⟩, (b.drop i).drop ((b.drop i).takeWhile isWordByte).length, i + ((b.drop i).length - ((b.drop i).drop ((b.drop i).takeWhile isWordByte).length).length))) := by
  unfold mWord
  dsimp only
  have hw : isWordByte c = true := by unfold isWordByte; rw [hl]; rfl
  have hlen := (List.getElem?_eq_some_iff.mp hc).1
  have he : run isWordByte b i - i = ((b.drop i).takeWhile isWordByte).length := by unfold run; omega
  rw [he]
  by_cases h : ((b.drop i).takeWhile isWordByte).length ≤ 64
  · rw [if_pos h, if_neg (by unfold NAME; omega)]
    refine ⟨.word, ((b.drop i).takeWhile isWordByte).map small, ?_, rfl, by decide, run_lt hc hw, run_le (by omega)⟩
    rw [run_drop, len_drop_sub (by omega) (run_le (by omega)) run_ge]
  · rw [if_neg h, if_pos (by unfold NAME; omega)]
    rfl
theorem between_end_at {q : UInt8} {b : Bytes} {i : Nat} {n rest : Bytes} (hi : i < b.length) (h : between q (b.drop (i + 1)) = some (n, rest)) :
    rest = b.drop (b.length - rest.length) ∧ i < b.length - rest.length ∧ b.length - rest.length ≤ b.length := by
  obtain ⟨k, h1, h2, h3, _⟩ := between_rest q _ _ (Nat.le_refl _) _ h
  dsimp only at h3
  rw [List.drop_drop] at h3
  rw [List.length_drop] at h2
  have hr : rest.length = b.length - (i + 1 + k) := by rw [h3, List.length_drop]
  refine ⟨?_, by omega, by omega⟩
  have e : b.length - rest.length = i + 1 + k := by omega
  rw [e]
  exact h3
theorem spec_quoted (b : Bytes) (i : Nat) (hi : i < b.length) : SpecTok b i ((mQuoted b i).map fun j => (1, j))
    (match between 34 (b.drop (i + 1)) with
      | some (n, rest) => if n ≠ [] ∧ n.length ≤ NAME ∧ utf8 n = true ∧ (n.all fun x => decide (32 ≤ x.toNat)) = true then .ok (⟨.quoted, n, i⟩, rest, i + ((b.drop i).length - rest.length)) else .error i
      | none => .error i) := by
  unfold mQuoted
  cases e : between 34 (b.drop (i + 1)) with
  | none => rfl
  | some x =>
    obtain ⟨n, rest⟩ := x
    dsimp only
    obtain ⟨h1, h2, h3⟩ := between_end_at hi e
    by_cases h : 1 ≤ n.length ∧ n.length ≤ 64 ∧ wm 32 n = true
    · have hh := h.2.2
      unfold wm at hh
      rw [Bool.and_eq_true] at hh
      rw [if_pos h, if_pos ⟨by intro z; rw [z] at h; simp at h, h.2.1, hh.1, hh.2⟩]
      refine ⟨.quoted, n, ?_, rfl, by decide, h2, h3⟩
      rw [← h1, show (i + ((b.drop i).length - rest.length)) = b.length - rest.length by rw [List.length_drop]; omega]
    · rw [if_neg h, if_neg (fun z => h ⟨by cases n with | nil => exact absurd rfl z.1 | cons _ _ => simp, z.2.1, by unfold wm; rw [z.2.2.1, z.2.2.2]; rfl⟩)]
      rfl
theorem spec_text (b : Bytes) (i : Nat) (hi : i < b.length) : SpecTok b i ((mText b i).map fun j => (3, j))
    (match between 39 (b.drop (i + 1)) with
      | some (t, rest) => if t.length ≤ LONG ∧ utf8 t = true then .ok (⟨.text, t, i⟩, rest, i + ((b.drop i).length - rest.length)) else .error i
      | none => .error i) := by
  unfold mText
  have hw : ∀ n : Bytes, wm 0 n = utf8 n := fun n => by
    unfold wm
    have : (n.all fun x => decide (0 ≤ x.toNat)) = true := by simp
    rw [this, Bool.and_true]
  cases e : between 39 (b.drop (i + 1)) with
  | none => rfl
  | some x =>
    obtain ⟨n, rest⟩ := x
    dsimp only
    rw [hw]
    obtain ⟨h1, h2, h3⟩ := between_end_at hi e
    by_cases h : n.length ≤ 4096 ∧ utf8 n = true
    · rw [if_pos h, if_pos (show n.length ≤ LONG ∧ utf8 n = true from h)]
      refine ⟨.text, n, ?_, rfl, by decide, h2, h3⟩
      rw [← h1, show (i + ((b.drop i).length - rest.length)) = b.length - rest.length by rw [List.length_drop]; omega]
    · rw [if_neg h, if_neg (show ¬ (n.length ≤ LONG ∧ utf8 n = true) from h)]
      rfl
end TkM
namespace TkM
open Dbm Si22

/-- the two halves of numberOf -/
def numPoint (d r : Bytes) : Bytes × Bytes := match r with
  | 46 :: q => if q.takeWhile isDigit = [] then (d, r) else (d ++ (46 :: q.takeWhile isDigit), q.drop (q.takeWhile isDigit).length)
  | _ => (d, r)
def numSign (q : Bytes) : Bytes := match q with
  | 43 :: _ => [43]
  | 45 :: _ => [45]
  | _ => []
def numExp (d r : Bytes) : Bytes × Bytes := match r with
  | c :: q => if small c = 101 then (if (q.drop (numSign q).length).takeWhile isDigit = [] then (d, r) else (d ++ (101 :: (numSign q ++ (q.drop (numSign q).length).takeWhile isDigit)), q.drop ((numSign q).length + ((q.drop (numSign q).length).takeWhile isDigit).length))) else (d, r)
  | [] => (d, r)
theorem numberOf_eq (b : Bytes) : numberOf b = numExp (numPoint (b.takeWhile isDigit) (b.drop (b.takeWhile isDigit).length)).1 (numPoint (b.takeWhile isDigit) (b.drop (b.takeWhile isDigit).length)).2 := rfl
theorem numPoint_46 (D q : Bytes) : numPoint D (46 :: q) = if q.takeWhile isDigit = [] then (D, 46 :: q) else (D ++ (46 :: q.takeWhile isDigit), q.drop (q.takeWhile isDigit).length) := rfl
theorem point_rest (b : Bytes) (D : Bytes) (r1 : Nat) : (numPoint D (b.drop r1)).2 = b.drop (mPoint b r1) := by
  unfold mPoint
  by_cases h46 : b[r1]? = some 46
  · rw [drop_some h46, numPoint_46]
    have h1 : bt b r1 = 46 := (bt_eq 46).mpr h46
    by_cases hd : digZ (bt b (r1 + 1)) = true
    · rw [if_pos (show bt b r1 = 46 ∧ digZ (bt b (r1 + 1)) = true from ⟨h1, hd⟩)]
      cases ec : b[r1 + 1]? with
      | none => rw [bt_none ec] at hd; exact absurd hd (by decide)
      | some c =>
        rw [bt_some ec, digZ_u] at hd
        rw [if_neg (by rw [drop_some ec, List.takeWhile_cons_of_pos hd]; intro z; cases z)]
        exact run_drop
    · rw [if_neg (show ¬ (bt b r1 = 46 ∧ digZ (bt b (r1 + 1)) = true) from fun z => hd z.2), if_pos]
      · exact (drop_some h46).symm
      · cases ec : b[r1 + 1]? with
        | none => rw [drop_none ec]; rfl
        | some c =>
          rw [bt_some ec, digZ_u] at hd
          rw [drop_some ec, List.takeWhile_cons_of_neg hd]
  · rw [if_neg (fun z => h46 ((bt_eq 46).mp z.1))]
    unfold numPoint
    split
    · rename_i q hq
      exact absurd (drop_cons_ix hq).1 h46
    · rfl
theorem exp_rest (b : Bytes) (d : Bytes) (p : Nat) : (numExp d (b.drop p)).2 = b.drop (mExp b p) := by
  unfold mExp
  have small_e : ∀ c : UInt8, small c = 101 ↔ (c.toNat : Int) = 69 ∨ (c.toNat : Int) = 101 := by
    intro c
    unfold small
    have hc := c.toNat_lt
    by_cases h : 65 ≤ c.toNat ∧ c.toNat ≤ 90
    · rw [if_pos h]
      constructor
      · intro z
        have := congrArg UInt8.toNat z
        rw [UInt8.toNat_add] at this
        have h32 : (32 : UInt8).toNat = 32 := rfl
        have h101 : (101 : UInt8).toNat = 101 := rfl
        rw [h32, h101] at this
        left
        omega
      · intro z
        refine UInt8.toNat_inj.mp ?_
        rw [UInt8.toNat_add]
        have h32 : (32 : UInt8).toNat = 32 := rfl
        have h101 : (101 : UInt8).toNat = 101 := rfl
        rw [h32, h101]
        omega
    · rw [if_neg h]
      constructor
      · intro z
        right
        rw [z]
        rfl
      · intro z
        refine UInt8.toNat_inj.mp ?_
        show c.toNat = 101
        omega
  cases ec : b[p]? with
  | none =>
    rw [drop_none ec, bt_none ec, if_pos (by decide)]
    exact (drop_none ec).symm
  | some c =>
    rw [drop_some ec]
    unfold numExp
    dsimp only
    rw [bt_some ec]
    by_cases hc : small c = 101
    · rw [if_pos hc, if_neg (show ¬ ¬ ((c.toNat : Int) = 69 ∨ (c.toNat : Int) = 101) from fun z => z ((small_e c).mp hc))]
      -- the sign
      have hs : ∀ (s : Bytes) (g : Nat), (s = [43] ∧ b[p + 1]? = some 43 ∧ g = p + 1 + 1) ∨ (s = [45] ∧ b[p + 1]? = some 45 ∧ g = p + 1 + 1) ∨ (s = [] ∧ g = p + 1) →
          (if ((b.drop (p + 1)).drop s.length).takeWhile isDigit = [] then ((d, c :: b.drop (p + 1)) : Bytes × Bytes) else (d ++ (101 :: (s ++ ((b.drop (p + 1)).drop s.length).takeWhile isDigit)), (b.drop (p + 1)).drop (s.length + (((b.drop (p + 1)).drop s.length).takeWhile isDigit).length))).2
            = b.drop (if digZ (bt b g) = true then run isDigit b g else p) := by
        intro s g h
        have hg : (b.drop (p + 1)).drop s.length = b.drop g := by
          rcases h with ⟨rfl, _, rfl⟩ | ⟨rfl, _, rfl⟩ | ⟨rfl, rfl⟩
          · rw [List.drop_drop]; rfl
          · rw [List.drop_drop]; rfl
          · rfl
        rw [← List.drop_drop (i := (((b.drop (p + 1)).drop s.length).takeWhile isDigit).length) (j := s.length), hg]
        by_cases hd : digZ (bt b g) = true
        · rw [if_pos hd]
          cases eg : b[g]? with
          | none => rw [bt_none eg] at hd; exact absurd hd (by decide)
          | some e =>
            rw [bt_some eg, digZ_u] at hd
            rw [if_neg (by rw [drop_some eg, List.takeWhile_cons_of_pos hd]; intro z; cases z)]
            exact run_drop
        · rw [if_neg hd, if_pos]
          · exact (drop_some ec).symm
          · cases eg : b[g]? with
            | none => rw [drop_none eg]; rfl
            | some e =>
              rw [bt_some eg, digZ_u] at hd
              rw [drop_some eg, List.takeWhile_cons_of_neg hd]
      by_cases h43 : b[p + 1]? = some 43
      · have : (if bt b (p + 1) = 43 ∨ bt b (p + 1) = 45 then p + 1 + 1 else p + 1) = p + 1 + 1 := if_pos (.inl ((bt_eq 43).mpr h43))
        rw [this]
        have e2 : numSign (b.drop (p + 1)) = [43] := by rw [drop_some h43]; rfl
        rw [e2]
        exact hs [43] _ (.inl ⟨rfl, h43, rfl⟩)
      · by_cases h45 : b[p + 1]? = some 45
        · have : (if bt b (p + 1) = 43 ∨ bt b (p + 1) = 45 then p + 1 + 1 else p + 1) = p + 1 + 1 := if_pos (.inr ((bt_eq 45).mpr h45))
          rw [this]
          have e2 : numSign (b.drop (p + 1)) = [45] := by rw [drop_some h45]; rfl
          rw [e2]
          exact hs [45] _ (.inr (.inl ⟨rfl, h45, rfl⟩))
        · have : (if bt b (p + 1) = 43 ∨ bt b (p + 1) = 45 then p + 1 + 1 else p + 1) = p + 1 := if_neg (by
            intro z
            rcases z with z | z
            · exact h43 ((bt_eq 43).mp z)
            · exact h45 ((bt_eq 45).mp z))
          rw [this]
          have e2 : numSign (b.drop (p + 1)) = [] := by
            unfold numSign
            split
            · rename_i q hq; exact absurd (drop_cons_ix hq).1 h43
            · rename_i q hq; exact absurd (drop_cons_ix hq).1 h45
            · rfl
          rw [e2]
          exact hs [] _ (.inr (.inr ⟨rfl, rfl⟩))
    · rw [if_neg hc, if_pos (fun z => hc ((small_e c).mpr z))]
      exact (drop_some ec).symm
theorem spec_num_rest (b : Bytes) (i : Nat) : (numberOf (b.drop i)).2 = b.drop (mExp b (mPoint b (run isDigit b i))) := by
  rw [numberOf_eq, run_drop, point_rest, exp_rest]
end TkM
namespace TkM
open Dbm Si22

/-- a token at the front, no blank and no remark ahead -/
def tokAt (at_ : Nat) (c : UInt8) (r : Bytes) : Except Nat (Tok × Bytes × Nat) :=
  let b : Bytes := c :: r
  let done (s : Sort_) (t rest : Bytes) : Except Nat (Tok × Bytes × Nat) := .ok (⟨s, t, at_⟩, rest, at_ + (b.length - rest.length))
  if (c = 120 ∨ c = 88) ∧ r.head? = some 39 then (match between 39 (r.drop 1) with
    | some (h, rest) => if h.all isHex = true ∧ h.length % 2 = 0 ∧ h.length ≤ 2 * LONG then done .bytes (pairs h) rest else .error at_
    | none => .error at_)
  else if isLetter c = true then (let w := b.takeWhile isWordByte
    if NAME < w.length then .error at_ else done .word (w.map small) (b.drop w.length))
  else if c = 34 then (match between 34 r with
    | some (n, rest) => if n ≠ [] ∧ n.length ≤ NAME ∧ utf8 n = true ∧ (n.all fun x => decide (32 ≤ x.toNat)) = true then done .quoted n rest else .error at_
    | none => .error at_)
  else if c = 39 then (match between 39 r with
    | some (t, rest) => if t.length ≤ LONG ∧ utf8 t = true then done .text t rest else .error at_
    | none => .error at_)
  else if c = 36 then (let d := r.takeWhile isDigit
    match natOf d with
    | some n => if 1 ≤ n ∧ n ≤ 64 ∧ ((r.drop d.length).head?.map isWordByte).getD false = false then done .given d (r.drop d.length) else .error at_
    | none => .error at_)
  else if isDigit c = true then (let x := numberOf b
    if (x.2.head?.map isWordByte).getD false = true then .error at_ else done .number x.1 x.2)
  else if twoSigns.contains (b.take 2) = true then done .sign (b.take 2) (b.drop 2)
  else if oneSigns.contains c = true then done .sign [c] r
  else .error at_
theorem nt_nil (f at_ : Nat) : nextTok (f + 1) at_ [] = .ok (⟨.finish, [], at_⟩, [], at_) := rfl
theorem nt_blank {c : UInt8} (f at_ : Nat) (r : Bytes) (h : isBlank c = true) : nextTok (f + 1) at_ (c :: r) = nextTok f (at_ + 1) r := by
  rw [nextTok]
  dsimp only
  rw [if_pos h]
theorem nt_rem {c : UInt8} (f at_ : Nat) (r : Bytes) (h : ¬ isBlank c = true) (h2 : c = 45 ∧ r.head? = some 45) :
    nextTok (f + 1) at_ (c :: r) = nextTok f (at_ + ((c :: r).takeWhile fun x => x != 10).length) ((c :: r).drop ((c :: r).takeWhile fun x => x != 10).length) := by
  rw [nextTok]
  dsimp only
  rw [if_neg h, if_pos h2]
theorem nt_tok {c : UInt8} (f at_ : Nat) (r : Bytes) (h : ¬ isBlank c = true) (h2 : ¬ (c = 45 ∧ r.head? = some 45)) : nextTok (f + 1) at_ (c :: r) = tokAt at_ c r := by
  rw [nextTok]
  dsimp only
  rw [if_neg h, if_neg h2]
  rfl
theorem toNat_eq {c d : UInt8} {n : Int} (h : (d.toNat : Int) = n) : c = d ↔ (c.toNat : Int) = n := by
  rw [u8_eq, ← h]
  omega
theorem natOf_small {d : Bytes} (hd : d.all isDigit = true) : (1 ≤ d.length ∧ d.length ≤ 2 ∧ ¬ bt d 0 = 48 ∧ digitsOf d ≤ 64) ↔ ∃ n, natOf d = some n ∧ 1 ≤ n ∧ n ≤ 64 := by
  have hf : ∀ (d : Bytes), (d.foldl (fun n c => 10 * n + (c.toNat - 48)) 0) = digitsOf d := fun _ => rfl
  have hdig : ∀ c ∈ d, 48 ≤ c.toNat ∧ c.toNat ≤ 57 := fun c hc => by
    have := List.all_eq_true.mp hd c hc
    unfold isDigit at this
    rw [Bool.and_eq_true, decide_eq_true_eq, decide_eq_true_eq] at this
    exact this
  match d, hdig with
  | [], _ =>
    constructor
    · intro h
      have := h.1
      simp at this
    · intro ⟨n, h, _⟩
      unfold natOf at h
      rw [if_pos (Or.inl rfl)] at h
      cases h
  | [a], hdig =>
    have ha := hdig a (by simp)
    have e : natOf [a] = some (a.toNat - 48) := by
      unfold natOf
      rw [if_neg (by simp)]
      simp
    rw [e, bt0]
    have e2 : digitsOf [a] = a.toNat - 48 := by
      unfold digitsOf
      simp
    rw [e2]
    constructor
    · intro h
      have h3 := h.2.2.1
      exact ⟨_, rfl, by omega, by omega⟩
    · intro ⟨n, h, h1, h2⟩
      cases h
      exact ⟨by simp, by simp, by omega, by omega⟩
  | [a, b], hdig =>
    have ha := hdig a (by simp)
    have hb := hdig b (by simp)
    have e2 : digitsOf [a, b] = 10 * (a.toNat - 48) + (b.toNat - 48) := by
      unfold digitsOf
      simp
    rw [bt0, e2]
    by_cases h48 : a = 48
    · have e : natOf [a, b] = none := by
        unfold natOf
        rw [if_pos (Or.inr (Or.inr ⟨by simp, by rw [h48]; rfl⟩))]
      rw [e]
      constructor
      · intro h
        have h3 := h.2.2.1
        rw [h48] at h3
        exact absurd rfl h3
      · intro ⟨n, h, _⟩
        cases h
    · have h48' : a.toNat ≠ 48 := fun z => h48 (UInt8.toNat_inj.mp z)
      have e : natOf [a, b] = some (10 * (a.toNat - 48) + (b.toNat - 48)) := by
        unfold natOf
        rw [if_neg (by
          intro z
          rcases z with z | z | z
          · cases z
          · simp at z
          · have := z.2
            simp at this
            exact h48 this)]
        simp
      rw [e]
      constructor
      · intro h
        exact ⟨_, rfl, by omega, h.2.2.2⟩
      · intro ⟨n, h, h1, h2⟩
        cases h
        exact ⟨by simp, by simp, by omega, h2⟩
  | a :: b :: c :: r, hdig =>
    constructor
    · intro h
      have := h.2.1
      simp at this
    · intro ⟨n, h, h1, h2⟩
      exfalso
      unfold natOf at h
      split at h
      · cases h
      · rename_i hn
        cases h
        have ha := hdig a (by simp)
        have hb := hdig b (by simp)
        have hc := hdig c (by simp)
        have h48 : a ≠ 48 := fun z => hn (Or.inr (Or.inr ⟨by simp, by rw [z]; rfl⟩))
        have h48' : a.toNat ≠ 48 := fun z => h48 (UInt8.toNat_inj.mp z)
        have grow : ∀ (l : Bytes) (m : Nat), m ≤ l.foldl (fun n c => 10 * n + (c.toNat - 48)) m := by
          intro l
          induction l with
          | nil => intro m; exact Nat.le_refl _
          | cons x t ih =>
            intro m
            rw [List.foldl_cons]
            exact Nat.le_trans (by omega) (ih _)
        have := grow r (10 * (10 * (10 * 0 + (a.toNat - 48)) + (b.toNat - 48)) + (c.toNat - 48))
        rw [List.foldl_cons, List.foldl_cons, List.foldl_cons] at h2
        omega
theorem spec_given (b : Bytes) (i : Nat) (hi : i < b.length) : SpecTok b i ((mGiven b i).map fun j => (5, j))
    (match natOf ((b.drop (i + 1)).takeWhile isDigit) with
      | some n => if 1 ≤ n ∧ n ≤ 64 ∧ (((b.drop (i + 1)).drop ((b.drop (i + 1)).takeWhile isDigit).length).head?.map isWordByte).getD false = false then
          .ok (⟨.given, (b.drop (i + 1)).takeWhile isDigit, i⟩, (b.drop (i + 1)).drop ((b.drop (i + 1)).takeWhile isDigit).length, i + ((b.drop i).length - ((b.drop (i + 1)).drop ((b.drop (i + 1)).takeWhile isDigit).length).length)) else .error i
      | none => .error i) := by
  unfold mGiven
  dsimp only
  rw [run_drop, head_drop]
  have hw : (b[run isDigit b (i + 1)]?.map isWordByte).getD false = worZ (bt b (run isDigit b (i + 1))) := (at_byte worZ_u (by decide) b _).symm
  rw [hw]
  have hrow : (b.drop (i + 1)).take (run isDigit b (i + 1) - (i + 1)) = (b.drop (i + 1)).takeWhile isDigit := by
    rw [show run isDigit b (i + 1) - (i + 1) = ((b.drop (i + 1)).takeWhile isDigit).length by unfold run; omega, ← takeWhile_take]
  rw [hrow]
  have hd := natOf_small (all_takeWhile isDigit (b.drop (i + 1)))
  generalize hD : (b.drop (i + 1)).takeWhile isDigit = d at hd
  have hge : i + 1 ≤ run isDigit b (i + 1) := run_ge
  have hle : run isDigit b (i + 1) ≤ b.length := run_le hi
  by_cases h : (1 ≤ d.length ∧ d.length ≤ 2 ∧ ¬ bt d 0 = 48 ∧ digitsOf d ≤ 64) ∧ worZ (bt b (run isDigit b (i + 1))) = false
  · rw [if_pos h]
    obtain ⟨n, h1, h2, h3⟩ := hd.mp h.1
    rw [h1]
    dsimp only
    rw [if_pos ⟨h2, h3, h.2⟩]
    exact ⟨.given, d, by rw [len_drop_sub (by omega) hle (by omega)], rfl, by decide, by omega, hle⟩
  · rw [if_neg h]
    cases e : natOf d with
    | none => rfl
    | some n =>
      dsimp only
      rw [if_neg (fun z => h ⟨hd.mpr ⟨n, e, z.1, z.2.1⟩, z.2.2⟩)]
      rfl
theorem spec_number (b : Bytes) (i : Nat) (c : UInt8) (hc : b[i]? = some c) (hd : isDigit c = true) : SpecTok b i ((mNumber b i).map fun j => (2, j))
    (if ((numberOf (b.drop i)).2.head?.map isWordByte).getD false = true then .error i else .ok (⟨.number, (numberOf (b.drop i)).1, i⟩, (numberOf (b.drop i)).2, i + ((b.drop i).length - (numberOf (b.drop i)).2.length))) := by
  have hi := (List.getElem?_eq_some_iff.mp hc).1
  have h1 := run_lt hc hd
  have hle1 : run isDigit b i ≤ b.length := run_le (Nat.le_of_lt hi)
  -- the end lies behind the digits, within the text
  have hP : run isDigit b i ≤ mPoint b (run isDigit b i) ∧ mPoint b (run isDigit b i) ≤ b.length := by
    unfold mPoint
    split
    · rename_i h
      have hl := (List.getElem?_eq_some_iff.mp ((bt_eq 46).mp h.1)).1
      exact ⟨Nat.le_trans (Nat.le_succ _) run_ge, run_le hl⟩
    · exact ⟨Nat.le_refl _, hle1⟩
  generalize mPoint b (run isDigit b i) = p at hP
  have hE : ∀ p, p ≤ b.length → p ≤ mExp b p ∧ mExp b p ≤ b.length := by
    intro p hp
    unfold mExp
    split
    · exact ⟨Nat.le_refl _, hp⟩
    · dsimp only
      have hg1 : p + 1 ≤ (if bt b (p + 1) = 43 ∨ bt b (p + 1) = 45 then p + 1 + 1 else p + 1) := by split <;> omega
      generalize (if bt b (p + 1) = 43 ∨ bt b (p + 1) = 45 then p + 1 + 1 else p + 1) = g at hg1 ⊢
      split
      · rename_i hg
        have hgl : g < b.length := by
          cases ec : b[g]? with
          | none => rw [bt_none ec] at hg; exact absurd hg (by decide)
          | some c => exact (List.getElem?_eq_some_iff.mp ec).1
        exact ⟨Nat.le_trans (by omega) (run_ge (i := g)), run_le (Nat.le_of_lt hgl)⟩
      · exact ⟨Nat.le_refl _, hp⟩
  unfold mNumber
  dsimp only
  rw [spec_num_rest, head_drop]
  have hw : (b[mExp b (mPoint b (run isDigit b i))]?.map isWordByte).getD false = worZ (bt b (mExp b (mPoint b (run isDigit b i)))) := (at_byte worZ_u (by decide) b _).symm
  rw [hw]
  have hP' : run isDigit b i ≤ mPoint b (run isDigit b i) ∧ mPoint b (run isDigit b i) ≤ b.length := by
    unfold mPoint
    split
    · rename_i h
      have hl := (List.getElem?_eq_some_iff.mp ((bt_eq 46).mp h.1)).1
      exact ⟨Nat.le_trans (Nat.le_succ _) run_ge, run_le hl⟩
    · exact ⟨Nat.le_refl _, hle1⟩
  have hE' := hE _ hP'.2
  by_cases h : worZ (bt b (mExp b (mPoint b (run isDigit b i)))) = false
  · rw [if_pos h, if_neg (by rw [h]; exact Bool.false_ne_true)]
    exact ⟨.number, _, by rw [len_drop_sub (by omega) hE'.2 (by omega)], rfl, by decide, by omega, hE'.2⟩
  · have h' : worZ (bt b (mExp b (mPoint b (run isDigit b i)))) = true := by simpa using h
    rw [if_neg h, if_pos h']
    rfl
theorem one_u (c : UInt8) : one (c.toNat : Int) = oneSigns.contains c := by
  have h : ∀ n : Nat, n < 256 → one ((UInt8.ofNat n).toNat : Int) = oneSigns.contains (UInt8.ofNat n) := by decide +kernel
  have := h c.toNat c.toNat_lt
  rwa [UInt8.ofNat_toNat] at this
theorem two_u (c d : UInt8) : two (c.toNat : Int) (d.toNat : Int) = twoSigns.contains [c, d] := by
  have e : twoSigns = [[60, 62], [60, 61], [62, 61], [124, 124]] := by decide +kernel
  rw [e]
  unfold two
  have key : ∀ (x : UInt8) (n : Int), (x.toNat : Int) = n → ∀ c : UInt8, decide ((c.toNat : Int) = n) = (c == x) := fun x n h c => by
    rw [Bool.beq_eq_decide_eq]
    exact decide_eq_decide.mpr (toNat_eq h).symm
  rw [key 60 60 rfl c, key 62 62 rfl d, key 61 61 rfl d, key 62 62 rfl c, key 124 124 rfl c, key 124 124 rfl d]
  simp only [List.contains_cons, List.contains_nil, Bool.or_false]
  have cons2 : ∀ x y : UInt8, (([c, d] : Bytes) == [x, y]) = (c == x && d == y) := fun x y => by
    show (c == x && (d == y && true)) = _
    rw [Bool.and_true]
  rw [cons2, cons2, cons2, cons2]
  simp only [Bool.or_assoc]
theorem spec_sign (b : Bytes) (i : Nat) (c : UInt8) (hc : b[i]? = some c) : SpecTok b i ((mSign b i).map fun j => (6, j))
    (if twoSigns.contains ((b.drop i).take 2) = true then .ok (⟨.sign, (b.drop i).take 2, i⟩, (b.drop i).drop 2, i + ((b.drop i).length - ((b.drop i).drop 2).length))
      else if oneSigns.contains c = true then .ok (⟨.sign, [c], i⟩, b.drop (i + 1), i + ((b.drop i).length - (b.drop (i + 1)).length)) else .error i) := by
  have hi := (List.getElem?_eq_some_iff.mp hc).1
  have h2 : twoSigns.contains ((b.drop i).take 2) = two (bt b i) (bt b (i + 1)) := by
    rw [drop_some hc, bt_some hc]
    cases ed : b[i + 1]? with
    | none =>
      rw [drop_none ed, bt_none ed]
      have e : twoSigns = [[60, 62], [60, 61], [62, 61], [124, 124]] := by decide +kernel
      rw [e]
      have no : ∀ x y : UInt8, ((([c] : Bytes)) == [x, y]) = false := fun x y => by
        show (c == x && false) = false
        rw [Bool.and_false]
      show List.contains _ [c] = _
      simp only [List.contains_cons, List.contains_nil, no]
      unfold two
      simp
    | some d =>
      rw [drop_some ed, bt_some ed]
      exact (two_u c d).symm
  have h1 : oneSigns.contains c = one (bt b i) := by rw [bt_some hc, one_u]
  rw [h2, h1]
  unfold mSign
  by_cases h : two (bt b i) (bt b (i + 1)) = true
  · rw [if_pos h, if_pos h]
    have hl : i + 1 < b.length := by
      cases ed : b[i + 1]? with
      | none =>
        rw [bt_none ed] at h
        unfold two at h
        simp at h
      | some d => exact (List.getElem?_eq_some_iff.mp ed).1
    refine ⟨.sign, (b.drop i).take 2, ?_, rfl, by decide, by omega, hl⟩
    rw [List.drop_drop, len_drop_sub (by omega) hl (by omega)]
  · rw [if_neg h, if_neg h]
    by_cases h' : one (bt b i) = true
    · rw [if_pos h', if_pos h']
      refine ⟨.sign, [c], ?_, rfl, by decide, by omega, hi⟩
      rw [len_drop_sub (by omega) hi (by omega)]
    · rw [if_neg h', if_neg h']
      rfl
/-- **a token's place and sort: the program's are the specification's** -/
theorem spec_tok (b : Bytes) (i : Nat) (c : UInt8) (r : Bytes) (h : b.drop i = c :: r) : SpecTok b i (mTok b i) (tokAt i c r) := by
  obtain ⟨hc, hr⟩ := drop_cons_ix h
  have hi := (List.getElem?_eq_some_iff.mp hc).1
  have hlen : (c :: r) = b.drop i := h.symm
  unfold mTok tokAt
  dsimp only
  rw [bt_some hc]
  have eh : r.head? = b[i + 1]? := by rw [← hr, head_drop]
  have e2 : r.drop 1 = b.drop (i + 2) := by rw [← hr, List.drop_drop]
  have cx : (((c.toNat : Int) = 88 ∨ (c.toNat : Int) = 120) ∧ bt b (i + 1) = 39) ↔ ((c = 120 ∨ c = 88) ∧ r.head? = some 39) := by
    rw [eh, toNat_eq (d := 120) (n := 120) rfl, toNat_eq (d := 88) (n := 88) rfl, ← bt_eq 39]
    exact and_congr Or.comm Iff.rfl
  by_cases h1 : (c = 120 ∨ c = 88) ∧ r.head? = some 39
  · rw [if_pos (cx.mpr h1), if_pos h1, e2, hlen]
    have hl : i + 1 < b.length := (List.getElem?_eq_some_iff.mp (eh ▸ h1.2)).1
    exact spec_bytes b i hl
  rw [if_neg (fun z => h1 (cx.mp z)), if_neg h1, letZ_u]
  by_cases h2 : isLetter c = true
  · rw [if_pos h2, if_pos h2, hlen]
    exact spec_word b i c hc h2
  rw [if_neg h2, if_neg h2]
  by_cases h3 : c = 34
  · rw [if_pos ((toNat_eq (n := 34) rfl).mp h3), if_pos h3, hlen, ← hr]
    exact spec_quoted b i hi
  rw [if_neg (fun z => h3 ((toNat_eq (n := 34) rfl).mpr z)), if_neg h3]
  by_cases h4 : c = 39
  · rw [if_pos ((toNat_eq (n := 39) rfl).mp h4), if_pos h4, hlen, ← hr]
    exact spec_text b i hi
  rw [if_neg (fun z => h4 ((toNat_eq (n := 39) rfl).mpr z)), if_neg h4]
  by_cases h5 : c = 36
  · rw [if_pos ((toNat_eq (n := 36) rfl).mp h5), if_pos h5, hlen, ← hr]
    exact spec_given b i hi
  rw [if_neg (fun z => h5 ((toNat_eq (n := 36) rfl).mpr z)), if_neg h5, digZ_u]
  by_cases h6 : isDigit c = true
  · rw [if_pos h6, if_pos h6, hlen]
    exact spec_number b i c hc h6
  rw [if_neg h6, if_neg h6, hlen, ← hr]
  exact spec_sign b i c hc
end TkM
namespace TkM
open Dbm Si22

theorem rem_run {b : Bytes} {i : Nat} {c : UInt8} {r : Bytes} (h : b.drop i = c :: r) : i + ((c :: r).takeWhile fun x => x != 10).length = run (fun x => x != 10) b i ∧
    (c :: r).drop ((c :: r).takeWhile fun x => x != 10).length = b.drop (run (fun x => x != 10) b i) := by
  rw [← h]
  exact ⟨rfl, run_drop⟩
/-- the fuel of nextTok is enough -/
theorem nt_fuel (b : Bytes) : ∀ (n i f g : Nat), i ≤ b.length → b.length - i ≤ n → b.length - i + 1 ≤ f → b.length - i + 1 ≤ g → nextTok f i (b.drop i) = nextTok g i (b.drop i) := by
  intro n
  induction n with
  | zero =>
    intro i f g hi hn hf hg
    obtain ⟨f, rfl⟩ : ∃ f', f = f' + 1 := ⟨f - 1, by omega⟩
    obtain ⟨g, rfl⟩ : ∃ f', g = f' + 1 := ⟨g - 1, by omega⟩
    rw [List.drop_eq_nil_of_le (by omega : b.length ≤ i), nt_nil, nt_nil]
  | succ n ih =>
    intro i f g hi hn hf hg
    obtain ⟨f, rfl⟩ : ∃ f', f = f' + 1 := ⟨f - 1, by omega⟩
    obtain ⟨g, rfl⟩ : ∃ f', g = f' + 1 := ⟨g - 1, by omega⟩
    cases e : b.drop i with
    | nil => rw [nt_nil, nt_nil]
    | cons c r =>
      obtain ⟨hc, hr⟩ := drop_cons_ix e
      have hl := (List.getElem?_eq_some_iff.mp hc).1
      by_cases h1 : isBlank c = true
      · rw [nt_blank _ _ _ h1, nt_blank _ _ _ h1, ← hr]
        exact ih (i + 1) f g hl (by omega) (by omega) (by omega)
      · by_cases h2 : c = 45 ∧ r.head? = some 45
        · rw [nt_rem _ _ _ h1 h2, nt_rem _ _ _ h1 h2]
          obtain ⟨e1, e2⟩ := rem_run e
          rw [e1, e2]
          have hlt : i < run (fun x => x != 10) b i := run_lt hc (by rw [h2.1]; decide)
          have hle : run (fun x => x != 10) b i ≤ b.length := run_le hi
          exact ih _ f g hle (by omega) (by omega) (by omega)
        · rw [nt_tok _ _ _ h1 h2, nt_tok _ _ _ h1 h2]
/-- what nextTok gives: the end, an error, or a token behind which less is left -/
theorem nt_less (b : Bytes) : ∀ (n i f : Nat), i ≤ b.length → b.length - i ≤ n → b.length - i + 1 ≤ f → ∀ t rest p, nextTok f i (b.drop i) = .ok (t, rest, p) → t.sort = .finish ∨ (rest = b.drop p ∧ i < p ∧ p ≤ b.length) := by
  intro n
  induction n with
  | zero =>
    intro i f hi hn hf t rest p h
    obtain ⟨f, rfl⟩ : ∃ f', f = f' + 1 := ⟨f - 1, by omega⟩
    rw [List.drop_eq_nil_of_le (by omega : b.length ≤ i), nt_nil] at h
    cases h
    exact .inl rfl
  | succ n ih =>
    intro i f hi hn hf t rest p h
    obtain ⟨f, rfl⟩ : ∃ f', f = f' + 1 := ⟨f - 1, by omega⟩
    cases e : b.drop i with
    | nil =>
      rw [e, nt_nil] at h
      cases h
      exact .inl rfl
    | cons c r =>
      obtain ⟨hc, hr⟩ := drop_cons_ix e
      have hl := (List.getElem?_eq_some_iff.mp hc).1
      rw [e] at h
      by_cases h1 : isBlank c = true
      · rw [nt_blank _ _ _ h1, ← hr] at h
        rcases ih (i + 1) f hl (by omega) (by omega) t rest p h with z | ⟨z1, z2, z3⟩
        · exact .inl z
        · exact .inr ⟨z1, by omega, z3⟩
      · by_cases h2 : c = 45 ∧ r.head? = some 45
        · rw [nt_rem _ _ _ h1 h2] at h
          obtain ⟨e1, e2⟩ := rem_run e
          rw [e1, e2] at h
          have hlt : i < run (fun x => x != 10) b i := run_lt hc (by rw [h2.1]; decide)
          have hle : run (fun x => x != 10) b i ≤ b.length := run_le hi
          rcases ih _ f hle (by omega) (by omega) t rest p h with z | ⟨z1, z2, z3⟩
          · exact .inl z
          · exact .inr ⟨z1, by omega, z3⟩
        · rw [nt_tok _ _ _ h1 h2] at h
          have q := spec_tok b i c r e
          rw [h] at q
          cases em : mTok b i with
          | none => rw [em] at q; cases q
          | some x =>
            rw [em] at q
            obtain ⟨s, t', q1, q2, q3, q4, q5⟩ := q
            cases q1
            exact .inr ⟨rfl, q4, q5⟩
theorem tf_fuel (b : Bytes) : ∀ (n i f g : Nat), i ≤ b.length → b.length - i ≤ n → b.length - i + 1 ≤ f → b.length - i + 1 ≤ g → tokensFrom f i (b.drop i) = tokensFrom g i (b.drop i) := by
  intro n
  induction n with
  | zero =>
    intro i f g hi hn hf hg
    obtain ⟨f, rfl⟩ : ∃ f', f = f' + 1 := ⟨f - 1, by omega⟩
    obtain ⟨g, rfl⟩ : ∃ f', g = f' + 1 := ⟨g - 1, by omega⟩
    rw [List.drop_eq_nil_of_le (by omega : b.length ≤ i)]
    rfl
  | succ n ih =>
    intro i f g hi hn hf hg
    obtain ⟨f, rfl⟩ : ∃ f', f = f' + 1 := ⟨f - 1, by omega⟩
    obtain ⟨g, rfl⟩ : ∃ f', g = f' + 1 := ⟨g - 1, by omega⟩
    rw [tokensFrom, tokensFrom]
    cases e : nextTok ((b.drop i).length + 1) i (b.drop i) with
    | error x => rfl
    | ok x =>
      obtain ⟨t, rest, p⟩ := x
      dsimp only
      by_cases ht : t.sort = .finish
      · rw [if_pos ht, if_pos ht]
      · rw [if_neg ht, if_neg ht]
        rcases nt_less b _ i _ hi (Nat.le_refl _) (by rw [List.length_drop]; exact Nat.le_refl _) t rest p e with z | ⟨z1, z2, z3⟩
        · exact absurd z ht
        · rw [z1, ih p f g z3 (by omega) (by omega) (by omega)]
/-- the tokens from a place on -/
def toks (b : Bytes) (i : Nat) : Except Nat (List Tok) := tokensFrom (b.length - i + 2) i (b.drop i)
theorem toks_start (b : Bytes) : tokensFrom (b.length + 2) 0 b = toks b 0 := by
  unfold toks
  rw [List.drop_zero]
  rfl
theorem toks_unfold (b : Bytes) {i : Nat} (hi : i ≤ b.length) : toks b i = (match nextTok (b.length - i + 1) i (b.drop i) with
    | .error e => .error e
    | .ok (t, rest, p) => if t.sort = .finish then .ok [t] else match tokensFrom (b.length - i + 1) p rest with
      | .error e => .error e
      | .ok l => .ok (t :: l)) := by
  unfold toks
  rw [tokensFrom, List.length_drop]
  rfl
theorem toks_eq {b : Bytes} {i j : Nat} (hi : i ≤ b.length) (hj : j ≤ b.length) (hij : i ≤ j) (h : nextTok (b.length - i + 1) i (b.drop i) = nextTok (b.length - j + 1) j (b.drop j)) : toks b i = toks b j := by
  rw [toks_unfold b hi, toks_unfold b hj, h]
  cases e : nextTok (b.length - j + 1) j (b.drop j) with
  | error x => rfl
  | ok x =>
    obtain ⟨t, rest, p⟩ := x
    dsimp only
    by_cases ht : t.sort = .finish
    · rw [if_pos ht, if_pos ht]
    · rw [if_neg ht, if_neg ht]
      rcases nt_less b _ j _ hj (Nat.le_refl _) (Nat.le_refl _) t rest p e with z | ⟨z1, z2, z3⟩
      · exact absurd z ht
      · rw [z1, tf_fuel b _ p (b.length - i + 1) (b.length - j + 1) z3 (Nat.le_refl _) (by omega) (by omega)]
theorem toks_end (b : Bytes) {i : Nat} (h : i = b.length) : toks b i = .ok [⟨.finish, [], b.length⟩] := by
  subst h
  unfold toks
  rw [List.drop_length]
  rfl
theorem toks_blank {b : Bytes} {i : Nat} {c : UInt8} (h : b[i]? = some c) (hb : isBlank c = true) : toks b i = toks b (i + 1) := by
  have hl := (List.getElem?_eq_some_iff.mp h).1
  refine toks_eq (by omega) hl (by omega) ?_
  rw [drop_some h, nt_blank _ _ _ hb]
  exact nt_fuel b _ (i + 1) _ _ hl (Nat.le_refl _) (by omega) (by omega)
theorem toks_rem {b : Bytes} {i : Nat} (h : b[i]? = some 45) (h' : b[i + 1]? = some 45) : toks b i = toks b (run (fun x => x != 10) b i) := by
  have hl := (List.getElem?_eq_some_iff.mp h).1
  have hlt : i < run (fun x => x != 10) b i := run_lt h (by decide)
  have hle : run (fun x => x != 10) b i ≤ b.length := run_le (by omega)
  refine toks_eq (by omega) hle (by omega) ?_
  have e := drop_some h
  rw [e, nt_rem _ _ _ (by decide) ⟨rfl, by rw [head_drop]; exact h'⟩]
  obtain ⟨e1, e2⟩ := rem_run e
  rw [e1, e2]
  exact nt_fuel b _ _ _ _ hle (Nat.le_refl _) (by omega) (by omega)
theorem toks_tok {b : Bytes} {i : Nat} {c : UInt8} (h : b[i]? = some c) (hb : ¬ isBlank c = true) (hr : ¬ (c = 45 ∧ b[i + 1]? = some 45)) :
    (mTok b i = none → toks b i = .error i) ∧ ∀ k j, mTok b i = some (k, j) → i < j ∧ j ≤ b.length ∧ ∃ s t, sortNo s = k ∧ toks b i = (match toks b j with
      | .error e => .error e
      | .ok l => .ok (⟨s, t, i⟩ :: l)) := by
  have hl := (List.getElem?_eq_some_iff.mp h).1
  have e := drop_some h
  have q := spec_tok b i c _ e
  have hn : nextTok (b.length - i + 1) i (b.drop i) = tokAt i c (b.drop (i + 1)) := by
    rw [e, nt_tok _ _ _ hb (by rw [head_drop]; exact hr)]
  rw [toks_unfold b (by omega), hn]
  constructor
  · intro hm
    rw [hm] at q
    have q' : tokAt i c (b.drop (i + 1)) = .error i := q
    rw [q']
  · intro k j hm
    rw [hm] at q
    obtain ⟨s, t, q1, q2, q3, q4, q5⟩ := q
    refine ⟨q4, q5, s, t, q2, ?_⟩
    rw [q1]
    dsimp only
    rw [if_neg q3]
    unfold toks
    rw [tf_fuel b _ j (b.length - i + 1) (b.length - j + 2) q5 (Nat.le_refl _) (by omega) (by omega)]
theorem sort7 (s : Sort_) : sortNo s ≤ 7 := by cases s <;> decide
end TkM
namespace Tk
open PySem PySem.Spec PyProof.Rows L2
/-! ### words of my own -/
/-- a def of the program where it stands, with its promise -/
structure Own (P : Program) (w : World) (K : PySem.W.Frag) (mg : Str → Option Value) (base : Heap) (CX : CXT) (k : Nat) (x : Str) (ps : List Str) (sp : Sp) : Type where
  f : Addr
  fd : FuncData
  g : mg x = some (.ref f)
  kp : PySem.W.keepIn K (.ref f) = true
  b : Binds K fd ps []
  ok : FnOk P w K mg base CX k f fd ps sp
section
variable {X : Cx} {CX : CXT} {k j : Nat} {ps : List Str} {sp : Sp} {E : XK} {x : Str} {p pos : Pos} {e : Expr} {es : List Expr} {t : TA}
theorem pe_own (c : Own X.prog X.w X.K X.mg X.base CX k x ps sp) (hr : Room k X.A) (hg : Gl X x) (hx : Passes CX X E) (ha : PA X (e :: es) t) (hdb : (x == ("__debug__" : Str)) = false := by decide)
    (he : starEach (e :: es) X.env = (false, eval e X.env) :: starEach es X.env := by rfl) (hpl : (backTo pos (starEach es X.env)).any (·.1) = false := by rfl) : PE X (.Call (.Name x p) (e :: es) [] pos) (tCall sp [] E t) :=
  pe_call c.ok hr hg c.g c.kp c.b .nil hx ha hdb he hpl
theorem pe_ownS {E : L2.St → XK} (c : Own X.prog X.w X.K X.mg X.base CX k x ps sp) (hr : Room k X.A) (hg : Gl X x) (hx : ∀ σ, PassesAt CX X σ (E σ)) (ha : PA X (e :: es) t) (hdb : (x == ("__debug__" : Str)) = false := by decide)
    (he : starEach (e :: es) X.env = (false, eval e X.env) :: starEach es X.env := by rfl) (hpl : (backTo pos (starEach es X.env)).any (·.1) = false := by rfl) : PE X (.Call (.Name x p) (e :: es) [] pos) (tCallS sp E t) :=
  pe_callS c.ok hr hg c.g c.kp c.b hx ha hdb he hpl
/-- x in y, y a tuple, data of any depth -/
def rInT (K : PySem.W.Frag) : R2 := fun x y H Q => ∃ d ds, Dp K H x d ∧ Dp K H y (.tuple ds) ∧ SeqAt.shaped d = true ∧ SeqAt.shaped (.list ds) = true ∧ Q (.bl (ds.any fun z => PyData.eqv z d)) H
theorem op_inT (hu : X.A.units + 65 < cLine) : OpR X (compareOp .In) (rInT X.K) := by
  intro pins s σ H x y v u Q I rx ry h
  obtain ⟨d, ds, hd, he, sd, se, q⟩ := h
  obtain ⟨as, r1⟩ := Dp.reads I d x v hd rx
  obtain ⟨bs, r2⟩ := Dp.reads I (.tuple ds) y u he ry
  exact SeqAt.in_tuple_reads r2 r1 (SeqAt.canLay_of_shaped se) (SeqAt.canLay_of_shaped sd) (room_in_shaped sd hu) ⟨.bl _, H, I, rfl, q⟩
end
theorem units65 {A : Around} {k : Nat} (r : Room k A) : A.units + 65 < cLine := by
  have := r.un
  omega
theorem Same.upd {H : Hp} {p : Addr} {o : HO} (h : H p = none) : Same H (upd H p o) := fun b x e => by
  rw [upd_ne (ne_of_none e h)]
  exact e
theorem Same.at {H H' : Hp} {p : Addr} {o : HO} (s : Same H H') (h : H p = some o) : H' p = some o := s p o h
/-- a number of the top, a tuple of the top -/
def top (i : Nat) : Stmt := PySem.Challenge.pw_strictask_s03_tokens.main.body.getD i (.Pass ⟨0, 0, 0, 0⟩)
abbrev s_NoToken_init : Stmt := inClass (top 24) 0
theorem sc_NoToken_init : FnScope ["self", "place"] ["self", "place"] (defScope s_NoToken_init) := ⟨rfl, rfl, rfl, by decide +kernel, rfl, by decide +kernel, by decide +kernel⟩
abbrev s_Token_init : Stmt := inClass (top 25) 0
theorem sc_Token_init : FnScope ["self", "kind", "place", "row"] ["self", "kind", "place", "row"] (defScope s_Token_init) := ⟨rfl, rfl, rfl, by decide +kernel, rfl, by decide +kernel, by decide +kernel⟩
abbrev s_is_digit : Stmt := top 26
theorem sc_is_digit : FnScope ["one"] ["one"] (defScope s_is_digit) := ⟨rfl, rfl, rfl, by decide +kernel, rfl, by decide +kernel, by decide +kernel⟩
abbrev s_is_letter : Stmt := top 27
theorem sc_is_letter : FnScope ["one"] ["one"] (defScope s_is_letter) := ⟨rfl, rfl, rfl, by decide +kernel, rfl, by decide +kernel, by decide +kernel⟩
abbrev s_is_wordly : Stmt := top 28
theorem sc_is_wordly : FnScope ["one"] ["one"] (defScope s_is_wordly) := ⟨rfl, rfl, rfl, by decide +kernel, rfl, by decide +kernel, by decide +kernel⟩
abbrev s_is_hex : Stmt := top 29
theorem sc_is_hex : FnScope ["one"] ["one"] (defScope s_is_hex) := ⟨rfl, rfl, rfl, by decide +kernel, rfl, by decide +kernel, by decide +kernel⟩
abbrev s_small : Stmt := top 30
theorem sc_small : FnScope ["one"] ["one"] (defScope s_small) := ⟨rfl, rfl, rfl, by decide +kernel, rfl, by decide +kernel, by decide +kernel⟩
abbrev s_byte_at : Stmt := top 31
theorem sc_byte_at : FnScope ["text", "at"] ["text", "at"] (defScope s_byte_at) := ⟨rfl, rfl, rfl, by decide +kernel, rfl, by decide +kernel, by decide +kernel⟩
abbrev s_behind_digits : Stmt := top 32
theorem sc_behind_digits : FnScope ["text", "at"] ["text", "at"] (defScope s_behind_digits) := ⟨rfl, rfl, rfl, by decide +kernel, rfl, by decide +kernel, by decide +kernel⟩
abbrev s_need : Stmt := top 33
theorem sc_need : FnScope ["holds", "place"] ["holds", "place"] (defScope s_need) := ⟨rfl, rfl, rfl, by decide +kernel, rfl, by decide +kernel, by decide +kernel⟩
abbrev s_is_tail : Stmt := top 34
theorem sc_is_tail : FnScope ["one"] ["one"] (defScope s_is_tail) := ⟨rfl, rfl, rfl, by decide +kernel, rfl, by decide +kernel, by decide +kernel⟩
abbrev s_sign_size : Stmt := top 35
theorem sc_sign_size : FnScope ["row", "at", "first", "second", "low", "high", "is_long"] ["row", "at"] (defScope s_sign_size) := ⟨rfl, rfl, rfl, by decide +kernel, rfl, by decide +kernel, by decide +kernel⟩
abbrev s_is_well_made : Stmt := top 36
theorem sc_is_well_made : FnScope ["row", "least", "at", "size"] ["row", "least"] (defScope s_is_well_made) := ⟨rfl, rfl, rfl, by decide +kernel, rfl, by decide +kernel, by decide +kernel⟩
abbrev s_between : Stmt := top 37
theorem sc_between : FnScope ["text", "place", "sign", "found", "at"] ["text", "place"] (defScope s_between) := ⟨rfl, rfl, rfl, by decide +kernel, rfl, by decide +kernel, by decide +kernel⟩
abbrev s_take_bytes : Stmt := top 38
theorem sc_take_bytes : FnScope ["text", "place", "at", "many"] ["text", "place"] (defScope s_take_bytes) := ⟨rfl, rfl, rfl, by decide +kernel, rfl, by decide +kernel, by decide +kernel⟩
abbrev s_take_word : Stmt := top 39
theorem sc_take_word : FnScope ["text", "place", "at", "one"] ["text", "place"] (defScope s_take_word) := ⟨rfl, rfl, rfl, by decide +kernel, rfl, by decide +kernel, by decide +kernel⟩
abbrev s_take_quoted : Stmt := top 40
theorem sc_take_quoted : FnScope ["text", "place", "found", "at"] ["text", "place"] (defScope s_take_quoted) := ⟨rfl, rfl, rfl, by decide +kernel, rfl, by decide +kernel, by decide +kernel⟩
abbrev s_take_text : Stmt := top 41
theorem sc_take_text : FnScope ["text", "place", "found", "at"] ["text", "place"] (defScope s_take_text) := ⟨rfl, rfl, rfl, by decide +kernel, rfl, by decide +kernel, by decide +kernel⟩
abbrev s_digits_number : Stmt := top 42
theorem sc_digits_number : FnScope ["row", "found", "one"] ["row"] (defScope s_digits_number) := ⟨rfl, rfl, rfl, by decide +kernel, rfl, by decide +kernel, by decide +kernel⟩
abbrev s_take_given : Stmt := top 43
theorem sc_take_given : FnScope ["text", "place", "at", "row"] ["text", "place"] (defScope s_take_given) := ⟨rfl, rfl, rfl, by decide +kernel, rfl, by decide +kernel, by decide +kernel⟩
abbrev s_behind_exponent : Stmt := top 44
theorem sc_behind_exponent : FnScope ["text", "at", "begin"] ["text", "at"] (defScope s_behind_exponent) := ⟨rfl, rfl, rfl, by decide +kernel, rfl, by decide +kernel, by decide +kernel⟩
abbrev s_take_number : Stmt := top 45
theorem sc_take_number : FnScope ["text", "place", "at"] ["text", "place"] (defScope s_take_number) := ⟨rfl, rfl, rfl, by decide +kernel, rfl, by decide +kernel, by decide +kernel⟩
abbrev s_take_sign : Stmt := top 46
theorem sc_take_sign : FnScope ["text", "place", "two"] ["text", "place"] (defScope s_take_sign) := ⟨rfl, rfl, rfl, by decide +kernel, rfl, by decide +kernel, by decide +kernel⟩
abbrev s_take_token : Stmt := top 47
theorem sc_take_token : FnScope ["text", "place", "one"] ["text", "place"] (defScope s_take_token) := ⟨rfl, rfl, rfl, by decide +kernel, rfl, by decide +kernel, by decide +kernel⟩
abbrev s_behind_remark : Stmt := top 48
theorem sc_behind_remark : FnScope ["text", "place", "at"] ["text", "place"] (defScope s_behind_remark) := ⟨rfl, rfl, rfl, by decide +kernel, rfl, by decide +kernel, by decide +kernel⟩
abbrev s_tokens_of : Stmt := top 49
theorem sc_tokens_of : FnScope ["text", "found", "at", "token"] ["text"] (defScope s_tokens_of) := ⟨rfl, rfl, rfl, by decide +kernel, rfl, by decide +kernel, by decide +kernel⟩
abbrev s_tokens : Stmt := top 53
theorem sc_tokens : FnScope ["text", "found", "token", "error"] ["text"] (defScope s_tokens) := ⟨rfl, rfl, rfl, by decide +kernel, rfl, by decide +kernel, by decide +kernel⟩
/-- where a def stands -/
structure At (K : PySem.W.Frag) (mg : Str → Option Value) (x : Str) (st : Stmt) (ps : List Str) : Type where
  f : Addr
  fd : FuncData
  g : mg x = some (.ref f)
  kp : PySem.W.keepIn K (.ref f) = true
  fn : Fun K x x st f fd
  b : Binds K fd ps []
/-- what the top has written -/
structure Txt (K : PySem.W.Frag) (mg : Str → Option Value) : Type where
  aNoToken : Addr
  fNoToken : Addr
  fdNoToken : FuncData
  gNoToken : mg "NoToken" = some (.ref aNoToken)
  FNoToken : Fun K "__init__" "NoToken.__init__" s_NoToken_init fNoToken fdNoToken
  bNoToken : Binds K fdNoToken ["self", "place"] []
  oexNoToken : OexC K aNoToken
  iNoToken : PySem.W.findIn K (.ref aNoToken) "__init__" = some (some (.ref fNoToken))
  tNoToken : PySem.W.typeIn K (.ref fNoToken) = some (.type "function")
  xfNoToken : XfC K aNoToken
  eNoToken : PySem.W.exmOne K (.ref aNoToken) (.ref aNoToken) = some true
  nNoToken_place : PySem.W.findIn K (.ref aNoToken) "place" = some none
  aToken : Addr
  fToken : Addr
  fdToken : FuncData
  gToken : mg "Token" = some (.ref aToken)
  FToken : Fun K "__init__" "Token.__init__" s_Token_init fToken fdToken
  bToken : Binds K fdToken ["self", "kind", "place", "row"] []
  clToken : Cls K aToken
  mkToken : Mk K aToken fToken
  nToken_kind : NoAttr K aToken "kind"
  nToken_place : NoAttr K aToken "place"
  nToken_row : NoAttr K aToken "row"
  d_is_digit : At K mg "is_digit" s_is_digit ["one"]
  d_is_letter : At K mg "is_letter" s_is_letter ["one"]
  d_is_wordly : At K mg "is_wordly" s_is_wordly ["one"]
  d_is_hex : At K mg "is_hex" s_is_hex ["one"]
  d_small : At K mg "small" s_small ["one"]
  d_byte_at : At K mg "byte_at" s_byte_at ["text", "at"]
  d_behind_digits : At K mg "behind_digits" s_behind_digits ["text", "at"]
  d_need : At K mg "need" s_need ["holds", "place"]
  d_is_tail : At K mg "is_tail" s_is_tail ["one"]
  d_sign_size : At K mg "sign_size" s_sign_size ["row", "at"]
  d_is_well_made : At K mg "is_well_made" s_is_well_made ["row", "least"]
  d_between : At K mg "between" s_between ["text", "place"]
  d_take_bytes : At K mg "take_bytes" s_take_bytes ["text", "place"]
  d_take_word : At K mg "take_word" s_take_word ["text", "place"]
  d_take_quoted : At K mg "take_quoted" s_take_quoted ["text", "place"]
  d_take_text : At K mg "take_text" s_take_text ["text", "place"]
  d_digits_number : At K mg "digits_number" s_digits_number ["row"]
  d_take_given : At K mg "take_given" s_take_given ["text", "place"]
  d_behind_exponent : At K mg "behind_exponent" s_behind_exponent ["text", "at"]
  d_take_number : At K mg "take_number" s_take_number ["text", "place"]
  d_take_sign : At K mg "take_sign" s_take_sign ["text", "place"]
  d_take_token : At K mg "take_token" s_take_token ["text", "place"]
  d_behind_remark : At K mg "behind_remark" s_behind_remark ["text", "place"]
  d_tokens_of : At K mg "tokens_of" s_tokens_of ["text"]
  d_tokens : At K mg "tokens" s_tokens ["text"]
  kWORD : Tok
  gWORD : mg "WORD" = some (.int 0 kWORD)
  kQUOTED : Tok
  gQUOTED : mg "QUOTED" = some (.int 1 kQUOTED)
  kNUMBER : Tok
  gNUMBER : mg "NUMBER" = some (.int 2 kNUMBER)
  kTEXT : Tok
  gTEXT : mg "TEXT" = some (.int 3 kTEXT)
  kBYTES : Tok
  gBYTES : mg "BYTES" = some (.int 4 kBYTES)
  kGIVEN : Tok
  gGIVEN : mg "GIVEN" = some (.int 5 kGIVEN)
  kSIGN : Tok
  gSIGN : mg "SIGN" = some (.int 6 kSIGN)
  kEND : Tok
  gEND : mg "END" = some (.int 7 kEND)
  kMOST_WORD : Tok
  gMOST_WORD : mg "MOST_WORD" = some (.int 64 kMOST_WORD)
  kMOST_NAME : Tok
  gMOST_NAME : mg "MOST_NAME" = some (.int 64 kMOST_NAME)
  kMOST_TEXT : Tok
  gMOST_TEXT : mg "MOST_TEXT" = some (.int 4096 kMOST_TEXT)
  kMOST_HEX : Tok
  gMOST_HEX : mg "MOST_HEX" = some (.int 8192 kMOST_HEX)
  kMOST_GIVEN : Tok
  gMOST_GIVEN : mg "MOST_GIVEN" = some (.int 64 kMOST_GIVEN)
  kLINE_END : Tok
  gLINE_END : mg "LINE_END" = some (.int 10 kLINE_END)
  kMINUS : Tok
  gMINUS : mg "MINUS" = some (.int 45 kMINUS)
  kPOINT : Tok
  gPOINT : mg "POINT" = some (.int 46 kPOINT)
  kAPOSTROPHE : Tok
  gAPOSTROPHE : mg "APOSTROPHE" = some (.int 39 kAPOSTROPHE)
  kQUOTES : Tok
  gQUOTES : mg "QUOTES" = some (.int 34 kQUOTES)
  kDOLLAR : Tok
  gDOLLAR : mg "DOLLAR" = some (.int 36 kDOLLAR)
  kLOW_LINE : Tok
  gLOW_LINE : mg "LOW_LINE" = some (.int 95 kLOW_LINE)
  kMOST_BYTES : Tok
  gMOST_BYTES : mg "MOST_BYTES" = some (.int 65536 kMOST_BYTES)
  kTOO_LONG : Tok
  gTOO_LONG : mg "TOO_LONG" = some (.int 8 kTOO_LONG)
  aBLANKS : Addr
  gBLANKS : mg "BLANKS" = some (.ref aBLANKS)
  sBLANKS : ∀ H, SqT K H aBLANKS [V.int 32, V.int 9, V.int 10, V.int 13]
  aSINGLE : Addr
  gSINGLE : mg "SINGLE" = some (.ref aSINGLE)
  sSINGLE : ∀ H, SqT K H aSINGLE [V.int 40, V.int 41, V.int 44, V.int 46, V.int 42, V.int 43, V.int 45, V.int 47, V.int 37, V.int 61, V.int 60, V.int 62]
  aDOUBLE : Addr
  gDOUBLE : mg "DOUBLE" = some (.ref aDOUBLE)
  aDOUBLE_0 : Addr
  sDOUBLE_0 : ∀ H, SqT K H aDOUBLE_0 [V.int 60, V.int 62]
  aDOUBLE_1 : Addr
  sDOUBLE_1 : ∀ H, SqT K H aDOUBLE_1 [V.int 60, V.int 61]
  aDOUBLE_2 : Addr
  sDOUBLE_2 : ∀ H, SqT K H aDOUBLE_2 [V.int 62, V.int 61]
  aDOUBLE_3 : Addr
  sDOUBLE_3 : ∀ H, SqT K H aDOUBLE_3 [V.int 124, V.int 124]
  sDOUBLE : ∀ H, SqT K H aDOUBLE [V.ref aDOUBLE_0, V.ref aDOUBLE_1, V.ref aDOUBLE_2, V.ref aDOUBLE_3]
  nlen : mg "len" = none
  ntuple : mg "tuple" = none
  nVE : mg "ValueError" = none
  vVE : PySem.W.findCls K (.type "ValueError") (.type "type") "__init__" = some (.val (.builtin "ValueError.__init__"))
section
variable {P : Program} {w : World} {K : PySem.W.Frag} {mg : Str → Option Value} {base : Heap}
def At.own {CX : CXT} {k : Nat} {x : Str} {st : Stmt} {ps : List Str} {sp : Sp} (a : At K mg x st ps) (h : FnOk P w K mg base CX k a.f a.fd ps sp) : Own P w K mg base CX k x ps sp := ⟨a.f, a.fd, a.g, a.kp, a.b, h⟩
end
end Tk
namespace Tk
open PySem PySem.Spec PyProof.Rows L2 Evl TkM
section
variable {P : Program} {w : World} {K : PySem.W.Frag} {mg : Str → Option Value} {base : Heap}
/-! ### words over Evl -/
section
variable {σ : L2.St} {H H' : Hp} {ta tb tc te : TE} {D : Ends} {tz : TS}
theorem ev_cmp {p : Int → Int → Bool} {i j : Int} (ha : Ev ta σ H (.int i)) (hb : Ev tb σ H (.int j)) : Ev (tCmp p ta tb) σ H (.bl (p i j)) := fun H1 e Q q =>
  ha H1 e _ fun H2 e2 => hb H2 (e.trans e2) _ fun H3 e3 => ⟨i, j, rfl, rfl, q H3 (e2.trans e3)⟩
theorem ev_chain {g g' : Int → Int → V} {i j k : Int} {a b : Bool} (ha : Ev ta σ H (.int i)) (hb : Ev tb σ H (.int j)) (hc : Ev tc σ H (.int k)) (h1 : g i j = .bl a) (h2 : g' j k = .bl b) :
    Ev (tChain (rI0 g) (rI0 g') ta tb tc) σ H (.bl (a && b)) := fun H1 e Q q =>
  ha H1 e _ fun H2 e2 => hb H2 (e.trans e2) _ fun H3 e3 => ⟨i, j, rfl, rfl, a, h1, by
    cases a with
    | true =>
      rw [if_pos rfl]
      refine hc H3 ((e.trans e2).trans e3) _ fun H4 e4 => ⟨j, k, rfl, rfl, ?_⟩
      rw [h2]
      exact q H4 ((e2.trans e3).trans e4)
    | false =>
      rw [if_neg Bool.false_ne_true]
      exact q H3 (e2.trans e3)⟩
/-- some value of which R is true -/
def EvP (te : TE) (σ : L2.St) (H : Hp) (R : V → Hp → Prop) : Prop := ∀ H1, Ex H H1 → ∀ Q : VK, (∀ v H2, Ex H1 H2 → R v H2 → Q v H2) → te σ H1 Q
theorem EvP.mono {R : V → Hp → Prop} (e : Ex H H') (h : EvP te σ H R) : EvP te σ H' R := fun H1 a Q q => h H1 (e.trans a) Q q
theorem EvL.any {xs : List V} (h : EvL te σ H xs) : EvP te σ H fun _ _ => True := fun H1 e Q q => h H1 e Q fun p H2 _ e2 _ => q _ _ e2 trivial
theorem EvU.any {xs : List V} (h : EvU te σ H xs) : EvP te σ H fun _ _ => True := fun H1 e Q q => h H1 e Q fun p H2 _ e2 _ => q _ _ e2 trivial
theorem EvL.mono {xs : List V} (e : Ex H H') (h : EvL te σ H xs) : EvL te σ H' xs := fun H1 a Q q => h H1 (e.trans a) Q q
/-- tuple(xs) of a new list -/
theorem eu_tuple {xs : List V} (h : EvL te σ H xs) : EvU (tCB (fun xs H Q => ∃ p ys, xs = [.ref p] ∧ ((SqL K H p ys ∧ ∀ l, H l = none → Q (.ref l) (upd H l (.tup ys))) ∨ (SqT K H p ys ∧ Q (.ref p) H))) (tCons te tNil)) σ H xs := fun H1 e Q q =>
  h H1 e _ fun p H2 hp e2 h2 => ⟨p, xs, rfl, .inl ⟨sq_of h2, fun l hl => q l _ (fresh_back e2 hl) (e2.trans (Ex.new hl)) upd_same⟩⟩
/-- tuple(xs) of a list that stands -/
theorem eu_tupleL {xs : List V} {p : Addr} (h : Ev te σ H (.ref p)) (hs : SqL K H p xs) : EvU (tCB (fun xs H Q => ∃ p ys, xs = [.ref p] ∧ ((SqL K H p ys ∧ ∀ l, H l = none → Q (.ref l) (upd H l (.tup ys))) ∨ (SqT K H p ys ∧ Q (.ref p) H))) (tCons te tNil)) σ H xs := fun H1 e Q q =>
  h H1 e _ fun H2 e2 => ⟨p, xs, rfl, .inl ⟨ex_l (e.trans e2) hs, fun l hl => q l _ (fresh_back e2 hl) (e2.trans (Ex.new hl)) upd_same⟩⟩
theorem q_par {i j : Nat} {x y : V} (ha : Ev ta σ H x) (hb : Ev tb σ H y) (k : ∀ H1, Ex H H1 → tz D ((σ.set i (some x)).set j (some y)) H1) : tSeq (tPar i j (tCons ta (tCons tb tNil))) tz D σ H :=
  ha H (Ex.refl H) _ fun H1 e1 => hb H1 e1 _ fun H2 e2 => ⟨x, y, rfl, k H2 (e1.trans e2)⟩
end
/-! ### the text as Python has it -/
def tx (b : Dbm.Bytes) : List V := b.map fun c => V.int (c.toNat : Int)
theorem tx_len (b : Dbm.Bytes) : (tx b).length = b.length := List.length_map _
theorem tx_get {b : Dbm.Bytes} {i : Nat} {c : UInt8} (h : b[i]? = some c) : (tx b)[i]? = some (.int (c.toNat : Int)) := by
  unfold tx
  rw [List.getElem?_map, h]
  rfl
section
variable {σ : L2.St} {H H' : Hp} {ta tb te : TE} {E : XK} {a : Addr} {b : Dbm.Bytes}
theorem ev_lenT (ha : Ev ta σ H (.ref a)) (hS : SqL K H a (tx b)) : Ev (tCB (fun xs H Q => ∃ p ys, xs = [.ref p] ∧ (SqL K H p ys ∨ SqT K H p ys) ∧ Q (.int ys.length) H) (tCons ta tNil)) σ H (.int (b.length : Int)) :=
  ev_is (ev_len ha hS) (by rw [tx_len])
/-- text[i] -/
theorem ev_item {i : Int} {n : Nat} (ha : Ev ta σ H (.ref a)) (hS : SqL K H a (tx b)) (hi : Ev tb σ H (.int i)) (hn : i = (n : Int)) (hl : n < b.length) : Ev (tOp (rIxL K) ta tb) σ H (.int (bt b n)) := by
  have e : b[n]? = some b[n] := List.getElem?_eq_getElem hl
  rw [bt_some e]
  subst hn
  exact ev_op ha hi (rv_ixL hS (atI_nat (tx_get e)))
end
/-! ### the small defs -/
/-- a test of a number -/
def spP (f : Int → Bool) : Sp := fun vs H Q _ => ∃ x : Int, vs = [.int x] ∧ ∀ H', Ex H H' → Q (.bl (f x)) H'
theorem ev_p {f : Int → Bool} {σ : L2.St} {H : Hp} {ta : TE} {E : XK} {x : Int} (h : Ev ta σ H (.int x)) : Ev (tCall (spP f) [] E (tCons ta tNil)) σ H (.bl (f x)) :=
  ev_call (ea_cons h ea_nil) fun H1 e Q q E => ⟨x, rfl, q⟩
theorem ok_is_digit (T : Txt K mg) : FnOk P w K mg base CX0 1 T.d_is_digit.f T.d_is_digit.fd ["one"] (spP digZ) := by
  refine T.d_is_digit.fn.ok sc_is_digit (fun vs H Q E h => ?_) (fun cdv A outer s H vs Q E hr h => ⟨_,
    (pss_one (ps_ret (pe_chain op_le op_le pe_int (pv 0) pe_int)))
    , ?_⟩)
  · obtain ⟨x, rfl, _⟩ := h
    rfl
  · obtain ⟨x, rfl, q⟩ := h
    exact s_ret (ev_chain ev_c (ev_var rfl) ev_c rfl rfl) q
def C_is_digit (T : Txt K mg) : Own P w K mg base CX0 1 "is_digit" ["one"] (spP digZ) := T.d_is_digit.own (ok_is_digit T)
theorem ok_is_tail (T : Txt K mg) : FnOk P w K mg base CX0 1 T.d_is_tail.f T.d_is_tail.fd ["one"] (spP taiZ) := by
  refine T.d_is_tail.fn.ok sc_is_tail (fun vs H Q E h => ?_) (fun cdv A outer s H vs Q E hr h => ⟨_,
    (pss_one (ps_ret (pe_chain op_le op_le pe_int (pv 0) pe_int)))
    , ?_⟩)
  · obtain ⟨x, rfl, _⟩ := h
    rfl
  · obtain ⟨x, rfl, q⟩ := h
    exact s_ret (ev_chain ev_c (ev_var rfl) ev_c rfl rfl) q
def C_is_tail (T : Txt K mg) : Own P w K mg base CX0 1 "is_tail" ["one"] (spP taiZ) := T.d_is_tail.own (ok_is_tail T)
theorem ok_is_letter (T : Txt K mg) : FnOk P w K mg base CX0 1 T.d_is_letter.f T.d_is_letter.fd ["one"] (spP letZ) := by
  refine T.d_is_letter.fn.ok sc_is_letter (fun vs H Q E h => ?_) (fun cdv A outer s H vs Q E hr h => ⟨_,
    (pss_one (ps_ret (pe_or (pe_chain op_le op_le pe_int (pv 0) pe_int) (pe_or (pe_chain op_le op_le pe_int (pv 0) pe_int) (pe_one (pe_cmp (pc_eqI (pv 0) (pe_glob (v := .int 95) rfl T.gLOW_LINE ⟨_, rfl⟩))))))))
    , ?_⟩)
  · obtain ⟨x, rfl, _⟩ := h
    rfl
  · obtain ⟨x, rfl, q⟩ := h
    exact s_ret (ev_orV (ev_chain ev_c (ev_var rfl) ev_c rfl rfl) fun _ => ev_orV (ev_chain ev_c (ev_var rfl) ev_c rfl rfl) fun _ => ev_cmp (ev_var rfl) ev_c) q
def C_is_letter (T : Txt K mg) : Own P w K mg base CX0 1 "is_letter" ["one"] (spP letZ) := T.d_is_letter.own (ok_is_letter T)
theorem ok_is_wordly (T : Txt K mg) : FnOk P w K mg base CX0 2 T.d_is_wordly.f T.d_is_wordly.fd ["one"] (spP worZ) := by
  refine T.d_is_wordly.fn.ok sc_is_wordly (fun vs H Q E h => ?_) (fun cdv A outer s H vs Q E hr h => ⟨_,
    (pss_one (ps_ret (pe_or (pe_own (C_is_letter T) (hr.mono (by decide)) rfl pass0 (pa_cons (pv 0) pa_nil)) (pe_one (pe_own (C_is_digit T) (hr.mono (by decide)) rfl pass0 (pa_cons (pv 0) pa_nil))))))
    , ?_⟩)
  · obtain ⟨x, rfl, _⟩ := h
    rfl
  · obtain ⟨x, rfl, q⟩ := h
    exact s_ret (ev_orV (ev_p (ev_var rfl)) fun _ => ev_p (ev_var rfl)) q
def C_is_wordly (T : Txt K mg) : Own P w K mg base CX0 2 "is_wordly" ["one"] (spP worZ) := T.d_is_wordly.own (ok_is_wordly T)
theorem ok_is_hex (T : Txt K mg) : FnOk P w K mg base CX0 2 T.d_is_hex.f T.d_is_hex.fd ["one"] (spP hexZ) := by
  refine T.d_is_hex.fn.ok sc_is_hex (fun vs H Q E h => ?_) (fun cdv A outer s H vs Q E hr h => ⟨_,
    (pss_one (ps_ret (pe_or (pe_own (C_is_digit T) (hr.mono (by decide)) rfl pass0 (pa_cons (pv 0) pa_nil)) (pe_one (pe_chain op_le op_le pe_int (pv 0) pe_int)))))
    , ?_⟩)
  · obtain ⟨x, rfl, _⟩ := h
    rfl
  · obtain ⟨x, rfl, q⟩ := h
    exact s_ret (ev_orV (ev_p (ev_var rfl)) fun _ => ev_chain ev_c (ev_var rfl) ev_c rfl rfl) q
def C_is_hex (T : Txt K mg) : Own P w K mg base CX0 2 "is_hex" ["one"] (spP hexZ) := T.d_is_hex.own (ok_is_hex T)
/-- small(one) -/
def smZ (x : Int) : Int := if (decide (65 ≤ x) && decide (x ≤ 90)) = true then x + 32 else x
def spSmall : Sp := fun vs H Q _ => ∃ x : Int, vs = [.int x] ∧ ∀ H', Ex H H' → Q (.int (smZ x)) H'
theorem ok_small (T : Txt K mg) : FnOk P w K mg base CX0 1 T.d_small.f T.d_small.fd ["one"] spSmall := by
  refine T.d_small.fn.ok sc_small (fun vs H Q E h => ?_) (fun cdv A outer s H vs Q E hr h => ⟨_,
    (pss_one (ps_ret (pe_ifExp (pt_chain op_le op_le pe_int (pv 0) pe_int) (pe_op op_add (pv 0) pe_int) (pv 0))))
    , ?_⟩)
  · obtain ⟨x, rfl, _⟩ := h
    rfl
  · obtain ⟨x, rfl, q⟩ := h
    refine s_ret (ev_if (et_test (ev_chain ev_c (ev_var rfl) ev_c rfl rfl)) (fun e => ev_is (ev_op (ev_var rfl) ev_c rv_I0) ?_) (fun e => ev_is (ev_var rfl) ?_)) q
    · unfold smZ
      rw [if_pos e]
    · unfold smZ
      rw [if_neg (by rw [e]; exact Bool.false_ne_true)]
def C_small (T : Txt K mg) : Own P w K mg base CX0 1 "small" ["one"] spSmall := T.d_small.own (ok_small T)
/-- byte_at(text, at) -/
def spByte (K : PySem.W.Frag) : Sp := fun vs H Q _ => ∃ (a : Addr) (b : Dbm.Bytes) (i : Nat), vs = [.ref a, .int (i : Int)] ∧ SqL K H a (tx b) ∧ ∀ H', Ex H H' → Q (.int (bt b i)) H'
theorem ev_byte {σ : L2.St} {H : Hp} {ta tb : TE} {E : XK} {a : Addr} {b : Dbm.Bytes} {i : Int} {n : Nat} (ha : Ev ta σ H (.ref a)) (hS : SqL K H a (tx b)) (hb : Ev tb σ H (.int i)) (hn : i = (n : Int)) :
    Ev (tCall (spByte K) [] E (tCons ta (tCons tb tNil))) σ H (.int (bt b n)) := by
  subst hn
  exact ev_call (ea_cons ha (ea_cons hb ea_nil)) fun H1 e Q q E => ⟨a, b, n, rfl, ex_l e hS, q⟩
theorem ok_byte_at (T : Txt K mg) : FnOk P w K mg base CX0 1 T.d_byte_at.f T.d_byte_at.fd ["text", "at"] (spByte K) := by
  refine T.d_byte_at.fn.ok sc_byte_at (fun vs H Q E h => ?_) (fun cdv A outer s H vs Q E hr h => ⟨_,
    (pss_one (ps_ret (pe_ifExp (pt_cmp (pc_lt (pv 1) (pe_callB call_len_seq (by rfl) T.nlen PySem.boot_len (pa_cons (pv 0) pa_nil)))) (pe_ix ix_list (pv 0) (pv 1) (fun _ _ => rfl)) (pe_un un_neg pe_int))))
    , ?_⟩)
  · obtain ⟨a, b, i, rfl, _⟩ := h
    rfl
  · obtain ⟨a, b, i, rfl, hS, q⟩ := h
    refine s_ret (ev_if (et_B (ev_cmp (ev_var rfl) (ev_lenT (ev_var rfl) hS))) (fun e => ?_) (fun e => ?_)) q
    · have h : i < b.length := Int.ofNat_lt.mp (of_decide_eq_true e)
      exact ev_item (ev_var rfl) hS (ev_var rfl) rfl h
    · have h : ¬ i < b.length := fun z => of_decide_eq_false e (Int.ofNat_lt.mpr z)
      exact ev_is (ev_un ev_c ru_neg) (by rw [bt_none (List.getElem?_eq_none (by omega))])
def C_byte_at (T : Txt K mg) : Own P w K mg base CX0 1 "byte_at" ["text", "at"] (spByte K) := T.d_byte_at.own (ok_byte_at T)
/-- while p(byte_at(text, at)): at = at + 1 -/
theorem q_scan {σ : L2.St} {H : Hp} {t : TT} {tz : TS} {D : Ends} {j : Nat} {b : Dbm.Bytes} {p : UInt8 → Bool} {f : Int → Bool} (hf : ∀ c : UInt8, f (c.toNat : Int) = p c) (hn : f (-1) = false) (S : Int → L2.St) {i : Nat} (h0 : σ = S i) (hi : i ≤ b.length)
    (hS : ∀ n m : Int, (S n).set j (some (.int m)) = S m) (hj : ∀ n : Int, (S n)[j]? = some (some (.int n))) (hc : ∀ (n : Nat) H1, Ex H H1 → EvT t (S n) H1 (f (bt b n)))
    (k : ∀ H1, Ex H H1 → tz D (S (run p b i : Nat)) H1) : tSeq (tWhile t (tAsg (tOp (rI0 fun i j => .int (i + j)) (tVar j) (tC (.int 1))) (gName j))) tz D σ H := by
  refine q_while (fun m σ' H' => ∃ n : Nat, n ≤ b.length ∧ m = b.length - n ∧ σ' = S n ∧ Ex H H' ∧ run p b n = run p b i) (b.length - i) ⟨i, hi, rfl, h0, Ex.refl H, rfl⟩ ?_
  rintro m σ' H' ⟨n, hn1, rfl, rfl, e, hr⟩
  refine ⟨_, hc n H' e, fun hb H1 e1 => ⟨fun σ2 H2 => n + 1 ≤ b.length ∧ σ2 = S ((n + 1 : Nat) : Int) ∧ Ex H H2 ∧ run p b (n + 1) = run p b i, fun σ2 H2 z => ⟨b.length - (n + 1), by omega, n + 1, z.1, rfl, z.2⟩, ?_⟩, fun hb H1 e1 => ?_⟩
  · cases ec : b[n]? with
    | none =>
      rw [bt_none ec, hn] at hb
      cases hb
    | some c =>
      rw [bt_some ec, hf] at hb
      have hl := (List.getElem?_eq_some_iff.mp ec).1
      refine s_asg (ev_op (ev_var (hj n)) ev_c rv_I0) fun H2 e2 => ⟨hl, ?_, (e.trans e1).trans e2, ?_⟩
      · rw [hS]
        rfl
      · rw [← hr, run_step ec hb]
  · have : run p b n = n := run_stop fun c ec => by
      rw [bt_some ec, hf] at hb
      exact hb
    have q := k H1 (e.trans e1)
    rw [← hr, this] at q
    exact q
/-- behind_digits(text, at) -/
def spBehind (K : PySem.W.Frag) : Sp := fun vs H Q _ => ∃ (a : Addr) (b : Dbm.Bytes) (i : Nat), vs = [.ref a, .int (i : Int)] ∧ SqL K H a (tx b) ∧ i ≤ b.length ∧ ∀ H', Ex H H' → Q (.int (run Dbm.isDigit b i : Nat)) H'
theorem ev_behind {σ : L2.St} {H : Hp} {ta tb : TE} {E : XK} {a : Addr} {b : Dbm.Bytes} {i : Int} {n : Nat} (ha : Ev ta σ H (.ref a)) (hS : SqL K H a (tx b)) (hb : Ev tb σ H (.int i)) (hn : i = (n : Int)) (hl : n ≤ b.length) :
    Ev (tCall (spBehind K) [] E (tCons ta (tCons tb tNil))) σ H (.int (run Dbm.isDigit b n : Nat)) := by
  subst hn
  exact ev_call (ea_cons ha (ea_cons hb ea_nil)) fun H1 e Q q E => ⟨a, b, n, rfl, ex_l e hS, hl, q⟩
theorem ok_behind_digits (T : Txt K mg) : FnOk P w K mg base CX0 2 T.d_behind_digits.f T.d_behind_digits.fd ["text", "at"] (spBehind K) := by
  refine T.d_behind_digits.fn.ok sc_behind_digits (fun vs H Q E h => ?_) (fun cdv A outer s H vs Q E hr h => ⟨_,
    (pss_cons (ps_while PassesOwn.never (pt_val (pe_own (C_is_digit T) (hr.mono (by decide)) rfl pass0 (pa_cons (pe_own (C_byte_at T) (hr.mono (by decide)) rfl pass0 (pa_cons (pv 0) (pa_cons (pv 1) pa_nil))) pa_nil))) (pss_one (ps_set (i := 1) sc_behind_digits.nd rfl (Or.inl rfl) (pe_op op_add (pv 1) pe_int))))
    (pss_one (ps_ret (pv 1))))
    , ?_⟩)
  · obtain ⟨a, b, i, rfl, _⟩ := h
    rfl
  · obtain ⟨a, b, i, rfl, hS, hl, q⟩ := h
    exact q_scan digZ_u (by decide) (fun n => [some (.ref a), some (.int n)]) rfl hl (fun _ _ => rfl) (fun _ => rfl)
      (fun n H1 e => et_B (ev_p (ev_byte (ev_var rfl) (ex_l e hS) (ev_var rfl) rfl))) fun H1 e => s_ret (ev_var rfl) fun H2 e2 => q H2 (e.trans e2)
def C_behind_digits (T : Txt K mg) : Own P w K mg base CX0 2 "behind_digits" ["text", "at"] (spBehind K) := T.d_behind_digits.own (ok_behind_digits T)
end
end Tk
namespace Tk
open PySem PySem.Spec PyProof.Rows L2 Evl TkM
section
variable {P : Program} {w : World} {K : PySem.W.Frag} {mg : Str → Option Value} {base : Heap}
/-! ### the error -/
/-- an error of the class at C whose own dict tells the place -/
def ErrAt (C : Addr) (p : Int) (H : Hp) (E : XK) : Prop := ∀ (d : Addr) H', Ex H H' → H' d = some (.xd [(("place" : Str), .int p)]) → E (.ref C) (some d) H'
theorem ErrAt.mono {C : Addr} {p : Int} {H H' : Hp} {E : XK} (e : Ex H H') (h : ErrAt C p H E) : ErrAt C p H' E := fun d H2 e2 q => h d H2 (e.trans e2) q
def spNoInit (C : Addr) : Sp := fun vs H Q _ => ∃ (a : Addr) (p : Int), vs = [.ref a, .int p] ∧ H a = some (exo a C none) ∧
  ∀ (d : Addr) H', H d = none → d ≠ a → (∀ x o, H x = some o → x ≠ a → H' x = some o) → H' a = some (exo a C (some d)) → H' d = some (exd d [(("place" : Str), .int p)]) → Q .non H'
theorem C_NoToken_init (T : Txt K mg) : FnOk P w K mg base CX0 1 T.fNoToken T.fdNoToken ["self", "place"] (spNoInit T.aNoToken) := by
  refine T.FNoToken.ok sc_NoToken_init (fun vs H Q E h => ?_) (fun cdv A outer s H vs Q E hr h => ⟨_,
    (pss_cons (ps_expr (pe_veinit rfl T.nVE T.vVE (pa_cons (pv 0) (pa_cons (pv 1) pa_nil))))
    (pss_one (ps_ost (pv 0) (pv 1))))
    , ?_⟩)
  · obtain ⟨a, p, rfl, _⟩ := h
    rfl
  · obtain ⟨a, p, rfl, ha, k⟩ := h
    refine ⟨_, rfl, _, rfl, a, T.aNoToken, [.int p], rfl, (by show 1 ≤ 1000; decide), T.oexNoToken, ha, ?_⟩
    refine ⟨_, rfl, _, rfl, a, T.aNoToken, rfl, T.oexNoToken, T.nNoToken_place, .inl ⟨ha, fun dx hd hda => ?_⟩⟩
    refine k dx _ hd hda (fun x o hx hxa => ?_) upd_same ?_
    · rw [upd_ne hxa, upd_ne (ne_of_none hx hd)]
      exact hx
    · rw [upd_ne hda]
      exact upd_same
theorem mk_no {C : Addr} {σ : L2.St} {H : Hp} {ta : TE} {p : Int} {E : XK} (h : Ev ta σ H (.int p)) (k : ErrAt C p H E) : tMkO C (spNoInit C) [] (tCons ta tNil) σ H (fun cls d H' => E cls d H') :=
  h H (Ex.refl H) _ fun H1 e => ⟨by show 1 ≤ 1000; decide, fun a ha => ⟨a, p, rfl, upd_same, fun d H' hd hda kp ea ed => ⟨rfl, d, _, ea, ed, by rw [upd_ne hda] at hd; exact hd, by
    have hd1 : H1 d = none := by rw [upd_ne hda] at hd; exact hd
    refine k d _ (e.trans fun x o hx => ?_) upd_same
    have hxa : x ≠ a := ne_of_none hx ha
    rw [upd_ne (ne_of_none hx hd1), del_ne hxa]
    exact kp x o (by rw [upd_ne hxa]; exact hx) hxa⟩⟩⟩
def spNeed (C : Addr) : Sp := fun vs H Q E => ∃ (h : Bool) (p : Int), vs = [.bl h, .int p] ∧ (h = true → ∀ H', Ex H H' → Q .non H') ∧ (h = false → ErrAt C p H E)
theorem ok_need (T : Txt K mg) : FnOk P w K mg base (L2.CX P w) 3 T.d_need.f T.d_need.fd ["holds", "place"] (spNeed T.aNoToken) := by
  refine T.d_need.fn.okX sc_need (fun vs H Q E h => ?_) (fun cdv A outer s H vs Q E hr h => ⟨_,
    (pss_one (ps_if (pt_not (pt_val (pv 0)))
    (pss_one (ps_raise rfl (takes_of rfl rfl rfl rfl) (pmk_oex T.oexNoToken T.iNoToken T.tNoToken (C_NoToken_init T) (hr.mono (by decide)) T.bNoToken .nil pass0 rfl T.gNoToken (pa_cons (pv 1) pa_nil)))) pss_nil))
    , ?_⟩)
  · obtain ⟨h, p, rfl, _⟩ := h
    rfl
  · obtain ⟨h, p, rfl, q1, q2⟩ := h
    refine s_if (et_not (et_B (ev_var (v := .bl h) rfl))) (fun hb H1 e => ?_) (fun hb H1 e => ?_)
    · exact mk_no (ev_var rfl) ((q2 (by cases h with | true => cases hb | false => rfl)).mono e)
    · exact q1 (by cases h with | true => rfl | false => cases hb) H1 e
def C_need (T : Txt K mg) : Own P w K mg base (L2.CX P w) 3 "need" ["holds", "place"] (spNeed T.aNoToken) := T.d_need.own (ok_need T)
theorem q_need {C : Addr} {E : XK} {σ : L2.St} {H : Hp} {ta tb : TE} {tz : TS} {D : Ends} {h : Bool} {p : Int} (ha : Ev ta σ H (.bl h)) (hb : Ev tb σ H (.int p)) (k : h = true → ∀ H1, Ex H H1 → tz D σ H1) (k2 : h = false → ErrAt C p H E) :
    tSeq (tDrop (tCall (spNeed C) [] E (tCons ta (tCons tb tNil)))) tz D σ H :=
  ha H (Ex.refl H) _ fun H1 e1 => hb H1 e1 _ fun H2 e2 => ⟨h, p, rfl, fun z H3 e3 => k z H3 ((e1.trans e2).trans e3), fun z => (k2 z).mono (e1.trans e2)⟩
/-! ### tokens -/
def tokF (k p : Int) (r : V) : List (Str × V) := [("kind", .int k), ("place", .int p), ("row", r)]
/-- at t a token of that kind, at that place -/
def TokAt (C : Addr) (H : Hp) (t : Addr) (k p : Int) : Prop := ∃ dx r, H t = some (.ins C dx (tokF k p r))
theorem TokAt.mono {C : Addr} {H H' : Hp} {t : Addr} {k p : Int} (e : Ex H H') (h : TokAt C H t k p) : TokAt C H' t k p := let ⟨dx, r, q⟩ := h; ⟨dx, r, e _ _ q⟩
theorem put_past {f g : Str} {v x : V} {r : List (Str × V)} (h : ¬ g = f) : putF f v ((g, x) :: r) = (g, x) :: putF f v r := if_neg h
theorem lk_here {k : Str} {v : V} {r : List (Str × V)} : List.lookup k ((k, v) :: r) = some v := by
  have e : (k == k) = true := beq_self_eq_true k
  simp only [List.lookup, e]
theorem lk_past {k g : Str} {v : V} {r : List (Str × V)} (h : (k == g) = false) : List.lookup k ((g, v) :: r) = List.lookup k r := by
  simp only [List.lookup, h]
theorem tokF_kind (k p : Int) (r : V) : (tokF k p r).lookup ("kind" : Str) = some (.int k) := lk_here
theorem tokF_place (k p : Int) (r : V) : (tokF k p r).lookup ("place" : Str) = some (.int p) := (lk_past (by decide +kernel)).trans lk_here
theorem tokF_new (k p : Int) (r : V) : putF "row" r (putF "place" (.int p) (putF "kind" (.int k) [])) = tokF k p r := by
  have e1 : putF ("kind" : Str) (V.int k) [] = ([(("kind" : Str), V.int k)] : List (Str × V)) := rfl
  rw [e1, put_past (by decide +kernel)]
  have e2 : putF ("place" : Str) (V.int p) [] = ([(("place" : Str), V.int p)] : List (Str × V)) := rfl
  rw [e2, put_past (by decide +kernel), put_past (by decide +kernel)]
  rfl
def spTokInit (C : Addr) : Sp := fun vs H Q _ => ∃ (x dx : Addr) (k p : Int) (r : V), vs = [.ref x, .int k, .int p, r] ∧ H x = some (.ins C dx []) ∧
  ∀ H', H' x = some (.ins C dx (tokF k p r)) → (∀ b o, H b = some o → b ≠ x → H' b = some o) → Q .non H'
theorem C_Token_init (T : Txt K mg) : FnOk P w K mg base CX0 1 T.fToken T.fdToken ["self", "kind", "place", "row"] (spTokInit T.aToken) := by
  refine T.FToken.ok sc_Token_init (fun vs H Q E h => ?_) (fun cdv A outer s H vs Q E hr h => ⟨_,
    (pss_cons (ps_fld (pv 0) (pv 1) rfl)
    (pss_cons (ps_fld (pv 0) (pv 2) rfl)
    (pss_one (ps_fld (pv 0) (pv 3) rfl))))
    , ?_⟩)
  · obtain ⟨x, dx, k, p, r, rfl, _⟩ := h
    rfl
  · obtain ⟨x, dx, k, p, r, rfl, hx, q⟩ := h
    refine ⟨_, rfl, _, rfl, x, T.aToken, dx, [], rfl, hx, T.clToken, T.nToken_kind, (by show 0 < 1000; decide), ?_⟩
    refine ⟨_, rfl, _, rfl, x, T.aToken, dx, _, rfl, upd_same, T.clToken, T.nToken_place, (by show 1 < 1000; decide), ?_⟩
    refine ⟨_, rfl, _, rfl, x, T.aToken, dx, _, rfl, upd_same, T.clToken, T.nToken_row, (by show 2 < 1000; decide), ?_⟩
    refine q _ (upd_same.trans ?_) fun b o hb hne => ?_
    · rw [tokF_new]
    · rw [upd_ne hne, upd_ne hne, upd_ne hne]
      exact hb
theorem ev_tok {C : Addr} {σ : L2.St} {H : Hp} {tk tp tr : TE} {k p : Int} {R : V → Hp → Prop} (hk : Ev tk σ H (.int k)) (hp : Ev tp σ H (.int p)) (hr : EvP tr σ H R) :
    EvP (tMake C (spTokInit C) [] E0 (tCons tk (tCons tp (tCons tr tNil)))) σ H fun v H2 => ∃ t, v = .ref t ∧ TokAt C H2 t k p := fun H1 e Q q =>
  hk H1 e _ fun H2 e2 => hp H2 (e.trans e2) _ fun H3 e3 => hr H3 ((e.trans e2).trans e3) _ fun v H4 e4 _ x dx nx nd ne => ⟨x, dx, k, p, v, rfl, upd_same, fun H' hx kp => ⟨rfl, by
    refine q _ H' (((e2.trans e3).trans e4).trans fun b o hb => ?_) ⟨x, rfl, dx, v, hx⟩
    refine kp b o ?_ (ne_of_none hb nx)
    rw [upd_ne (ne_of_none hb nx), upd_ne (ne_of_none hb nd)]
    exact hb⟩⟩
/-- what a taken token's call hands back -/
def TkRes (CT CN : Addr) (m : Option (Nat × Nat)) (i : Nat) (H : Hp) (Q : VK) (E : XK) : Prop :=
  (∀ k j : Nat, m = some (k, j) → ∀ H' (p t : Addr), Ex H H' → H' p = some (.tup [.ref t, .int (j : Int)]) → TokAt CT H' t k i → Q (.ref p) H') ∧ (m = none → ErrAt CN i H E)
theorem s_retTok {CT : Addr} {σ : L2.St} {H : Hp} {te tj : TE} {k p j : Int} {D : Ends} (h : EvP te σ H fun v H2 => ∃ t, v = .ref t ∧ TokAt CT H2 t k p) (hj : Ev tj σ H (.int j))
    (q : ∀ H' (p' t : Addr), Ex H H' → H' p' = some (.tup [.ref t, .int j]) → TokAt CT H' t k p → D.rt (.ref p') H') : tRet (tTup (tCons te (tCons tj tNil))) D σ H :=
  h H (Ex.refl H) _ fun v H1 e1 ⟨t, ev, ht⟩ => hj H1 e1 _ fun H2 e2 => ⟨(by show 2 ≤ sizeLine; decide), fun p' hp' => by
    subst ev
    exact q _ p' t ((e1.trans e2).trans (Ex.new hp')) upd_same ((ht.mono e2).mono (Ex.new hp'))⟩
/-! ### UTF-8 -/
def spSize (K : PySem.W.Frag) : Sp := fun vs H Q _ => ∃ (a : Addr) (l : Dbm.Bytes) (i : Nat), vs = [.ref a, .int (i : Int)] ∧ SqL K H a (tx l) ∧ i < l.length ∧ ∀ H', Ex H H' → Q (.int (sz (l.drop i) : Nat)) H'
theorem ok_sign_size (T : Txt K mg) : FnOk P w K mg base CX0 2 T.d_sign_size.f T.d_sign_size.fd ["row", "at"] (spSize K) := by
  refine T.d_sign_size.fn.ok sc_sign_size (fun vs H Q E h => ?_) (fun cdv A outer s H vs Q E hr h => ⟨_,
    (pss_cons (ps_par (i := 2) (j := 3) rfl sc_sign_size.nd rfl rfl (by decide) rfl rfl (pa_cons (pe_ix ix_list (pv 0) (pv 1) (fun _ _ => rfl)) (pa_cons (pe_own (C_byte_at T) (hr.mono (by decide)) rfl pass0 (pa_cons (pv 0) (pa_cons (pe_op op_add (pv 1) pe_int) pa_nil))) pa_nil)) (by rfl))
    (pss_cons (ps_if (pt_cmp (pc_lt (pv 2) pe_int))
    (pss_one (ps_ret pe_int)) pss_nil)
    (pss_cons (ps_if (pt_chain op_le op_le pe_int (pv 2) pe_int)
    (pss_one (ps_ret (pe_ifExp (pt_val (pe_own (C_is_tail T) (hr.mono (by decide)) rfl pass0 (pa_cons (pv 3) pa_nil))) pe_int pe_int))) pss_nil)
    (pss_cons (ps_if (pt_chain op_le op_le pe_int (pv 2) pe_int)
    (pss_cons (ps_par (i := 4) (j := 5) rfl sc_sign_size.nd rfl rfl (by decide) rfl rfl (pa_cons (pe_ifExp (pt_cmp (pc_eqI (pv 2) pe_int)) pe_int pe_int) (pa_cons (pe_ifExp (pt_cmp (pc_eqI (pv 2) pe_int)) pe_int pe_int) pa_nil)) (by rfl))
    (pss_one (ps_ret (pe_ifExp (PW.pt (pw_and (pt_chain op_le op_le (pv 4) (pv 3) (pv 5)) (pw_and1 (pt_val (pe_own (C_is_tail T) (hr.mono (by decide)) rfl pass0 (pa_cons (pe_own (C_byte_at T) (hr.mono (by decide)) rfl pass0 (pa_cons (pv 0) (pa_cons (pe_op op_add (pv 1) pe_int) pa_nil))) pa_nil)))))) pe_int pe_int)))) pss_nil)
    (pss_cons (ps_if (pt_chain op_le op_le pe_int (pv 2) pe_int)
    (pss_cons (ps_par (i := 4) (j := 5) rfl sc_sign_size.nd rfl rfl (by decide) rfl rfl (pa_cons (pe_ifExp (pt_cmp (pc_eqI (pv 2) pe_int)) pe_int pe_int) (pa_cons (pe_ifExp (pt_cmp (pc_eqI (pv 2) pe_int)) pe_int pe_int) pa_nil)) (by rfl))
    (pss_cons (ps_set (i := 6) sc_sign_size.nd rfl (Or.inl rfl) (pe_and (pe_own (C_is_tail T) (hr.mono (by decide)) rfl pass0 (pa_cons (pe_own (C_byte_at T) (hr.mono (by decide)) rfl pass0 (pa_cons (pv 0) (pa_cons (pe_op op_add (pv 1) pe_int) pa_nil))) pa_nil)) (pe_one (pe_own (C_is_tail T) (hr.mono (by decide)) rfl pass0 (pa_cons (pe_own (C_byte_at T) (hr.mono (by decide)) rfl pass0 (pa_cons (pv 0) (pa_cons (pe_op op_add (pv 1) pe_int) pa_nil))) pa_nil)))))
    (pss_one (ps_ret (pe_ifExp (PW.pt (pw_and (pt_chain op_le op_le (pv 4) (pv 3) (pv 5)) (pw_and1 (pt_val (pv 6))))) pe_int pe_int))))) pss_nil)
    (pss_one (ps_ret pe_int)))))))
    , ?_⟩)
  · obtain ⟨a, l, i, rfl, _⟩ := h
    rfl
  · obtain ⟨a, l, i, rfl, hS, hl, q⟩ := h
    have es : sz (l.drop i) = szI (bt l i) (bt l (i + 1)) (bt l (i + 2)) (bt l (i + 3)) := by
      unfold sz
      rw [bt_drop, bt_drop, bt_drop, bt_drop]
      rfl
    have hf := fun {a b : Bool} (h : (a && b) = false) (z : a = true ∧ b = true) => by rw [z.1, z.2] at h; exact Bool.false_ne_true h.symm
    rw [es] at q
    refine q_par (ev_item (ev_var rfl) hS (ev_var rfl) rfl hl) (ev_byte (n := i + 1) (ev_var rfl) hS (ev_op (ev_var rfl) ev_c rv_I0) rfl) fun H1 e1 => ?_
    have hS1 := ex_l e1 hS
    unfold szI at q
    refine q_when (et_B (ev_cmp (ev_var rfl) ev_c)) (fun b H2 e2 => ?_) (fun b H2 e2 => ?_)
    · rw [if_pos (of_decide_eq_true b)] at q
      exact s_ret ev_c fun H3 e3 => q H3 ((e1.trans e2).trans e3)
    rw [if_neg (of_decide_eq_false b)] at q
    have hS2 := ex_l e2 hS1
    have e12 := e1.trans e2
    refine q_when (et_test (ev_chain ev_c (ev_var rfl) ev_c rfl rfl)) (fun b H3 e3 => ?_) (fun b H3 e3 => ?_)
    · rw [Bool.and_eq_true] at b
      rw [if_pos ⟨of_decide_eq_true b.1, of_decide_eq_true b.2⟩] at q
      refine s_ret (v := .int (if taiZ (bt l (i + 1)) = true then 2 else 0 : Nat)) (ev_if (et_B (ev_p (ev_var rfl))) (fun c => ?_) (fun c => ?_)) fun H4 e4 => q H4 ((e12.trans e3).trans e4)
      · rw [if_pos c]
        exact ev_c
      · rw [if_neg (by rw [c]; exact Bool.false_ne_true)]
        exact ev_c
    rw [if_neg (fun z => hf b ⟨decide_eq_true z.1, decide_eq_true z.2⟩)] at q
    have hS3 := ex_l e3 hS2
    have e13 := e12.trans e3
    refine q_when (et_test (ev_chain ev_c (ev_var rfl) ev_c rfl rfl)) (fun b H4 e4 => ?_) (fun b H4 e4 => ?_)
    · rw [Bool.and_eq_true] at b
      rw [if_pos ⟨of_decide_eq_true b.1, of_decide_eq_true b.2⟩] at q
      have hS4 := ex_l e4 hS3
      refine q_par (x := .int (if bt l i = 224 then 160 else 128)) (y := .int (if bt l i = 237 then 159 else 191))
        (ev_if (et_B (ev_cmp (ev_var rfl) ev_c)) (fun c => by rw [if_pos (of_decide_eq_true c)]; exact ev_c) (fun c => by rw [if_neg (of_decide_eq_false c)]; exact ev_c))
        (ev_if (et_B (ev_cmp (ev_var rfl) ev_c)) (fun c => by rw [if_pos (of_decide_eq_true c)]; exact ev_c) (fun c => by rw [if_neg (of_decide_eq_false c)]; exact ev_c)) fun H5 e5 => ?_
      have hS5 := ex_l e5 hS4
      refine s_ret (v := .int (if (decide ((if bt l i = 224 then (160 : Int) else 128) ≤ bt l (i + 1)) && decide (bt l (i + 1) ≤ (if bt l i = 237 then 159 else 191))) = true ∧ taiZ (bt l (i + 2)) = true then 3 else 0 : Nat))
        (ev_if (et_and (et_test (ev_chain (ev_var rfl) (ev_var rfl) (ev_var rfl) rfl rfl)) fun _ => et_B (ev_p (ev_byte (n := i + 2) (ev_var rfl) hS5 (ev_op (ev_var rfl) ev_c rv_I0) rfl))) (fun c => ?_) (fun c => ?_)) fun H6 e6 => q H6 (((e13.trans e4).trans e5).trans e6)
      · rw [Bool.and_eq_true] at c
        exact ev_is ev_c (congrArg (fun z : Nat => V.int z) (if_pos ⟨c.1, c.2⟩).symm)
      · exact ev_is ev_c (congrArg (fun z : Nat => V.int z) (if_neg (fun z => hf c z)).symm)
    rw [if_neg (fun z => hf b ⟨decide_eq_true z.1, decide_eq_true z.2⟩)] at q
    have hS4 := ex_l e4 hS3
    have e14 := e13.trans e4
    refine q_when (et_test (ev_chain ev_c (ev_var rfl) ev_c rfl rfl)) (fun b H5 e5 => ?_) (fun b H5 e5 => ?_)
    · rw [Bool.and_eq_true] at b
      rw [if_pos ⟨of_decide_eq_true b.1, of_decide_eq_true b.2⟩] at q
      have hS5 := ex_l e5 hS4
      refine q_par (x := .int (if bt l i = 240 then 144 else 128)) (y := .int (if bt l i = 244 then 143 else 191))
        (ev_if (et_B (ev_cmp (ev_var rfl) ev_c)) (fun c => by rw [if_pos (of_decide_eq_true c)]; exact ev_c) (fun c => by rw [if_neg (of_decide_eq_false c)]; exact ev_c))
        (ev_if (et_B (ev_cmp (ev_var rfl) ev_c)) (fun c => by rw [if_pos (of_decide_eq_true c)]; exact ev_c) (fun c => by rw [if_neg (of_decide_eq_false c)]; exact ev_c)) fun H6 e6 => ?_
      have hS6 := ex_l e6 hS5
      refine q_asg (ev_andV (ev_p (ev_byte (n := i + 2) (ev_var rfl) hS6 (ev_op (ev_var rfl) ev_c rv_I0) rfl)) fun _ => ev_p (ev_byte (n := i + 3) (ev_var rfl) hS6 (ev_op (ev_var rfl) ev_c rv_I0) rfl)) fun H7 e7 => ?_
      refine s_ret (v := .int (if (decide ((if bt l i = 240 then (144 : Int) else 128) ≤ bt l (i + 1)) && decide (bt l (i + 1) ≤ (if bt l i = 244 then 143 else 191))) = true ∧ (taiZ (bt l (i + 2)) && taiZ (bt l (i + 3))) = true then 4 else 0 : Nat))
        (ev_if (et_and (et_test (ev_chain (ev_var rfl) (ev_var rfl) (ev_var rfl) rfl rfl)) fun _ => et_B (ev_var rfl)) (fun c => ?_) (fun c => ?_)) fun H8 e8 => q H8 ((((e14.trans e5).trans e6).trans e7).trans e8)
      · rw [Bool.and_eq_true] at c
        exact ev_is ev_c (congrArg (fun z : Nat => V.int z) (if_pos ⟨c.1, c.2⟩).symm)
      · exact ev_is ev_c (congrArg (fun z : Nat => V.int z) (if_neg (fun z => hf c z)).symm)
    rw [if_neg (fun z => hf b ⟨decide_eq_true z.1, decide_eq_true z.2⟩)] at q
    exact s_ret ev_c fun H6 e6 => q H6 ((e14.trans e5).trans e6)
def C_sign_size (T : Txt K mg) : Own P w K mg base CX0 2 "sign_size" ["row", "at"] (spSize K) := T.d_sign_size.own (ok_sign_size T)
def spMade (K : PySem.W.Frag) : Sp := fun vs H Q _ => ∃ (a : Addr) (l : Dbm.Bytes) (least : Nat), vs = [.ref a, .int (least : Int)] ∧ SqL K H a (tx l) ∧ least ≤ 128 ∧ ∀ H', Ex H H' → Q (.bl (wm least l)) H'
theorem ok_is_well_made (T : Txt K mg) : FnOk P w K mg base CX0 3 T.d_is_well_made.f T.d_is_well_made.fd ["row", "least"] (spMade K) := by
  refine T.d_is_well_made.fn.ok sc_is_well_made (fun vs H Q E h => ?_) (fun cdv A outer s H vs Q E hr h => ⟨_,
    (pss_cons (ps_set (i := 2) sc_is_well_made.nd rfl (Or.inl rfl) pe_int)
    (pss_cons (ps_while PassesOwn.never (pt_cmp (pc_lt (pv 2) (pe_callB call_len_seq (by rfl) T.nlen PySem.boot_len (pa_cons (pv 0) pa_nil)))) (pss_cons (ps_set (i := 3) sc_is_well_made.nd rfl (Or.inl rfl) (pe_own (C_sign_size T) (hr.mono (by decide)) rfl pass0 (pa_cons (pv 0) (pa_cons (pv 2) pa_nil))))
    (pss_cons (ps_if (PW.pt (pw_or (pt_cmp (pc_eqI (pv 3) pe_int)) (pw_or1 (pt_cmp (pc_lt (pe_ix ix_list (pv 0) (pv 2) (fun _ _ => rfl)) (pv 1))))))
    (pss_one (ps_ret pe_bl)) pss_nil)
    (pss_one (ps_set (i := 2) sc_is_well_made.nd rfl (Or.inl rfl) (pe_op op_add (pv 2) (pv 3)))))))
    (pss_one (ps_ret pe_bl))))
    , ?_⟩)
  · obtain ⟨a, l, i, rfl, _⟩ := h
    rfl
  · obtain ⟨a, l, least, rfl, hS, h128, q⟩ := h
    refine q_asg ev_c fun H1 e1 => ?_
    refine q_while (fun m σ' H' => ∃ (n : Nat) (v : Option V), n ≤ l.length ∧ m = l.length - n ∧ σ' = [some (.ref a), some (.int (least : Int)), some (.int (n : Int)), v] ∧ Ex H H' ∧ wm least (l.drop n) = wm least l) (l.length - 0)
      ⟨0, none, Nat.zero_le _, rfl, rfl, e1, rfl⟩ ?_
    rintro m σ' H' ⟨n, v, hn, rfl, rfl, e, hw⟩
    have hS' := ex_l e hS
    refine ⟨_, et_B (ev_cmp (ev_var rfl) (ev_lenT (ev_var rfl) hS')), fun b H2 e2 => ?_, fun b H2 e2 => ?_⟩
    · have hl : n < l.length := Int.ofNat_lt.mp (of_decide_eq_true b)
      have ec : l[n]? = some l[n] := List.getElem?_eq_getElem hl
      have hS2 := ex_l e2 hS'
      rw [drop_some ec, wm_step least h128, ← drop_some ec] at hw
      refine ⟨fun σ2 H3 => ∃ v, n + sz (l.drop n) ≤ l.length ∧ sz (l.drop n) ≠ 0 ∧ σ2 = [some (.ref a), some (.int (least : Int)), some (.int ((n + sz (l.drop n) : Nat) : Int)), v] ∧ Ex H H3 ∧ wm least (l.drop (n + sz (l.drop n))) = wm least l,
        fun σ2 H3 ⟨v, z1, z2, z3, z4, z5⟩ => ⟨l.length - (n + sz (l.drop n)), by omega, _, v, z1, rfl, z3, z4, z5⟩, ?_⟩
      refine q_asg (v := .int (sz (l.drop n) : Nat)) (ev_call (ea_cons (ev_var rfl) (ea_cons (ev_var rfl) ea_nil)) fun H3 e3 Q q E => ⟨a, l, n, rfl, ex_l e3 hS2, hl, q⟩) fun H3 e3 => ?_
      have hS3 := ex_l e3 hS2
      refine q_when (et_or (et_B (ev_cmp (ev_var rfl) ev_c)) fun _ => et_B (ev_cmp (ev_item (ev_var rfl) hS3 (ev_var rfl) rfl hl) (ev_var rfl))) (fun c H4 e4 => ?_) (fun c H4 e4 => ?_)
      · have : sz (l.drop n) = 0 ∨ l[n].toNat < least := by
          rw [Bool.or_eq_true] at c
          rcases c with c | c
          · exact .inl (by have := of_decide_eq_true c; omega)
          · have := of_decide_eq_true c
            rw [bt_some ec] at this
            exact .inr (by omega)
        rw [if_pos this] at hw
        rw [← hw] at q
        exact s_ret ev_c fun H5 e5 => q H5 ((((e.trans e2).trans e3).trans e4).trans e5)
      · rw [Bool.or_eq_false_iff] at c
        have h0 : sz (l.drop n) ≠ 0 := fun z => of_decide_eq_false c.1 (by rw [z]; rfl)
        have h1 : ¬ l[n].toNat < least := fun z => of_decide_eq_false c.2 (by rw [bt_some ec]; omega)
        rw [if_neg (by intro z; rcases z with z | z; exact h0 z; exact h1 z), List.drop_drop] at hw
        have hle : n + sz (l.drop n) ≤ l.length := by
          have := sz_le l[n] (l.drop (n + 1))
          rw [← drop_some ec, List.length_drop] at this
          omega
        exact s_asg (ev_op (ev_var rfl) (ev_var rfl) rv_I0) fun H5 e5 => ⟨_, hle, h0, rfl, (((e.trans e2).trans e3).trans e4).trans e5, hw⟩
    · have hl : ¬ n < l.length := fun z => of_decide_eq_false b (Int.ofNat_lt.mpr z)
      have e0 : l.drop n = [] := List.drop_eq_nil_of_le (by omega)
      rw [e0, wm_nil] at hw
      rw [← hw] at q
      exact s_ret ev_c fun H3 e3 => q H3 ((e.trans e2).trans e3)
def C_is_well_made (T : Txt K mg) : Own P w K mg base CX0 3 "is_well_made" ["row", "least"] (spMade K) := T.d_is_well_made.own (ok_is_well_made T)
theorem ev_made {σ : L2.St} {H : Hp} {ta : TE} {E : XK} {a : Addr} {l : Dbm.Bytes} {i : Int} {n : Nat} {tb : TE} (ha : Ev ta σ H (.ref a)) (hS : SqL K H a (tx l)) (hb : Ev tb σ H (.int i)) (hn : i = (n : Int)) (h : n ≤ 128) :
    Ev (tCall (spMade K) [] E (tCons ta (tCons tb tNil))) σ H (.bl (wm n l)) := by
  subst hn
  exact ev_call (ea_cons ha (ea_cons hb ea_nil)) fun H1 e Q q E => ⟨a, l, n, rfl, ex_l e hS, h, q⟩
end
end Tk
namespace Tk
open PySem PySem.Spec PyProof.Rows L2 Evl TkM
section
variable {P : Program} {w : World} {K : PySem.W.Frag} {mg : Str → Option Value} {base : Heap}
theorem tx_app (b : Dbm.Bytes) (c : UInt8) : tx (b ++ [c]) = tx b ++ [V.int (c.toNat : Int)] := by
  unfold tx
  rw [List.map_append]
  rfl
theorem cut_tx {b : Dbm.Bytes} {i j : Nat} (hi : i ≤ b.length) (hj : j ≤ b.length) : cutV (tx b) (some (i : Int)) (some (j : Int)) = tx ((b.drop i).take (j - i)) := by
  unfold cutV
  rw [HT.sIx_nat, HT.sIx_nat, tx_len, Nat.min_eq_left hi, Nat.min_eq_left hj]
  unfold tx
  rw [List.map_take, List.map_drop]
theorem q_par3L {i j l' : Nat} {σ : L2.St} {H : Hp} {ta tc : TE} {tz : TS} {D : Ends} {x z : V} (ha : Ev ta σ H x) (hc : Ev tc σ H z) (k : ∀ l H1, H l = none → Ex H H1 → H1 l = some (.lst []) → tz D (((σ.set i (some x)).set j (some (.ref l))).set l' (some z)) H1) :
    tSeq (tPar3 i j l' (tCons ta (tCons (tLst tNil) (tCons tc tNil)))) tz D σ H :=
  ha H (Ex.refl H) _ fun H1 e1 => ⟨(by show 0 ≤ sizeLine; decide), fun l hl => hc _ (e1.trans (Ex.new hl)) _ fun H3 e3 => ⟨_, _, _, rfl, k l H3 (fresh_back e1 hl) ((e1.trans (Ex.new hl)).trans e3) (e3 l _ upd_same)⟩⟩
def spBetween (K : PySem.W.Frag) (C : Addr) : Sp := fun vs H Q E => ∃ (a : Addr) (b : Dbm.Bytes) (i : Nat) (q : UInt8), vs = [.ref a, .int (i : Int)] ∧ SqL K H a (tx b) ∧ b.length ≤ 65536 ∧ b[i]? = some q ∧
  (∀ n rest, Si22.between q (b.drop (i + 1)) = some (n, rest) → ∀ H' (p l : Addr), Ex H H' → H' p = some (.tup [.ref l, .int ((b.length - rest.length : Nat) : Int)]) → H' l = some (.lst (tx n)) → Q (.ref p) H') ∧
  (Si22.between q (b.drop (i + 1)) = none → ErrAt C i H E)
theorem ok_between (T : Txt K mg) : FnOk P w K mg base (L2.CX P w) 3 T.d_between.f T.d_between.fd ["text", "place"] (spBetween K T.aNoToken) := by
  refine T.d_between.fn.okX sc_between (fun vs H Q E h => ?_) (fun cdv A outer s H vs Q E hr h => ⟨_,
    (pss_cons (ps_par3 (i := 2) (j := 3) (l := 4) rfl sc_between.nd rfl rfl rfl (by decide) (by decide) (by decide) rfl rfl rfl (pa_cons (pe_ix ix_list (pv 0) (pv 1) (fun _ _ => rfl)) (pa_cons (pe_lst pa_nil) (pa_cons (pe_op op_add (pv 1) pe_int) pa_nil))) (by rfl))
    (pss_cons (ps_while (passes_of rfl) (pt_cmp (pc_lt (pv 4) (pe_callB call_len_seq (by rfl) T.nlen PySem.boot_len (pa_cons (pv 0) pa_nil)))) (pss_one (ps_if (pt_cmp (pc_neI (pe_ix ix_list (pv 0) (pv 4) (fun _ _ => rfl)) (pv 2)))
    (pss_cons (ps_expr (pe_bm PySem.F.plainAttrs_list PySem.F.slot_list_append PySem.F.type_list_append mt_append (pv 3) (pa_cons (pe_ix ix_list (pv 0) (pv 4) (fun _ _ => rfl)) pa_nil)))
    (pss_one (ps_set (i := 4) sc_between.nd rfl (Or.inl rfl) (pe_op op_add (pv 4) pe_int)))) (pss_one (ps_if (pt_cmp (pc_eqI (pe_own (C_byte_at T) (hr.mono (by decide)) rfl pass0 (pa_cons (pv 0) (pa_cons (pe_op op_add (pv 4) pe_int) pa_nil))) (pv 2)))
    (pss_cons (ps_expr (pe_bm PySem.F.plainAttrs_list PySem.F.slot_list_append PySem.F.type_list_append mt_append (pv 3) (pa_cons (pv 2) pa_nil)))
    (pss_one (ps_set (i := 4) sc_between.nd rfl (Or.inl rfl) (pe_op op_add (pv 4) pe_int)))) (pss_one (ps_ret (pe_tup (pa_cons (pv 3) (pa_cons (pe_op op_add (pv 4) pe_int) pa_nil))))))))))
    (pss_one (ps_raise rfl (takes_of rfl rfl rfl rfl) (pmk_oex T.oexNoToken T.iNoToken T.tNoToken (C_NoToken_init T) (hr.mono (by decide)) T.bNoToken .nil pass0 rfl T.gNoToken (pa_cons (pv 1) pa_nil))))))
    , ?_⟩)
  · obtain ⟨a, b, i, q, rfl, _⟩ := h
    rfl
  · obtain ⟨a, b, i, q, rfl, hS, h64, hq, k1, k2⟩ := h
    have hi := (List.getElem?_eq_some_iff.mp hq).1
    refine q_par3L (x := .int (bt b i)) (z := .int ((i + 1 : Nat) : Int)) (ev_item (ev_var rfl) hS (ev_var rfl) rfl hi) (ev_op (ev_var rfl) ev_c rv_I0) fun l H1 hl e1 h1 => ?_
    rw [bt_some hq]
    refine q_while (fun m σ' H' => ∃ (n : Nat) (out : Dbm.Bytes), n ≤ b.length ∧ m = b.length - n ∧ σ' = [some (.ref a), some (.int (i : Int)), some (.int (q.toNat : Int)), some (.ref l), some (.int (n : Int))] ∧ Ex H H' ∧ H' l = some (.lst (tx out)) ∧ out.length ≤ n ∧
      Si22.between q (b.drop (i + 1)) = (Si22.between q (b.drop n)).map fun x => (out ++ x.1, x.2)) (b.length - (i + 1)) ⟨i + 1, [], hi, rfl, rfl, e1, h1, Nat.zero_le _, ?_⟩ ?_
    · cases Si22.between q (b.drop (i + 1)) with
      | none => rfl
      | some x => rfl
    rintro m σ' H' ⟨n, out, hn, rfl, rfl, e, ho, hol, hb⟩
    have hS' := ex_l e hS
    refine ⟨_, et_B (ev_cmp (ev_var rfl) (ev_lenT (ev_var rfl) hS')), fun c H2 e2 => ?_, fun c H2 e2 => ?_⟩
    · have hlt : n < b.length := Int.ofNat_lt.mp (of_decide_eq_true c)
      have ec : b[n]? = some b[n] := List.getElem?_eq_getElem hlt
      have hS2 := ex_l e2 hS'
      have e02 := e.trans e2
      have ho2 := e2 l _ ho
      rw [drop_some ec] at hb
      refine ⟨fun σ2 H3 => ∃ (n' : Nat) (out' : Dbm.Bytes), n < n' ∧ n' ≤ b.length ∧ σ2 = [some (.ref a), some (.int (i : Int)), some (.int (q.toNat : Int)), some (.ref l), some (.int (n' : Int))] ∧ Ex H H3 ∧ H3 l = some (.lst (tx out')) ∧ out'.length ≤ n' ∧
        Si22.between q (b.drop (i + 1)) = (Si22.between q (b.drop n')).map fun x => (out' ++ x.1, x.2), fun σ2 H3 ⟨n', out', z1, z2, z3, z4, z5, z6, z7⟩ => ⟨b.length - n', by omega, n', out', z2, rfl, z3, z4, z5, z6, z7⟩, ?_⟩
      refine s_if (et_B (ev_cmp (ev_item (ev_var rfl) hS2 (ev_var rfl) rfl hlt) (ev_var rfl))) (fun d H3 e3 => ?_) (fun d H3 e3 => ?_)
      · rw [bt_some ec] at d
        have hne : b[n] ≠ q := fun z => by
          rw [z] at d
          simp at d
        have hS3 := ex_l e3 hS2
        refine q_app (xs := tx out) (v := .int (bt b n)) (e3 l _ ho2) (ev_var rfl) (ev_item (ev_var rfl) hS3 (ev_var rfl) rfl hlt) (by rw [tx_len]; omega) fun H4 e4 => ?_
        refine s_asg (ev_op (ev_var rfl) ev_c rv_I0) fun H5 e5 => ⟨n + 1, out ++ [b[n]], by omega, hlt, rfl, ?_, ?_, ?_, ?_⟩
        · exact ((Ex.mut ((e02.trans e3).trans e4) hl).trans e5)
        · rw [tx_app, ← bt_some ec]
          exact e5 l _ upd_same
        · rw [List.length_append]
          exact Nat.add_le_add hol (Nat.le_refl 1)
        · rw [hb, between_other hne]
          cases Si22.between q (b.drop (n + 1)) with
          | none => rfl
          | some x =>
            simp [List.append_assoc]
      · rw [bt_some ec] at d
        have heq : b[n] = q := by
          have : (b[n].toNat : Int) = (q.toNat : Int) := by simpa using d
          exact UInt8.toNat_inj.mp (by omega)
        rw [heq] at hb
        have hS3 := ex_l e3 hS2
        refine s_if (et_B (ev_cmp (ev_byte (n := n + 1) (ev_var rfl) hS3 (ev_op (ev_var rfl) ev_c rv_I0) rfl) (ev_var rfl))) (fun f H4 e4 => ?_) (fun f H4 e4 => ?_)
        · have hn1 : b[n + 1]? = some q := (bt_eq q).mp (of_decide_eq_true f)
          have hl2 := (List.getElem?_eq_some_iff.mp hn1).1
          refine q_app (xs := tx out) (v := .int (q.toNat : Int)) (e4 l _ (e3 l _ ho2)) (ev_var rfl) (ev_var rfl) (by rw [tx_len]; omega) fun H5 e5 => ?_
          refine s_asg (ev_op (ev_var rfl) ev_c rv_I0) fun H6 e6 => ⟨n + 2, out ++ [q], by omega, hl2, rfl, ?_, ?_, ?_, ?_⟩
          · exact ((Ex.mut (((e02.trans e3).trans e4).trans e5) hl).trans e6)
          · rw [tx_app]
            exact e6 l _ upd_same
          · rw [List.length_append]
            exact Nat.add_le_add hol (by show 1 ≤ 2; decide)
          · rw [hb, drop_some hn1, between_two]
            cases Si22.between q (b.drop (n + 1 + 1)) with
            | none => rfl
            | some x =>
              simp [List.append_assoc]
        · have hh : (b.drop (n + 1)).head? ≠ some q := fun z => by
            rw [head_drop] at z
            exact of_decide_eq_false f ((bt_eq q).mpr z)
          rw [between_end _ hh] at hb
          refine s_retU (eu_tup (ea_cons (ev_var rfl) (ea_cons (ev_op (ev_var rfl) ev_c rv_I0) ea_nil)) (by show 2 ≤ 100000; decide)) fun p H5 hp e5 h5 => ?_
          refine k1 _ _ hb H5 p l (((e02.trans e3).trans e4).trans e5) ?_ ?_
          · rw [h5, List.length_drop, show b.length - (b.length - (n + 1)) = n + 1 by omega]
            rfl
          · rw [List.append_nil]
            exact e5 l _ (e4 l _ (e3 l _ ho2))
    · have hl2 : ¬ n < b.length := fun z => of_decide_eq_false c (Int.ofNat_lt.mpr z)
      rw [List.drop_eq_nil_of_le (by omega : b.length ≤ n)] at hb
      exact mk_no (ev_var rfl) ((k2 hb).mono (e.trans e2))
def C_between (T : Txt K mg) : Own P w K mg base (L2.CX P w) 3 "between" ["text", "place"] (spBetween K T.aNoToken) := T.d_between.own (ok_between T)
/-! ### the promise of each def that takes a token -/
def spTk (K : PySem.W.Frag) (CT CN : Addr) (pre : Dbm.Bytes → Nat → Prop) (m : Dbm.Bytes → Nat → Option (Nat × Nat)) : Sp := fun vs H Q E => ∃ (a : Addr) (b : Dbm.Bytes) (i : Nat),
  vs = [.ref a, .int (i : Int)] ∧ SqL K H a (tx b) ∧ b.length ≤ 65536 ∧ i < b.length ∧ pre b i ∧ TkRes CT CN (m b i) i H Q E
theorem TkRes.err {CT CN : Addr} {m : Option (Nat × Nat)} {i : Nat} {H H' : Hp} {Q : VK} {E : XK} (h : TkRes CT CN m i H Q E) (e : m = none) : ErrAt CN i H E := h.2 e
theorem ok_take_bytes (T : Txt K mg) : FnOk P w K mg base (L2.CX P w) 4 T.d_take_bytes.f T.d_take_bytes.fd ["text", "place"] (spTk K T.aToken T.aNoToken (fun b i => bt b (i + 1) = 39) fun b i => (mBytes b i).map fun j => (4, j)) := by
  refine T.d_take_bytes.fn.okX sc_take_bytes (fun vs H Q E h => ?_) (fun cdv A outer s H vs Q E hr h => ⟨_,
    (pss_cons (ps_set (i := 2) sc_take_bytes.nd rfl (Or.inl rfl) (pe_op op_add (pv 1) pe_int))
    (pss_cons (ps_while (passes_of rfl) (pt_val (pe_own (C_is_hex T) (hr.mono (by decide)) rfl pass0 (pa_cons (pe_own (C_byte_at T) (hr.mono (by decide)) rfl pass0 (pa_cons (pv 0) (pa_cons (pv 2) pa_nil))) pa_nil))) (pss_one (ps_set (i := 2) sc_take_bytes.nd rfl (Or.inl rfl) (pe_op op_add (pv 2) pe_int))))
    (pss_cons (ps_set (i := 3) sc_take_bytes.nd rfl (Or.inl rfl) (pe_op op_sub (pe_op op_sub (pv 2) (pv 1)) pe_int))
    (pss_cons (ps_expr (pe_own (C_need T) (hr.mono (by decide)) rfl (passes_call (takes_of rfl rfl rfl rfl) (fun _ _ _ _ h => h)) (pa_cons (pe_and (pe_cmp (pc_eqI (pe_own (C_byte_at T) (hr.mono (by decide)) rfl pass0 (pa_cons (pv 0) (pa_cons (pv 2) pa_nil))) (pe_glob (v := .int 39) rfl T.gAPOSTROPHE ⟨_, rfl⟩))) (pe_and (pe_cmp (pc_eqI (pe_op op_modN (pv 3) pe_int) pe_int)) (pe_one (pe_cmp (pc_le (pv 3) (pe_glob (v := .int 8192) rfl T.gMOST_HEX ⟨_, rfl⟩)))))) (pa_cons (pv 1) pa_nil))))
    (pss_cons (ps_expr (pe_own (C_need T) (hr.mono (by decide)) rfl (passes_call (takes_of rfl rfl rfl rfl) (fun _ _ _ _ h => h)) (pa_cons (pe_cmp (pc_neI (pe_own (C_byte_at T) (hr.mono (by decide)) rfl pass0 (pa_cons (pv 0) (pa_cons (pe_op op_add (pv 2) pe_int) pa_nil))) (pe_glob (v := .int 39) rfl T.gAPOSTROPHE ⟨_, rfl⟩))) (pa_cons (pv 1) pa_nil))))
    (pss_one (ps_ret (pe_tup (pa_cons (pe_make T.mkToken (C_Token_init T) (hr.mono (by decide)) rfl T.gToken T.bToken .nil pass0 (pa_cons (pe_glob (v := .int 4) rfl T.gBYTES ⟨_, rfl⟩) (pa_cons (pv 1) (pa_cons (pe_callTy call_tuple_of (by rfl) T.ntuple (by decide +kernel) (pa_cons (pe_slice sl_list (pv 0) (po_some (pe_op op_add (pv 1) pe_int)) (po_some (pv 2))) pa_nil)) pa_nil)))) (pa_cons (pe_op op_add (pv 2) pe_int) pa_nil))))))))))
    , ?_⟩)
  · obtain ⟨a, b, i, rfl, _⟩ := h
    rfl
  · obtain ⟨a, b, i, rfl, hS, h64, hi, hp, k⟩ := h
    have hi2 : i + 2 ≤ b.length := (List.getElem?_eq_some_iff.mp ((bt_eq 39).mp hp)).1
    refine q_asg (v := .int ((i + 2 : Nat) : Int)) (ev_op (ev_var rfl) ev_c rv_I0) fun H1 e1 => ?_
    refine q_scan hexZ_u (by decide) (fun n => [some (.ref a), some (.int (i : Int)), some (.int n), none]) rfl hi2 (fun _ _ => rfl) (fun _ => rfl)
      (fun n H2 e2 => et_B (ev_p (ev_byte (ev_var rfl) (ex_l e2 (ex_l e1 hS)) (ev_var rfl) rfl))) fun H2 e2 => ?_
    have e12 := e1.trans e2
    have hge : i + 2 ≤ run Dbm.isHex b (i + 2) := run_ge
    have hle : run Dbm.isHex b (i + 2) ≤ b.length := run_le hi2
    unfold mBytes at k
    dsimp only at k
    refine q_asg (ev_op (ev_op (ev_var rfl) (ev_var rfl) rv_I0) ev_c rv_I0) fun H3 e3 => ?_
    have e13 := e12.trans e3
    have hS3 := ex_l e13 hS
    have hnat : ((run Dbm.isHex b (i + 2) : Nat) : Int) - (i : Int) - 2 = ((run Dbm.isHex b (i + 2) - i - 2 : Nat) : Int) := by omega
    have hmod : (((run Dbm.isHex b (i + 2) : Nat) : Int) - (i : Int) - 2).fmod 2 = (((run Dbm.isHex b (i + 2) - i - 2) % 2 : Nat) : Int) := by
      rw [hnat, Int.fmod_eq_emod_of_nonneg _ (by decide)]
      omega
    refine q_need (ev_andV (ev_cmp (ev_byte (n := run Dbm.isHex b (i + 2)) (ev_var rfl) hS3 (ev_var rfl) rfl) ev_c) fun _ => ev_andV (ev_cmp (ev_op (ev_var rfl) ev_c (rv_I (by decide))) ev_c) fun _ => ev_cmp (ev_var rfl) ev_c) (ev_var rfl) (fun hb H4 e4 => ?_) (fun hb => ?_)
    · rw [Bool.and_eq_true, Bool.and_eq_true, decide_eq_true_eq, decide_eq_true_eq, decide_eq_true_eq, hmod, hnat] at hb
      have e14 := e13.trans e4
      have hS4 := ex_l e4 hS3
      refine q_need (ev_cmp (ev_byte (n := run Dbm.isHex b (i + 2) + 1) (ev_var rfl) hS4 (ev_op (ev_var rfl) ev_c rv_I0) rfl) ev_c) (ev_var rfl) (fun hc H5 e5 => ?_) (fun hc => ?_)
      · have hc' : ¬ bt b (run Dbm.isHex b (i + 2) + 1) = 39 := by simpa using hc
        have hS5 := ex_l e5 hS4
        refine s_retTok (ev_tok ev_c (ev_var rfl) (EvU.any (eu_tuple (el_sl (ev_var rfl) (eo_some (ev_op (ev_var rfl) ev_c rv_I0)) (eo_some (ev_var rfl)) hS5)))) (ev_op (ev_var rfl) ev_c rv_I0) fun H' p' t e hp' ht => ?_
        refine k.1 4 (run Dbm.isHex b (i + 2) + 1) ?_ H' p' t ((e14.trans e5).trans e) hp' ht
        rw [if_pos ⟨hb.1, by omega, by omega, hc'⟩]
        rfl
      · have hc' : bt b (run Dbm.isHex b (i + 2) + 1) = 39 := by simpa using hc
        refine (k.2 ?_).mono e14
        rw [if_neg (fun z => z.2.2.2 hc')]
        rfl
    · refine (k.2 ?_).mono e13
      rw [if_neg (fun z => ?_)]
      · rfl
      · rw [hmod, hnat, decide_eq_true z.1, decide_eq_true (show (((run Dbm.isHex b (i + 2) - i - 2) % 2 : Nat) : Int) = 0 by omega), decide_eq_true (show ((run Dbm.isHex b (i + 2) - i - 2 : Nat) : Int) ≤ 8192 by omega)] at hb
        exact absurd hb (by decide)
def C_take_bytes (T : Txt K mg) : Own P w K mg base (L2.CX P w) 4 "take_bytes" ["text", "place"] (spTk K T.aToken T.aNoToken (fun b i => bt b (i + 1) = 39) fun b i => (mBytes b i).map fun j => (4, j)) := T.d_take_bytes.own (ok_take_bytes T)
theorem ok_take_word (T : Txt K mg) : FnOk P w K mg base (L2.CX P w) 4 T.d_take_word.f T.d_take_word.fd ["text", "place"] (spTk K T.aToken T.aNoToken (fun _ _ => True) fun b i => (mWord b i).map fun j => (0, j)) := by
  refine T.d_take_word.fn.okX sc_take_word (fun vs H Q E h => ?_) (fun cdv A outer s H vs Q E hr h => ⟨_,
    (pss_cons (ps_set (i := 2) sc_take_word.nd rfl (Or.inl rfl) (pv 1))
    (pss_cons (ps_while (passes_of rfl) (pt_val (pe_own (C_is_wordly T) (hr.mono (by decide)) rfl pass0 (pa_cons (pe_own (C_byte_at T) (hr.mono (by decide)) rfl pass0 (pa_cons (pv 0) (pa_cons (pv 2) pa_nil))) pa_nil))) (pss_one (ps_set (i := 2) sc_take_word.nd rfl (Or.inl rfl) (pe_op op_add (pv 2) pe_int))))
    (pss_cons (ps_expr (pe_own (C_need T) (hr.mono (by decide)) rfl (passes_call (takes_of rfl rfl rfl rfl) (fun _ _ _ _ h => h)) (pa_cons (pe_cmp (pc_le (pe_op op_sub (pv 2) (pv 1)) (pe_glob (v := .int 64) rfl T.gMOST_WORD ⟨_, rfl⟩))) (pa_cons (pv 1) pa_nil))))
    (pss_one (ps_ret (pe_tup (pa_cons (pe_make T.mkToken (C_Token_init T) (hr.mono (by decide)) rfl T.gToken T.bToken .nil pass0 (pa_cons (pe_glob (v := .int 0) rfl T.gWORD ⟨_, rfl⟩) (pa_cons (pv 1) (pa_cons (pe_callTy call_tuple_of (by rfl) T.ntuple (by decide +kernel) (pa_cons (pe_lc (own := [("one", 3)]) (g := gName 3) (tt := tYes) rfl sc_take_word.nd (pi_list (pe_slice sl_list (pv 0) (po_some (pv 1)) (po_some (pv 2)))) (blkOk_by (N := ["text", "place", "at", "one"]) (sc := defScope s_take_word) (by decide +kernel)) (fun _ _ _ _ _ => pg_name (i := 3) sc_take_word.nd rfl (Or.inl rfl)) (fun _ _ _ _ _ => pts_nil) (fun _ _ _ _ _ => (pe_own (C_small T) (hr.mono (by decide)) rfl pass0 (pa_cons (pv 3) pa_nil)))) pa_nil)) pa_nil)))) (pa_cons (pv 2) pa_nil))))))))
    , ?_⟩)
  · obtain ⟨a, b, i, rfl, _⟩ := h
    rfl
  · obtain ⟨a, b, i, rfl, hS, h64, hi, _, k⟩ := h
    refine q_asg (v := .int (i : Int)) (ev_var rfl) fun H1 e1 => ?_
    refine q_scan worZ_u (by decide) (fun n => [some (.ref a), some (.int (i : Int)), some (.int n), none]) rfl (Nat.le_of_lt hi) (fun _ _ => rfl) (fun _ => rfl)
      (fun n H2 e2 => et_B (ev_p (ev_byte (ev_var rfl) (ex_l e2 (ex_l e1 hS)) (ev_var rfl) rfl))) fun H2 e2 => ?_
    have e12 := e1.trans e2
    have hge : i ≤ run Si22.isWordByte b i := run_ge
    have hle : run Si22.isWordByte b i ≤ b.length := run_le (Nat.le_of_lt hi)
    unfold mWord at k
    dsimp only at k
    refine q_need (ev_cmp (ev_op (ev_var rfl) (ev_var rfl) rv_I0) ev_c) (ev_var rfl) (fun hb H3 e3 => ?_) (fun hb => ?_)
    · have hb' : run Si22.isWordByte b i - i ≤ 64 := by
        have := of_decide_eq_true hb
        omega
      have hS3 := ex_l (e12.trans e3) hS
      have hcut := cut_tx (b := b) (i := i) (j := run Si22.isWordByte b i) (Nat.le_of_lt hi) hle
      refine s_retTok (ev_tok ev_c (ev_var rfl) (EvU.any (eu_tuple (xs := given (cutV (tx b) (some (i : Int)) (some ((run Si22.isWordByte b i : Nat) : Int))).length (fun _ => true) fun n => .int (smZ (bt ((b.drop i).take (run Si22.isWordByte b i - i)) n)))
        (el_lcNL (f := fun _ => true) (v := fun n => .int (smZ (bt ((b.drop i).take (run Si22.isWordByte b i - i)) n))) (el_sl (ev_var rfl) (eo_some (ev_var rfl)) (eo_some (ev_var rfl)) hS3) ?_ (fun _ => rfl) (fun _ _ H4 _ _ => ?_) (fun n x H4 _ hx _ => ?_))))) (ev_var rfl) fun H' p' t e hp' ht => ?_
      · rw [hcut, tx_len, List.length_take]
        omega
      · exact fun H5 _ _ q => q H5 (Ex.refl H5)
      · rw [hcut] at hx
        have : x = .int (bt ((b.drop i).take (run Si22.isWordByte b i - i)) n) := by
          unfold tx at hx
          rw [List.getElem?_map] at hx
          cases ee : ((b.drop i).take (run Si22.isWordByte b i - i))[n]? with
          | none => rw [ee] at hx; cases hx
          | some c =>
            rw [ee] at hx
            rw [bt_some ee]
            exact (Option.some.inj hx).symm
        subst this
        exact ev_call (ea_cons (ev_var rfl) ea_nil) fun H5 e5 Q q E => ⟨_, rfl, q⟩
      · refine k.1 0 (run Si22.isWordByte b i) ?_ H' p' t ((e12.trans e3).trans e) hp' ht
        rw [if_pos hb']
        rfl
    · have hb' : ¬ run Si22.isWordByte b i - i ≤ 64 := by
        have := of_decide_eq_false hb
        omega
      refine (k.2 ?_).mono e12
      rw [if_neg hb']
      rfl
def C_take_word (T : Txt K mg) : Own P w K mg base (L2.CX P w) 4 "take_word" ["text", "place"] (spTk K T.aToken T.aNoToken (fun _ _ => True) fun b i => (mWord b i).map fun j => (0, j)) := T.d_take_word.own (ok_take_word T)
end
end Tk
namespace Tk
open PySem PySem.Spec PyProof.Rows L2 Evl TkM
section
variable {P : Program} {w : World} {K : PySem.W.Frag} {mg : Str → Option Value} {base : Heap}
theorem q_between {C : Addr} {E : XK} {σ : L2.St} {H : Hp} {ta tb : TE} {tz : TS} {D : Ends} {j j' : Nat} {a : Addr} {b : Dbm.Bytes} {i : Nat} {q : UInt8} (ha : Ev ta σ H (.ref a)) (hb : Ev tb σ H (.int (i : Int))) (hS : SqL K H a (tx b)) (h64 : b.length ≤ 65536) (hq : b[i]? = some q)
    (k : ∀ n rest, Si22.between q (b.drop (i + 1)) = some (n, rest) → ∀ H1 l, Ex H H1 → H1 l = some (.lst (tx n)) → tz D ((σ.set j (some (.ref l))).set j' (some (.int ((b.length - rest.length : Nat) : Int)))) H1)
    (k2 : Si22.between q (b.drop (i + 1)) = none → ErrAt C i H E) : tSeq (tAsg (tCall (spBetween K C) [] E (tCons ta (tCons tb tNil))) (gTup K 2 (gCons (gName j) (gCons (gName j') gNil)))) tz D σ H :=
  ha H (Ex.refl H) _ fun H1 e1 => hb H1 e1 _ fun H2 e2 => ⟨a, b, i, q, rfl, ex_l (e1.trans e2) hS, h64, hq, fun n rest hr H' p l e hp hl =>
    ⟨p, _, rfl, st_of hp, rfl, _, _, rfl, _, _, rfl, rfl, k n rest hr H' l ((e1.trans e2).trans e) hl⟩, fun z => (k2 z).mono (e1.trans e2)⟩
theorem between_rest_le {q : UInt8} {b : Dbm.Bytes} {i : Nat} {n rest : Dbm.Bytes} (h : Si22.between q (b.drop (i + 1)) = some (n, rest)) : n.length ≤ b.length := by
  obtain ⟨k, h1, h2, h3, h4⟩ := between_rest q _ _ (Nat.le_refl _) _ h
  rw [List.length_drop] at h2
  dsimp only at h4
  omega
theorem ok_take_quoted (T : Txt K mg) : FnOk P w K mg base (L2.CX P w) 4 T.d_take_quoted.f T.d_take_quoted.fd ["text", "place"] (spTk K T.aToken T.aNoToken (fun b i => bt b i = 34) fun b i => (mQuoted b i).map fun j => (1, j)) := by
  refine T.d_take_quoted.fn.okX sc_take_quoted (fun vs H Q E h => ?_) (fun cdv A outer s H vs Q E hr h => ⟨_,
    (pss_cons (ps_asg (pe_own (C_between T) (hr.mono (by decide)) rfl (passes_call (takes_of rfl rfl rfl rfl) (fun _ _ _ _ h => h)) (pa_cons (pv 0) (pa_cons (pv 1) pa_nil))) (pg_tup rfl (pgs_cons (pg_name (i := 2) sc_take_quoted.nd rfl (Or.inl rfl)) (pgs_cons (pg_name (i := 3) sc_take_quoted.nd rfl (Or.inl rfl)) pgs_nil))))
    (pss_cons (ps_expr (pe_own (C_need T) (hr.mono (by decide)) rfl (passes_call (takes_of rfl rfl rfl rfl) (fun _ _ _ _ h => h)) (pa_cons (pe_and (pe_chain op_le op_le pe_int (pe_callB call_len_seq (by rfl) T.nlen PySem.boot_len (pa_cons (pv 2) pa_nil)) (pe_glob (v := .int 64) rfl T.gMOST_NAME ⟨_, rfl⟩)) (pe_one (pe_own (C_is_well_made T) (hr.mono (by decide)) rfl pass0 (pa_cons (pv 2) (pa_cons pe_int pa_nil))))) (pa_cons (pv 1) pa_nil))))
    (pss_one (ps_ret (pe_tup (pa_cons (pe_make T.mkToken (C_Token_init T) (hr.mono (by decide)) rfl T.gToken T.bToken .nil pass0 (pa_cons (pe_glob (v := .int 1) rfl T.gQUOTED ⟨_, rfl⟩) (pa_cons (pv 1) (pa_cons (pe_callTy call_tuple_of (by rfl) T.ntuple (by decide +kernel) (pa_cons (pv 2) pa_nil)) pa_nil)))) (pa_cons (pv 3) pa_nil)))))))
    , ?_⟩)
  · obtain ⟨a, b, i, rfl, _⟩ := h
    rfl
  · obtain ⟨a, b, i, rfl, hS, h64, hi, hp, k⟩ := h
    unfold mQuoted at k
    dsimp only at k
    refine q_between (q := 34) (ev_var rfl) (ev_var rfl) hS h64 ((bt_eq 34).mp hp) (fun n rest hr H1 l e1 hl => ?_) fun z => k.2 (by rw [z]; rfl)
    rw [hr] at k
    dsimp only at k
    refine q_need (ev_andV (ev_chain ev_c (ev_lenT (ev_var rfl) (sq_of hl)) ev_c rfl rfl) fun _ => ev_made (n := 32) (ev_var rfl) (sq_of hl) ev_c rfl (by decide)) (ev_var rfl) (fun hb H2 e2 => ?_) (fun hb => ?_)
    · rw [Bool.and_eq_true, Bool.and_eq_true, decide_eq_true_eq, decide_eq_true_eq] at hb
      refine s_retTok (ev_tok ev_c (ev_var rfl) (EvU.any (eu_tupleL (ev_var rfl) (sq_of (e2 l _ hl))))) (ev_var rfl) fun H' p' t e hp' ht => ?_
      refine k.1 1 _ ?_ H' p' t ((e1.trans e2).trans e) hp' ht
      rw [if_pos ⟨by omega, by omega, hb.2⟩]
      rfl
    · refine (k.2 ?_).mono e1
      rw [if_neg (fun z => ?_)]
      · rfl
      · rw [decide_eq_true (show (1 : Int) ≤ (n.length : Int) by omega), decide_eq_true (show (n.length : Int) ≤ 64 by omega), z.2.2] at hb
        exact absurd hb (by decide)
def C_take_quoted (T : Txt K mg) : Own P w K mg base (L2.CX P w) 4 "take_quoted" ["text", "place"] (spTk K T.aToken T.aNoToken (fun b i => bt b i = 34) fun b i => (mQuoted b i).map fun j => (1, j)) := T.d_take_quoted.own (ok_take_quoted T)
theorem ok_take_text (T : Txt K mg) : FnOk P w K mg base (L2.CX P w) 4 T.d_take_text.f T.d_take_text.fd ["text", "place"] (spTk K T.aToken T.aNoToken (fun b i => bt b i = 39) fun b i => (mText b i).map fun j => (3, j)) := by
  refine T.d_take_text.fn.okX sc_take_text (fun vs H Q E h => ?_) (fun cdv A outer s H vs Q E hr h => ⟨_,
    (pss_cons (ps_asg (pe_own (C_between T) (hr.mono (by decide)) rfl (passes_call (takes_of rfl rfl rfl rfl) (fun _ _ _ _ h => h)) (pa_cons (pv 0) (pa_cons (pv 1) pa_nil))) (pg_tup rfl (pgs_cons (pg_name (i := 2) sc_take_text.nd rfl (Or.inl rfl)) (pgs_cons (pg_name (i := 3) sc_take_text.nd rfl (Or.inl rfl)) pgs_nil))))
    (pss_cons (ps_expr (pe_own (C_need T) (hr.mono (by decide)) rfl (passes_call (takes_of rfl rfl rfl rfl) (fun _ _ _ _ h => h)) (pa_cons (pe_and (pe_cmp (pc_le (pe_callB call_len_seq (by rfl) T.nlen PySem.boot_len (pa_cons (pv 2) pa_nil)) (pe_glob (v := .int 4096) rfl T.gMOST_TEXT ⟨_, rfl⟩))) (pe_one (pe_own (C_is_well_made T) (hr.mono (by decide)) rfl pass0 (pa_cons (pv 2) (pa_cons pe_int pa_nil))))) (pa_cons (pv 1) pa_nil))))
    (pss_one (ps_ret (pe_tup (pa_cons (pe_make T.mkToken (C_Token_init T) (hr.mono (by decide)) rfl T.gToken T.bToken .nil pass0 (pa_cons (pe_glob (v := .int 3) rfl T.gTEXT ⟨_, rfl⟩) (pa_cons (pv 1) (pa_cons (pe_callTy call_tuple_of (by rfl) T.ntuple (by decide +kernel) (pa_cons (pv 2) pa_nil)) pa_nil)))) (pa_cons (pv 3) pa_nil)))))))
    , ?_⟩)
  · obtain ⟨a, b, i, rfl, _⟩ := h
    rfl
  · obtain ⟨a, b, i, rfl, hS, h64, hi, hp, k⟩ := h
    unfold mText at k
    dsimp only at k
    refine q_between (q := 39) (ev_var rfl) (ev_var rfl) hS h64 ((bt_eq 39).mp hp) (fun n rest hr H1 l e1 hl => ?_) fun z => k.2 (by rw [z]; rfl)
    rw [hr] at k
    dsimp only at k
    refine q_need (ev_andV (ev_cmp (ev_lenT (ev_var rfl) (sq_of hl)) ev_c) fun _ => ev_made (n := 0) (ev_var rfl) (sq_of hl) ev_c rfl (by decide)) (ev_var rfl) (fun hb H2 e2 => ?_) (fun hb => ?_)
    · rw [Bool.and_eq_true, decide_eq_true_eq] at hb
      refine s_retTok (ev_tok ev_c (ev_var rfl) (EvU.any (eu_tupleL (ev_var rfl) (sq_of (e2 l _ hl))))) (ev_var rfl) fun H' p' t e hp' ht => ?_
      refine k.1 3 _ ?_ H' p' t ((e1.trans e2).trans e) hp' ht
      rw [if_pos ⟨by omega, hb.2⟩]
      rfl
    · refine (k.2 ?_).mono e1
      rw [if_neg (fun z => ?_)]
      · rfl
      · rw [decide_eq_true (show (n.length : Int) ≤ 4096 by omega), z.2] at hb
        exact absurd hb (by decide)
def C_take_text (T : Txt K mg) : Own P w K mg base (L2.CX P w) 4 "take_text" ["text", "place"] (spTk K T.aToken T.aNoToken (fun b i => bt b i = 39) fun b i => (mText b i).map fun j => (3, j)) := T.d_take_text.own (ok_take_text T)
/-! ### numbers -/
theorem digits_more {l : Dbm.Bytes} {i : Nat} {c : UInt8} (h : l[i]? = some c) : Si22.digitsOf (l.take (i + 1)) = 10 * Si22.digitsOf (l.take i) + (c.toNat - 48) := by
  unfold Si22.digitsOf
  rw [List.take_add_one, h, List.foldl_append]
  rfl
def spDigits (K : PySem.W.Frag) : Sp := fun vs H Q _ => ∃ (a : Addr) (l : Dbm.Bytes), vs = [.ref a] ∧ SqL K H a (tx l) ∧ l.all Dbm.isDigit = true ∧ ∀ H', Ex H H' → Q (.int (Si22.digitsOf l : Nat)) H'
theorem ok_digits_number (T : Txt K mg) : FnOk P w K mg base CX0 1 T.d_digits_number.f T.d_digits_number.fd ["row"] (spDigits K) := by
  refine T.d_digits_number.fn.ok sc_digits_number (fun vs H Q E h => ?_) (fun cdv A outer s H vs Q E hr h => ⟨_,
    (pss_cons (ps_set (i := 1) sc_digits_number.nd rfl (Or.inl rfl) pe_int)
    (pss_cons (ps_for PassesOwn.never rfl (pi_list (pv 0)) (pg_name (i := 2) sc_digits_number.nd rfl (Or.inl rfl)) (pss_one (ps_set (i := 1) sc_digits_number.nd rfl (Or.inl rfl) (pe_op op_sub (pe_op op_add (pe_op op_mul pe_int (pv 1)) (pv 2)) pe_int))))
    (pss_one (ps_ret (pv 1)))))
    , ?_⟩)
  · obtain ⟨a, l, rfl, _⟩ := h
    rfl
  · obtain ⟨a, l, rfl, hS, hd, q⟩ := h
    refine q_asg (v := .int ((Si22.digitsOf (l.take 0) : Nat) : Int)) ev_c fun H1 e1 => ?_
    refine q_forLn (ev_var rfl) (ex_l e1 hS) (fun i σ' H' => ∃ v : Option V, σ' = [some (.ref a), some (.int ((Si22.digitsOf (l.take i) : Nat) : Int)), v] ∧ Ex H H') (fun H2 e2 => ⟨none, rfl, e1.trans e2⟩)
      (fun i σ' H' _ ⟨v, _, e⟩ => ex_l e hS) (fun i x σ' H' hx ⟨v, hσ, e⟩ => ?_) (fun σ' H' ⟨v, hσ, e⟩ => ?_)
    · subst hσ
      unfold tx at hx
      rw [List.getElem?_map] at hx
      cases ec : l[i]? with
      | none => rw [ec] at hx; cases hx
      | some c =>
        rw [ec] at hx
        obtain rfl : V.int (c.toNat : Int) = x := Option.some.inj hx
        have hc : Dbm.isDigit c = true := List.all_eq_true.mp hd c (List.mem_of_getElem? ec)
        unfold Dbm.isDigit at hc
        rw [Bool.and_eq_true, decide_eq_true_eq] at hc
        refine s_asg (ev_op (ev_op (ev_op ev_c (ev_var rfl) (rv_I (.inl (by decide)))) (ev_var rfl) rv_I0) ev_c rv_I0) fun H2 e2 => ⟨some (.int (c.toNat : Int)), ?_, e.trans e2⟩
        rw [digits_more ec]
        have : (10 : Int) * ((Si22.digitsOf (l.take i) : Nat) : Int) + (c.toNat : Int) - 48 = ((10 * Si22.digitsOf (l.take i) + (c.toNat - 48) : Nat) : Int) := by omega
        rw [this]
        rfl
    · subst hσ
      rw [tx_len, List.take_length]
      exact s_ret (ev_var rfl) fun H2 e2 => q H2 (e.trans e2)
def C_digits_number (T : Txt K mg) : Own P w K mg base CX0 1 "digits_number" ["row"] (spDigits K) := T.d_digits_number.own (ok_digits_number T)
theorem ok_take_given (T : Txt K mg) : FnOk P w K mg base (L2.CX P w) 4 T.d_take_given.f T.d_take_given.fd ["text", "place"] (spTk K T.aToken T.aNoToken (fun _ _ => True) fun b i => (mGiven b i).map fun j => (5, j)) := by
  refine T.d_take_given.fn.okX sc_take_given (fun vs H Q E h => ?_) (fun cdv A outer s H vs Q E hr h => ⟨_,
    (pss_cons (ps_set (i := 2) sc_take_given.nd rfl (Or.inl rfl) (pe_own (C_behind_digits T) (hr.mono (by decide)) rfl pass0 (pa_cons (pv 0) (pa_cons (pe_op op_add (pv 1) pe_int) pa_nil))))
    (pss_cons (ps_set (i := 3) sc_take_given.nd rfl (Or.inl rfl) (pe_slice sl_list (pv 0) (po_some (pe_op op_add (pv 1) pe_int)) (po_some (pv 2))))
    (pss_cons (ps_expr (pe_own (C_need T) (hr.mono (by decide)) rfl (passes_call (takes_of rfl rfl rfl rfl) (fun _ _ _ _ h => h)) (pa_cons (pe_and (pe_chain op_le op_le pe_int (pe_callB call_len_seq (by rfl) T.nlen PySem.boot_len (pa_cons (pv 3) pa_nil)) pe_int) (pe_and (pe_cmp (pc_neI (pe_ix ix_list (pv 3) pe_int (fun _ _ => rfl)) pe_int)) (pe_one (pe_cmp (pc_le (pe_own (C_digits_number T) (hr.mono (by decide)) rfl pass0 (pa_cons (pv 3) pa_nil)) (pe_glob (v := .int 64) rfl T.gMOST_GIVEN ⟨_, rfl⟩)))))) (pa_cons (pv 1) pa_nil))))
    (pss_cons (ps_expr (pe_own (C_need T) (hr.mono (by decide)) rfl (passes_call (takes_of rfl rfl rfl rfl) (fun _ _ _ _ h => h)) (pa_cons (pe_not (pe_own (C_is_wordly T) (hr.mono (by decide)) rfl pass0 (pa_cons (pe_own (C_byte_at T) (hr.mono (by decide)) rfl pass0 (pa_cons (pv 0) (pa_cons (pv 2) pa_nil))) pa_nil))) (pa_cons (pv 1) pa_nil))))
    (pss_one (ps_ret (pe_tup (pa_cons (pe_make T.mkToken (C_Token_init T) (hr.mono (by decide)) rfl T.gToken T.bToken .nil pass0 (pa_cons (pe_glob (v := .int 5) rfl T.gGIVEN ⟨_, rfl⟩) (pa_cons (pv 1) (pa_cons (pe_callTy call_tuple_of (by rfl) T.ntuple (by decide +kernel) (pa_cons (pv 3) pa_nil)) pa_nil)))) (pa_cons (pv 2) pa_nil)))))))))
    , ?_⟩)
  · obtain ⟨a, b, i, rfl, _⟩ := h
    rfl
  · obtain ⟨a, b, i, rfl, hS, h64, hi, _, k⟩ := h
    unfold mGiven at k
    dsimp only at k
    have hge : i + 1 ≤ run Dbm.isDigit b (i + 1) := run_ge
    have hle : run Dbm.isDigit b (i + 1) ≤ b.length := run_le hi
    refine q_asg (ev_behind (n := i + 1) (ev_var rfl) hS (ev_op (ev_var rfl) ev_c rv_I0) rfl hi) fun H1 e1 => ?_
    have hcut := cut_tx (b := b) (i := i + 1) (j := run Dbm.isDigit b (i + 1)) hi hle
    refine q_asgL (el_sl (lo := some ((i + 1 : Nat) : Int)) (hi := some ((run Dbm.isDigit b (i + 1) : Nat) : Int)) (ev_var rfl) (eo_some (ev_op (ev_var rfl) ev_c rv_I0)) (eo_some (ev_var rfl)) (ex_l e1 hS)) fun l H2 hl e2 h2 => ?_
    rw [hcut] at h2
    have e12 := e1.trans e2
    generalize hrow : (b.drop (i + 1)).take (run Dbm.isDigit b (i + 1) - (i + 1)) = row at k h2
    have hdig : row.all Dbm.isDigit = true := by
      have : run Dbm.isDigit b (i + 1) - (i + 1) = ((b.drop (i + 1)).takeWhile Dbm.isDigit).length := by unfold TkM.run; omega
      rw [← hrow, this, ← takeWhile_take]
      exact all_takeWhile _ _
    refine q_need (ev_andV (ev_chain ev_c (ev_lenT (ev_var rfl) (sq_of h2)) ev_c rfl rfl) fun h => ev_andV (ev_cmp (ev_item (n := 0) (ev_var rfl) (sq_of h2) ev_c rfl ?_) ev_c) fun _ => ev_cmp (ev_call (z := .int ((Si22.digitsOf row : Nat) : Int)) (ea_cons (ev_var rfl) ea_nil) fun H3 e3 Q q E => ⟨l, row, rfl, sq_of (e3 l _ h2), hdig, q⟩) ev_c) (ev_var rfl) (fun hb H3 e3 => ?_) (fun hb => ?_)
    · rw [Bool.and_eq_true, decide_eq_true_eq] at h
      omega
    · rw [Bool.and_eq_true, Bool.and_eq_true, Bool.and_eq_true, decide_eq_true_eq, decide_eq_true_eq, decide_eq_true_eq] at hb
      have h48 : ¬ bt row 0 = 48 := by simpa using hb.2.1
      refine q_need (ev_notV (ev_p (ev_byte (n := run Dbm.isDigit b (i + 1)) (ev_var rfl) (ex_l (e12.trans e3) hS) (ev_var rfl) rfl))) (ev_var rfl) (fun hc H4 e4 => ?_) (fun hc => ?_)
      · have hw : worZ (bt b (run Dbm.isDigit b (i + 1))) = false := by simpa using hc
        refine s_retTok (ev_tok ev_c (ev_var rfl) (EvU.any (eu_tupleL (ev_var rfl) (sq_of (e4 l _ (e3 l _ h2)))))) (ev_var rfl) fun H' p' t e hp' ht => ?_
        refine k.1 5 _ ?_ H' p' t (((e12.trans e3).trans e4).trans e) hp' ht
        rw [if_pos ⟨⟨by omega, by omega, h48, by omega⟩, hw⟩]
        rfl
      · have hw : worZ (bt b (run Dbm.isDigit b (i + 1))) = true := by simpa using hc
        refine (k.2 ?_).mono (e12.trans e3)
        rw [if_neg (fun z => by rw [hw] at z; exact Bool.noConfusion z.2)]
        rfl
    · refine (k.2 ?_).mono e12
      rw [if_neg (fun z => ?_)]
      · rfl
      · obtain ⟨⟨z1, z2, z3, z4⟩, _⟩ := z
        rw [decide_eq_true (show (1 : Int) ≤ (row.length : Int) by omega), decide_eq_true (show (row.length : Int) ≤ 2 by omega), decide_eq_true (show ((Si22.digitsOf row : Nat) : Int) ≤ 64 by omega), decide_eq_false z3] at hb
        exact absurd hb (by decide)
def C_take_given (T : Txt K mg) : Own P w K mg base (L2.CX P w) 4 "take_given" ["text", "place"] (spTk K T.aToken T.aNoToken (fun _ _ => True) fun b i => (mGiven b i).map fun j => (5, j)) := T.d_take_given.own (ok_take_given T)
theorem in2 (x p q : Int) : inV (.int x) [.int p, .int q] = (decide (x = p) || decide (x = q)) := by
  show (p == x || (q == x || false)) = _
  rw [Bool.or_false, Bool.beq_eq_decide_eq, Bool.beq_eq_decide_eq]
  congr 1 <;> exact decide_eq_decide.mpr ⟨fun h => h.symm, fun h => h.symm⟩
def spExp (K : PySem.W.Frag) : Sp := fun vs H Q _ => ∃ (a : Addr) (b : Dbm.Bytes) (i : Nat), vs = [.ref a, .int (i : Int)] ∧ SqL K H a (tx b) ∧ ∀ H', Ex H H' → Q (.int (mExp b i : Nat)) H'
theorem ok_behind_exponent (T : Txt K mg) : FnOk P w K mg base CX0 3 T.d_behind_exponent.f T.d_behind_exponent.fd ["text", "at"] (spExp K) := by
  refine T.d_behind_exponent.fn.ok sc_behind_exponent (fun vs H Q E h => ?_) (fun cdv A outer s H vs Q E hr h => ⟨_,
    (pss_cons (ps_if (pt_cmpR op_notIn_seq (pe_own (C_byte_at T) (hr.mono (by decide)) rfl pass0 (pa_cons (pv 0) (pa_cons (pv 1) pa_nil))) (pe_tup (pa_cons pe_int (pa_cons pe_int pa_nil))) (by with_unfolding_all rfl))
    (pss_one (ps_ret (pv 1))) pss_nil)
    (pss_cons (ps_set (i := 2) sc_behind_exponent.nd rfl (Or.inl rfl) (pe_op op_add (pv 1) pe_int))
    (pss_cons (ps_if (pt_cmpR op_in_seq (pe_own (C_byte_at T) (hr.mono (by decide)) rfl pass0 (pa_cons (pv 0) (pa_cons (pv 2) pa_nil))) (pe_tup (pa_cons pe_int (pa_cons (pe_glob (v := .int 45) rfl T.gMINUS ⟨_, rfl⟩) pa_nil))) (by with_unfolding_all rfl))
    (pss_one (ps_set (i := 2) sc_behind_exponent.nd rfl (Or.inl rfl) (pe_op op_add (pv 2) pe_int))) pss_nil)
    (pss_one (ps_ret (pe_ifExp (pt_val (pe_own (C_is_digit T) (hr.mono (by decide)) rfl pass0 (pa_cons (pe_own (C_byte_at T) (hr.mono (by decide)) rfl pass0 (pa_cons (pv 0) (pa_cons (pv 2) pa_nil))) pa_nil))) (pe_own (C_behind_digits T) (hr.mono (by decide)) rfl pass0 (pa_cons (pv 0) (pa_cons (pv 2) pa_nil))) (pv 1)))))))
    , ?_⟩)
  · obtain ⟨a, b, i, rfl, _⟩ := h
    rfl
  · obtain ⟨a, b, i, rfl, hS, q⟩ := h
    unfold mExp at q
    refine q_when (et_test (ev_niU (ev_byte (n := i) (ev_var rfl) hS (ev_var rfl) rfl) (eu_tup (ea_cons ev_c (ea_cons ev_c ea_nil)) (by show 2 ≤ 100000; decide)) rfl rfl)) (fun c H1 e1 => ?_) (fun c H1 e1 => ?_)
    · rw [in2] at c
      have c' : ¬ (bt b i = 69 ∨ bt b i = 101) := by simpa using c
      rw [if_pos c'] at q
      exact s_ret (ev_var rfl) fun H2 e2 => q H2 (e1.trans e2)
    rw [in2] at c
    have c' : bt b i = 69 ∨ bt b i = 101 := by
      rw [Bool.not_eq_false', Bool.or_eq_true, decide_eq_true_eq, decide_eq_true_eq] at c
      exact c
    rw [if_neg (fun z => z c')] at q
    dsimp only at q
    refine q_asg (v := .int ((i + 1 : Nat) : Int)) (ev_op (ev_var rfl) ev_c rv_I0) fun H2 e2 => ?_
    have e12 := e1.trans e2
    have hS2 := ex_l e12 hS
    generalize hg : (if bt b (i + 1) = 43 ∨ bt b (i + 1) = 45 then i + 1 + 1 else i + 1) = g at q
    refine q_ifAsg (v := .int (g : Int)) (et_test (ev_inU (ev_byte (n := i + 1) (ev_var rfl) hS2 (ev_var rfl) rfl) (eu_tup (ea_cons ev_c (ea_cons ev_c ea_nil)) (by show 2 ≤ 100000; decide)) rfl rfl)) (fun d => ?_) (fun d => ?_) fun H3 e3 => ?_
    · rw [in2, Bool.or_eq_true, decide_eq_true_eq, decide_eq_true_eq] at d
      rw [if_pos d] at hg
      exact ev_is (ev_op (ev_var rfl) ev_c rv_I0) (by rw [← hg]; rfl)
    · rw [in2] at d
      have d' : ¬ (bt b (i + 1) = 43 ∨ bt b (i + 1) = 45) := by simpa using d
      rw [if_neg d'] at hg
      rw [← hg]
      rfl
    have hS3 := ex_l e3 hS2
    refine s_ret (v := .int ((if digZ (bt b g) = true then run Dbm.isDigit b g else i : Nat) : Int)) (ev_if (et_B (ev_p (ev_byte (n := g) (ev_var rfl) hS3 (ev_var rfl) rfl))) (fun d => ?_) (fun d => ?_)) fun H4 e4 => q H4 ((e12.trans e3).trans e4)
    · rw [if_pos d]
      have hl : g ≤ b.length := by
        cases ec : b[g]? with
        | none => rw [bt_none ec] at d; exact absurd d (by decide)
        | some c => exact Nat.le_of_lt (List.getElem?_eq_some_iff.mp ec).1
      exact ev_behind (n := g) (ev_var rfl) hS3 (ev_var rfl) rfl hl
    · rw [if_neg (by rw [d]; exact Bool.false_ne_true)]
      exact ev_var rfl
def C_behind_exponent (T : Txt K mg) : Own P w K mg base CX0 3 "behind_exponent" ["text", "at"] (spExp K) := T.d_behind_exponent.own (ok_behind_exponent T)
theorem ok_take_number (T : Txt K mg) : FnOk P w K mg base (L2.CX P w) 4 T.d_take_number.f T.d_take_number.fd ["text", "place"] (spTk K T.aToken T.aNoToken (fun _ _ => True) fun b i => (mNumber b i).map fun j => (2, j)) := by
  refine T.d_take_number.fn.okX sc_take_number (fun vs H Q E h => ?_) (fun cdv A outer s H vs Q E hr h => ⟨_,
    (pss_cons (ps_set (i := 2) sc_take_number.nd rfl (Or.inl rfl) (pe_own (C_behind_digits T) (hr.mono (by decide)) rfl pass0 (pa_cons (pv 0) (pa_cons (pv 1) pa_nil))))
    (pss_cons (ps_if (PW.pt (pw_and (pt_cmp (pc_eqI (pe_own (C_byte_at T) (hr.mono (by decide)) rfl pass0 (pa_cons (pv 0) (pa_cons (pv 2) pa_nil))) (pe_glob (v := .int 46) rfl T.gPOINT ⟨_, rfl⟩))) (pw_and1 (pt_val (pe_own (C_is_digit T) (hr.mono (by decide)) rfl pass0 (pa_cons (pe_own (C_byte_at T) (hr.mono (by decide)) rfl pass0 (pa_cons (pv 0) (pa_cons (pe_op op_add (pv 2) pe_int) pa_nil))) pa_nil))))))
    (pss_one (ps_set (i := 2) sc_take_number.nd rfl (Or.inl rfl) (pe_own (C_behind_digits T) (hr.mono (by decide)) rfl pass0 (pa_cons (pv 0) (pa_cons (pe_op op_add (pv 2) pe_int) pa_nil))))) pss_nil)
    (pss_cons (ps_set (i := 2) sc_take_number.nd rfl (Or.inl rfl) (pe_own (C_behind_exponent T) (hr.mono (by decide)) rfl pass0 (pa_cons (pv 0) (pa_cons (pv 2) pa_nil))))
    (pss_cons (ps_expr (pe_own (C_need T) (hr.mono (by decide)) rfl (passes_call (takes_of rfl rfl rfl rfl) (fun _ _ _ _ h => h)) (pa_cons (pe_not (pe_own (C_is_wordly T) (hr.mono (by decide)) rfl pass0 (pa_cons (pe_own (C_byte_at T) (hr.mono (by decide)) rfl pass0 (pa_cons (pv 0) (pa_cons (pv 2) pa_nil))) pa_nil))) (pa_cons (pv 1) pa_nil))))
    (pss_one (ps_ret (pe_tup (pa_cons (pe_make T.mkToken (C_Token_init T) (hr.mono (by decide)) rfl T.gToken T.bToken .nil pass0 (pa_cons (pe_glob (v := .int 2) rfl T.gNUMBER ⟨_, rfl⟩) (pa_cons (pv 1) (pa_cons (pe_callTy call_tuple_of (by rfl) T.ntuple (by decide +kernel) (pa_cons (pe_slice sl_list (pv 0) (po_some (pv 1)) (po_some (pv 2))) pa_nil)) pa_nil)))) (pa_cons (pv 2) pa_nil)))))))))
    , ?_⟩)
  · obtain ⟨a, b, i, rfl, _⟩ := h
    rfl
  · obtain ⟨a, b, i, rfl, hS, h64, hi, _, k⟩ := h
    unfold mNumber at k
    dsimp only at k
    refine q_asg (ev_behind (n := i) (ev_var rfl) hS (ev_var rfl) rfl (Nat.le_of_lt hi)) fun H1 e1 => ?_
    generalize hr1 : run Dbm.isDigit b i = r1 at k
    have hS1 := ex_l e1 hS
    refine q_ifAsg (v := .int ((mPoint b r1 : Nat) : Int)) (et_and (et_B (ev_cmp (ev_byte (n := r1) (ev_var rfl) hS1 (ev_var rfl) rfl) ev_c)) fun _ => et_B (ev_p (ev_byte (n := r1 + 1) (ev_var rfl) hS1 (ev_op (ev_var rfl) ev_c rv_I0) rfl))) (fun d => ?_) (fun d => ?_) fun H2 e2 => ?_
    · rw [Bool.and_eq_true, decide_eq_true_eq] at d
      unfold mPoint
      rw [if_pos d]
      have hl := (List.getElem?_eq_some_iff.mp ((bt_eq 46).mp d.1)).1
      exact ev_behind (n := r1 + 1) (ev_var rfl) hS1 (ev_op (ev_var rfl) ev_c rv_I0) rfl hl
    · have d' : ¬ (bt b r1 = 46 ∧ digZ (bt b (r1 + 1)) = true) := by simpa using d
      unfold mPoint
      rw [if_neg d']
      rfl
    have e12 := e1.trans e2
    have hS2 := ex_l e12 hS
    refine q_asg (v := .int ((mExp b (mPoint b r1) : Nat) : Int)) (ev_call (ea_cons (ev_var rfl) (ea_cons (ev_var rfl) ea_nil)) fun H3 e3 Q q E => ⟨a, b, mPoint b r1, rfl, ex_l e3 hS2, q⟩) fun H3 e3 => ?_
    have e13 := e12.trans e3
    have hS3 := ex_l e13 hS
    refine q_need (ev_notV (ev_p (ev_byte (n := mExp b (mPoint b r1)) (ev_var rfl) hS3 (ev_var rfl) rfl))) (ev_var rfl) (fun hc H4 e4 => ?_) (fun hc => ?_)
    · have hw : worZ (bt b (mExp b (mPoint b r1))) = false := by simpa using hc
      refine s_retTok (ev_tok ev_c (ev_var rfl) (EvU.any (eu_tuple (el_sl (ev_var rfl) (eo_some (ev_var rfl)) (eo_some (ev_var rfl)) (ex_l e4 hS3))))) (ev_var rfl) fun H' p' t e hp' ht => ?_
      refine k.1 2 _ ?_ H' p' t ((e13.trans e4).trans e) hp' ht
      rw [if_pos hw]
      rfl
    · have hw : worZ (bt b (mExp b (mPoint b r1))) = true := by simpa using hc
      refine (k.2 ?_).mono e13
      rw [if_neg (by rw [hw]; decide)]
      rfl
def C_take_number (T : Txt K mg) : Own P w K mg base (L2.CX P w) 4 "take_number" ["text", "place"] (spTk K T.aToken T.aNoToken (fun _ _ => True) fun b i => (mNumber b i).map fun j => (2, j)) := T.d_take_number.own (ok_take_number T)
/-! ### a remark -/
def notEnd (x : Int) : Bool := decide (0 ≤ x) && !decide (x = 10)
theorem notEnd_u (c : UInt8) : notEnd (c.toNat : Int) = (c != 10) := by
  unfold notEnd
  rw [decide_eq_true (by omega : (0 : Int) ≤ (c.toNat : Int)), Bool.true_and, bne, Bool.beq_eq_decide_eq]
  congr 1
  refine decide_eq_decide.mpr ?_
  rw [u8_eq]
  show ((c.toNat : Int) = 10) ↔ c.toNat = 10
  omega
def spRemark (K : PySem.W.Frag) : Sp := fun vs H Q _ => ∃ (a : Addr) (b : Dbm.Bytes) (i : Nat), vs = [.ref a, .int (i : Int)] ∧ SqL K H a (tx b) ∧ i ≤ b.length ∧ ∀ H', Ex H H' → Q (.int (run (fun x => x != 10) b i : Nat)) H'
theorem ok_behind_remark (T : Txt K mg) : FnOk P w K mg base CX0 1 T.d_behind_remark.f T.d_behind_remark.fd ["text", "place"] (spRemark K) := by
  refine T.d_behind_remark.fn.ok sc_behind_remark (fun vs H Q E h => ?_) (fun cdv A outer s H vs Q E hr h => ⟨_,
    (pss_cons (ps_set (i := 2) sc_behind_remark.nd rfl (Or.inl rfl) (pv 1))
    (pss_cons (ps_while PassesOwn.never (PW.pt (pw_and (pt_cmp (pc_lt (pv 2) (pe_callB call_len_seq (by rfl) T.nlen PySem.boot_len (pa_cons (pv 0) pa_nil)))) (pw_and1 (pt_cmp (pc_neI (pe_ix ix_list (pv 0) (pv 2) (fun _ _ => rfl)) (pe_glob (v := .int 10) rfl T.gLINE_END ⟨_, rfl⟩)))))) (pss_one (ps_set (i := 2) sc_behind_remark.nd rfl (Or.inl rfl) (pe_op op_add (pv 2) pe_int))))
    (pss_one (ps_ret (pv 2)))))
    , ?_⟩)
  · obtain ⟨a, b, i, rfl, _⟩ := h
    rfl
  · obtain ⟨a, b, i, rfl, hS, hl, q⟩ := h
    refine q_asg (v := .int (i : Int)) (ev_var rfl) fun H1 e1 => ?_
    refine q_scan notEnd_u (by decide) (fun n => [some (.ref a), some (.int (i : Int)), some (.int n)]) rfl hl (fun _ _ => rfl) (fun _ => rfl) (fun n H2 e2 => ?_) fun H2 e2 => s_ret (ev_var rfl) fun H3 e3 => q H3 ((e1.trans e2).trans e3)
    have hS2 := ex_l (e1.trans e2) hS
    by_cases hn : n < b.length
    · refine et_is (et_and (et_B (ev_cmp (ev_var rfl) (ev_lenT (ev_var rfl) hS2))) fun _ => et_B (ev_cmp (ev_item (n := n) (ev_var rfl) hS2 (ev_var rfl) rfl hn) ev_c)) ?_
      have ec : b[n]? = some b[n] := List.getElem?_eq_getElem hn
      rw [bt_some ec]
      unfold notEnd
      rw [decide_eq_true (Int.ofNat_lt.mpr hn), decide_eq_true (by omega : (0 : Int) ≤ (b[n].toNat : Int))]
    · refine et_is (et_and (b := true) (et_B (ev_cmp (ev_var rfl) (ev_lenT (ev_var rfl) hS2))) fun h => absurd (Int.ofNat_lt.mp (of_decide_eq_true h)) hn) ?_
      rw [bt_none (List.getElem?_eq_none (by omega)), decide_eq_false (fun z => hn (Int.ofNat_lt.mp z))]
      rfl
def C_behind_remark (T : Txt K mg) : Own P w K mg base CX0 1 "behind_remark" ["text", "place"] (spRemark K) := T.d_behind_remark.own (ok_behind_remark T)
end
end Tk
namespace Tk
open PySem PySem.Spec PyProof.Rows L2 Evl TkM
section
variable {P : Program} {w : World} {K : PySem.W.Frag} {mg : Str → Option Value} {base : Heap}
theorem Ev.any {σ : L2.St} {H : Hp} {te : TE} {v : V} (h : Ev te σ H v) : EvP te σ H fun _ _ => True := fun H1 e Q q => h H1 e Q fun H2 e2 => q _ _ e2 trivial
theorem cut_two {b : Dbm.Bytes} {i : Nat} (hi : i ≤ b.length) : cutV (tx b) (some (i : Int)) (some ((i + 2 : Nat) : Int)) = tx ((b.drop i).take 2) := by
  unfold cutV
  rw [HT.sIx_nat, HT.sIx_nat, tx_len, Nat.min_eq_left hi]
  have : ∀ l : Dbm.Bytes, l.length = b.length - i → l.take (min (i + 2) b.length - i) = l.take 2 := fun l hl => by
    by_cases h : i + 2 ≤ b.length
    · rw [Nat.min_eq_left h, show i + 2 - i = 2 by omega]
    · rw [List.take_of_length_le (by omega), List.take_of_length_le (by omega)]
  rw [← this (b.drop i) (List.length_drop ..)]
  unfold tx
  rw [List.map_take, List.map_drop]
def dInts (l : Dbm.Bytes) : List PyData := l.map fun c => PyData.int (c.toNat : Int)
theorem dp_ints {H : Hp} : ∀ l : Dbm.Bytes, DpAll K H (tx l) (dInts l)
  | [] => .nil
  | c :: r => .cons (.int _) (dp_ints r)
theorem shaped_ints : ∀ l : Dbm.Bytes, SeqAt.shaped (.tuple (dInts ((l.take 2)))) = true
  | [] => rfl
  | [_] => rfl
  | _ :: _ :: _ => rfl
def dDouble : List PyData := [.tuple [.int 60, .int 62], .tuple [.int 60, .int 61], .tuple [.int 62, .int 61], .tuple [.int 124, .int 124]]
theorem eqv2 (x y c d : Int) : PyData.eqv (.tuple [.int x, .int y]) (.tuple [.int c, .int d]) = (decide (c = x) && decide (d = y)) := by
  show (x == c && (y == d && true)) = _
  rw [Bool.and_true, Bool.beq_eq_decide_eq, Bool.beq_eq_decide_eq]
  congr 1 <;> exact decide_eq_decide.mpr ⟨fun h => h.symm, fun h => h.symm⟩
theorem eqv1 (x y c : Int) : PyData.eqv (.tuple [.int x, .int y]) (.tuple [.int c]) = false := by
  show (x == c && false) = false
  rw [Bool.and_false]
theorem dbl_any (b : Dbm.Bytes) (i : Nat) (hi : i < b.length) : (dDouble.any fun z => PyData.eqv z (.tuple (dInts ((b.drop i).take 2)))) = two (bt b i) (bt b (i + 1)) := by
  have ec : b[i]? = some b[i] := List.getElem?_eq_getElem hi
  rw [drop_some ec, bt_some ec]
  cases ed : b[i + 1]? with
  | none =>
    rw [drop_none ed, bt_none ed]
    show ([_, _, _, _] : List PyData).any _ = _
    simp only [List.any_cons, List.any_nil, Bool.or_false]
    show (PyData.eqv _ (.tuple [.int _]) || (PyData.eqv _ (.tuple [.int _]) || (PyData.eqv _ (.tuple [.int _]) || PyData.eqv _ (.tuple [.int _])))) = _
    rw [eqv1, eqv1, eqv1, eqv1]
    unfold two
    simp
  | some d =>
    rw [drop_some ed, bt_some ed]
    show ([_, _, _, _] : List PyData).any _ = _
    simp only [List.any_cons, List.any_nil, Bool.or_false]
    show (PyData.eqv _ (.tuple [.int _, .int _]) || (PyData.eqv _ (.tuple [.int _, .int _]) || (PyData.eqv _ (.tuple [.int _, .int _]) || PyData.eqv _ (.tuple [.int _, .int _])))) = _
    rw [eqv2, eqv2, eqv2, eqv2]
    unfold two
    simp only [Bool.or_assoc]
theorem in_ints (x : Int) : ∀ l : List Int, inV (.int x) (l.map V.int) = l.contains x
  | [] => rfl
  | y :: r => by
    have ih := in_ints x r
    unfold inV at ih ⊢
    rw [List.map_cons, List.any_cons, ih, List.contains_cons]
    congr 1
    show (y == x) = (x == y)
    rw [Bool.beq_eq_decide_eq, Bool.beq_eq_decide_eq]
    exact decide_eq_decide.mpr ⟨fun h => h.symm, fun h => h.symm⟩
theorem TkRes.mono {CT CN : Addr} {m : Option (Nat × Nat)} {i : Nat} {H H' : Hp} {Q : VK} {E : XK} (e : Ex H H') (h : TkRes CT CN m i H Q E) : TkRes CT CN m i H' Q E :=
  ⟨fun k j hm H2 p t e2 => h.1 k j hm H2 p t (e.trans e2), fun hm => (h.2 hm).mono e⟩
theorem ok_take_sign (T : Txt K mg) : FnOk P w K mg base (L2.CX P w) 4 T.d_take_sign.f T.d_take_sign.fd ["text", "place"] (spTk K T.aToken T.aNoToken (fun _ _ => True) fun b i => (mSign b i).map fun j => (6, j)) := by
  refine T.d_take_sign.fn.okX sc_take_sign (fun vs H Q E h => ?_) (fun cdv A outer s H vs Q E hr h => ⟨_,
    (pss_cons (ps_set (i := 2) sc_take_sign.nd rfl (Or.inl rfl) (pe_callTy call_tuple_of (by rfl) T.ntuple (by decide +kernel) (pa_cons (pe_slice sl_list (pv 0) (po_some (pv 1)) (po_some (pe_op op_add (pv 1) pe_int))) pa_nil)))
    (pss_cons (ps_if (pt_cmpR (op_inT (units65 hr)) (pv 2) (pe_glob (v := .ref T.aDOUBLE) rfl T.gDOUBLE rfl) (by with_unfolding_all rfl))
    (pss_one (ps_ret (pe_tup (pa_cons (pe_make T.mkToken (C_Token_init T) (hr.mono (by decide)) rfl T.gToken T.bToken .nil pass0 (pa_cons (pe_glob (v := .int 6) rfl T.gSIGN ⟨_, rfl⟩) (pa_cons (pv 1) (pa_cons (pv 2) pa_nil)))) (pa_cons (pe_op op_add (pv 1) pe_int) pa_nil))))) pss_nil)
    (pss_cons (ps_expr (pe_own (C_need T) (hr.mono (by decide)) rfl (passes_call (takes_of rfl rfl rfl rfl) (fun _ _ _ _ h => h)) (pa_cons (pe_cmpR op_in_seq (pe_ix ix_list (pv 0) (pv 1) (fun _ _ => rfl)) (pe_glob (v := .ref T.aSINGLE) rfl T.gSINGLE rfl) (by with_unfolding_all rfl)) (pa_cons (pv 1) pa_nil))))
    (pss_one (ps_ret (pe_tup (pa_cons (pe_make T.mkToken (C_Token_init T) (hr.mono (by decide)) rfl T.gToken T.bToken .nil pass0 (pa_cons (pe_glob (v := .int 6) rfl T.gSIGN ⟨_, rfl⟩) (pa_cons (pv 1) (pa_cons (pe_slice sl_tupA (pv 2) po_none (po_some pe_int)) pa_nil)))) (pa_cons (pe_op op_add (pv 1) pe_int) pa_nil))))))))
    , ?_⟩)
  · obtain ⟨a, b, i, rfl, _⟩ := h
    rfl
  · obtain ⟨a, b, i, rfl, hS, h64, hi, _, k⟩ := h
    unfold mSign at k
    dsimp only at k
    have hcut := cut_two (b := b) (i := i) (Nat.le_of_lt hi)
    refine q_asgU (eu_tuple (el_sl (lo := some (i : Int)) (hi := some ((i + 2 : Nat) : Int)) (ev_var rfl) (eo_some (ev_var rfl)) (eo_some (ev_op (ev_var rfl) ev_c rv_I0)) hS)) fun p H1 hp e1 h1 => ?_
    rw [hcut] at h1
    refine q_when (b := two (bt b i) (bt b (i + 1))) (et_test (ev_op (ev_var rfl) ev_c (rv_val fun H2 e2 Q q => ⟨.tuple (dInts ((b.drop i).take 2)), dDouble, .tup (st_of (e2 p _ h1)) (dp_ints _),
      .tup (T.sDOUBLE H2) (.cons (.tup (T.sDOUBLE_0 H2) (.cons (.int _) (.cons (.int _) .nil))) (.cons (.tup (T.sDOUBLE_1 H2) (.cons (.int _) (.cons (.int _) .nil))) (.cons (.tup (T.sDOUBLE_2 H2) (.cons (.int _) (.cons (.int _) .nil))) (.cons (.tup (T.sDOUBLE_3 H2) (.cons (.int _) (.cons (.int _) .nil))) .nil)))),
      shaped_ints _, rfl, by rw [dbl_any b i hi]; exact q⟩))) (fun c H2 e2 => ?_) (fun c H2 e2 => ?_)
    · rw [if_pos c] at k
      refine s_retTok (ev_tok ev_c (ev_var rfl) (Ev.any (ev_var (v := .ref p) rfl))) (ev_op (ev_var rfl) ev_c rv_I0) fun H' p' t e hp' ht => ?_
      exact k.1 6 (i + 2) rfl H' p' t ((e1.trans e2).trans e) hp' ht
    rw [if_neg (by rw [c]; exact Bool.false_ne_true)] at k
    have e12 := e1.trans e2
    refine q_need (h := one (bt b i)) (ev_is (ev_op (ev_item (ev_var rfl) (ex_l e12 hS) (ev_var rfl) rfl hi) ev_c (rv_isT (T.sSINGLE _) rfl rfl)) (congrArg V.bl (in_ints (bt b i) [40, 41, 44, 46, 42, 43, 45, 47, 37, 61, 60, 62]))) (ev_var rfl) (fun hb H3 e3 => ?_) (fun hb => ?_)
    · rw [if_pos hb] at k
      have h3 := e3 p _ (e2 p _ h1)
      refine s_retTok (ev_tok ev_c (ev_var rfl) (R := fun _ _ => True) fun H4 e4 Q q => ⟨_, rfl, 1, rfl, p, _, rfl, st_of (e4 p _ h3), fun _ => q _ _ (Ex.refl _) trivial, fun _ p2 hp2 => q _ _ (Ex.new hp2) trivial⟩) (ev_op (ev_var rfl) ev_c rv_I0) fun H' p' t e hp' ht => ?_
      exact k.1 6 (i + 1) rfl H' p' t ((e12.trans e3).trans e) hp' ht
    · rw [if_neg (by rw [hb]; exact Bool.false_ne_true)] at k
      exact (k.2 rfl).mono e12
def C_take_sign (T : Txt K mg) : Own P w K mg base (L2.CX P w) 4 "take_sign" ["text", "place"] (spTk K T.aToken T.aNoToken (fun _ _ => True) fun b i => (mSign b i).map fun j => (6, j)) := T.d_take_sign.own (ok_take_sign T)
theorem s_retTk {CT CN : Addr} {E : XK} {pre : Dbm.Bytes → Nat → Prop} {m : Dbm.Bytes → Nat → Option (Nat × Nat)} {σ : L2.St} {H : Hp} {ta tb : TE} {D : Ends} {a : Addr} {b : Dbm.Bytes} {i : Nat} (ha : Ev ta σ H (.ref a)) (hb : Ev tb σ H (.int (i : Int)))
    (hS : SqL K H a (tx b)) (h64 : b.length ≤ 65536) (hi : i < b.length) (hp : pre b i) (k : TkRes CT CN (m b i) i H D.rt E) : tRet (tCall (spTk K CT CN pre m) [] E (tCons ta (tCons tb tNil))) D σ H :=
  ha H (Ex.refl H) _ fun H1 e1 => hb H1 e1 _ fun H2 e2 => ⟨a, b, i, rfl, ex_l (e1.trans e2) hS, h64, hi, hp, k.mono (e1.trans e2)⟩
theorem s_retTkIf {CT CN : Addr} {E : XK} {pre pre' : Dbm.Bytes → Nat → Prop} {m m' : Dbm.Bytes → Nat → Option (Nat × Nat)} {σ : L2.St} {H : Hp} {tc : TT} {ta tb ta' tb' : TE} {D : Ends} {a : Addr} {b : Dbm.Bytes} {i : Nat} {c : Bool} (hc : EvT tc σ H c)
    (ha : Ev ta σ H (.ref a)) (hb : Ev tb σ H (.int (i : Int))) (ha' : Ev ta' σ H (.ref a)) (hb' : Ev tb' σ H (.int (i : Int)))
    (hS : SqL K H a (tx b)) (h64 : b.length ≤ 65536) (hi : i < b.length) (hp : c = true → pre b i) (hp' : c = false → pre' b i) (k : c = true → TkRes CT CN (m b i) i H D.rt E) (k' : c = false → TkRes CT CN (m' b i) i H D.rt E) :
    tRet (tIf tc (tCall (spTk K CT CN pre m) [] E (tCons ta (tCons tb tNil))) (tCall (spTk K CT CN pre' m') [] E (tCons ta' (tCons tb' tNil)))) D σ H :=
  hc H (Ex.refl H) _ fun H1 e1 => by
    cases c with
    | true => exact iteT (s_retTk (D := D) (ha.mono e1) (hb.mono e1) (ex_l e1 hS) h64 hi (hp rfl) ((k rfl).mono e1))
    | false => exact iteF (s_retTk (D := D) (ha'.mono e1) (hb'.mono e1) (ex_l e1 hS) h64 hi (hp' rfl) ((k' rfl).mono e1))
theorem ok_take_token (T : Txt K mg) : FnOk P w K mg base (L2.CX P w) 5 T.d_take_token.f T.d_take_token.fd ["text", "place"] (spTk K T.aToken T.aNoToken (fun _ _ => True) mTok) := by
  refine T.d_take_token.fn.okX sc_take_token (fun vs H Q E h => ?_) (fun cdv A outer s H vs Q E hr h => ⟨_,
    (pss_cons (ps_set (i := 2) sc_take_token.nd rfl (Or.inl rfl) (pe_ix ix_list (pv 0) (pv 1) (fun _ _ => rfl)))
    (pss_cons (ps_if (PW.pt (pw_and (pt_cmpR op_in_seq (pv 2) (pe_tup (pa_cons pe_int (pa_cons pe_int pa_nil))) (by with_unfolding_all rfl)) (pw_and1 (pt_cmp (pc_eqI (pe_own (C_byte_at T) (hr.mono (by decide)) rfl pass0 (pa_cons (pv 0) (pa_cons (pe_op op_add (pv 1) pe_int) pa_nil))) (pe_glob (v := .int 39) rfl T.gAPOSTROPHE ⟨_, rfl⟩))))))
    (pss_one (ps_ret (pe_own (C_take_bytes T) (hr.mono (by decide)) rfl (passes_call (takes_of rfl rfl rfl rfl) (fun _ _ _ _ h => h)) (pa_cons (pv 0) (pa_cons (pv 1) pa_nil))))) pss_nil)
    (pss_cons (ps_if (pt_val (pe_own (C_is_letter T) (hr.mono (by decide)) rfl pass0 (pa_cons (pv 2) pa_nil)))
    (pss_one (ps_ret (pe_own (C_take_word T) (hr.mono (by decide)) rfl (passes_call (takes_of rfl rfl rfl rfl) (fun _ _ _ _ h => h)) (pa_cons (pv 0) (pa_cons (pv 1) pa_nil))))) pss_nil)
    (pss_cons (ps_if (pt_cmp (pc_eqI (pv 2) (pe_glob (v := .int 34) rfl T.gQUOTES ⟨_, rfl⟩)))
    (pss_one (ps_ret (pe_own (C_take_quoted T) (hr.mono (by decide)) rfl (passes_call (takes_of rfl rfl rfl rfl) (fun _ _ _ _ h => h)) (pa_cons (pv 0) (pa_cons (pv 1) pa_nil))))) pss_nil)
    (pss_cons (ps_if (pt_cmp (pc_eqI (pv 2) (pe_glob (v := .int 39) rfl T.gAPOSTROPHE ⟨_, rfl⟩)))
    (pss_one (ps_ret (pe_own (C_take_text T) (hr.mono (by decide)) rfl (passes_call (takes_of rfl rfl rfl rfl) (fun _ _ _ _ h => h)) (pa_cons (pv 0) (pa_cons (pv 1) pa_nil))))) pss_nil)
    (pss_cons (ps_if (pt_cmp (pc_eqI (pv 2) (pe_glob (v := .int 36) rfl T.gDOLLAR ⟨_, rfl⟩)))
    (pss_one (ps_ret (pe_own (C_take_given T) (hr.mono (by decide)) rfl (passes_call (takes_of rfl rfl rfl rfl) (fun _ _ _ _ h => h)) (pa_cons (pv 0) (pa_cons (pv 1) pa_nil))))) pss_nil)
    (pss_one (ps_ret (pe_ifExp (pt_val (pe_own (C_is_digit T) (hr.mono (by decide)) rfl pass0 (pa_cons (pv 2) pa_nil))) (pe_own (C_take_number T) (hr.mono (by decide)) rfl (passes_call (takes_of rfl rfl rfl rfl) (fun _ _ _ _ h => h)) (pa_cons (pv 0) (pa_cons (pv 1) pa_nil))) (pe_own (C_take_sign T) (hr.mono (by decide)) rfl (passes_call (takes_of rfl rfl rfl rfl) (fun _ _ _ _ h => h)) (pa_cons (pv 0) (pa_cons (pv 1) pa_nil))))))))))))
    , ?_⟩)
  · obtain ⟨a, b, i, rfl, _⟩ := h
    rfl
  · obtain ⟨a, b, i, rfl, hS, h64, hi, _, k⟩ := h
    unfold mTok at k
    refine q_asg (ev_item (ev_var rfl) hS (ev_var rfl) rfl hi) fun H1 e1 => ?_
    have k := k.mono e1
    have hS := ex_l e1 hS
    refine q_when (et_and (et_test (ev_inU (ev_var (v := .int (bt b i)) rfl) (eu_tup (ea_cons ev_c (ea_cons ev_c ea_nil)) (by show 2 ≤ 100000; decide)) rfl rfl)) fun _ => et_B (ev_cmp (ev_byte (n := i + 1) (ev_var rfl) hS (ev_op (ev_var rfl) ev_c rv_I0) rfl) ev_c)) (fun c H2 e2 => ?_) (fun c H2 e2 => ?_)
    · rw [in2, Bool.and_eq_true, Bool.or_eq_true, decide_eq_true_eq, decide_eq_true_eq, decide_eq_true_eq] at c
      rw [if_pos c] at k
      exact s_retTk (ev_var rfl) (ev_var rfl) (ex_l e2 hS) h64 hi c.2 (k.mono e2)
    have c' : ¬ ((bt b i = 88 ∨ bt b i = 120) ∧ bt b (i + 1) = 39) := fun z => by
      rw [in2, decide_eq_true z.2, Bool.and_true] at c
      rcases z.1 with z | z
      · rw [decide_eq_true z, Bool.true_or] at c
        cases c
      · rw [decide_eq_true z, Bool.or_true] at c
        cases c
    rw [if_neg c'] at k
    have k := k.mono e2
    have hS := ex_l e2 hS
    refine q_when (et_B (ev_p (ev_var (v := .int (bt b i)) rfl))) (fun c H3 e3 => ?_) (fun c H3 e3 => ?_)
    · rw [if_pos c] at k
      exact s_retTk (ev_var rfl) (ev_var rfl) (ex_l e3 hS) h64 hi trivial (k.mono e3)
    rw [if_neg (by rw [c]; exact Bool.false_ne_true)] at k
    have k := k.mono e3
    have hS := ex_l e3 hS
    refine q_when (et_B (ev_cmp (ev_var (v := .int (bt b i)) rfl) ev_c)) (fun c H4 e4 => ?_) (fun c H4 e4 => ?_)
    · rw [if_pos (of_decide_eq_true c)] at k
      exact s_retTk (ev_var rfl) (ev_var rfl) (ex_l e4 hS) h64 hi (of_decide_eq_true c) (k.mono e4)
    rw [if_neg (of_decide_eq_false c)] at k
    have k := k.mono e4
    have hS := ex_l e4 hS
    refine q_when (et_B (ev_cmp (ev_var (v := .int (bt b i)) rfl) ev_c)) (fun c H5 e5 => ?_) (fun c H5 e5 => ?_)
    · rw [if_pos (of_decide_eq_true c)] at k
      exact s_retTk (ev_var rfl) (ev_var rfl) (ex_l e5 hS) h64 hi (of_decide_eq_true c) (k.mono e5)
    rw [if_neg (of_decide_eq_false c)] at k
    have k := k.mono e5
    have hS := ex_l e5 hS
    refine q_when (et_B (ev_cmp (ev_var (v := .int (bt b i)) rfl) ev_c)) (fun c H6 e6 => ?_) (fun c H6 e6 => ?_)
    · rw [if_pos (of_decide_eq_true c)] at k
      exact s_retTk (ev_var rfl) (ev_var rfl) (ex_l e6 hS) h64 hi trivial (k.mono e6)
    rw [if_neg (of_decide_eq_false c)] at k
    have k := k.mono e6
    have hS := ex_l e6 hS
    exact s_retTkIf (et_B (ev_p (ev_var (v := .int (bt b i)) rfl))) (ev_var rfl) (ev_var rfl) (ev_var rfl) (ev_var rfl) hS h64 hi (fun _ => trivial) (fun _ => trivial) (fun c => by rw [if_pos c] at k; exact k) (fun c => by rw [if_neg (by rw [c]; exact Bool.false_ne_true)] at k; exact k)
def C_take_token (T : Txt K mg) : Own P w K mg base (L2.CX P w) 5 "take_token" ["text", "place"] (spTk K T.aToken T.aNoToken (fun _ _ => True) mTok) := T.d_take_token.own (ok_take_token T)
end
end Tk
namespace Tk
open PySem PySem.Spec PyProof.Rows L2 Evl TkM
section
variable {P : Program} {w : World} {K : PySem.W.Frag} {mg : Str → Option Value} {base : Heap}
/-- the list's items are the tokens -/
def TokList (C : Addr) (H : Hp) (rs : List V) (ts : List Si22.Tok) : Prop := rs.length = ts.length ∧ ∀ (i : Nat) (t : Si22.Tok), ts[i]? = some t → ∃ a, rs[i]? = some (.ref a) ∧ TokAt C H a (Si22.sortNo t.sort : Nat) (t.place : Nat)
theorem TokAt.upd {C : Addr} {H : Hp} {t l : Addr} {k p : Int} {xs ys : List V} (h : TokAt C H t k p) (hl : H l = some (.lst xs)) : TokAt C (upd H l (.lst ys)) t k p := by
  obtain ⟨dx, r, q⟩ := h
  exact ⟨dx, r, by rw [upd_ne (ne_of q hl (by intro z; cases z))]; exact q⟩
theorem TokList.to {C : Addr} {H H' : Hp} {rs : List V} {ts : List Si22.Tok} (h : TokList C H rs ts) (f : ∀ a k p, TokAt C H a k p → TokAt C H' a k p) : TokList C H' rs ts :=
  ⟨h.1, fun i t ht => let ⟨a, h1, h2⟩ := h.2 i t ht; ⟨a, h1, f _ _ _ h2⟩⟩
theorem TokList.push {C : Addr} {H : Hp} {rs : List V} {ts : List Si22.Tok} {a : Addr} {t : Si22.Tok} (h : TokList C H rs ts) (ha : TokAt C H a (Si22.sortNo t.sort : Nat) (t.place : Nat)) : TokList C H (rs ++ [.ref a]) (ts ++ [t]) := by
  refine ⟨by rw [List.length_append, List.length_append, h.1]; rfl, fun i u hu => ?_⟩
  by_cases hi : i < ts.length
  · rw [List.getElem?_append_left hi] at hu
    obtain ⟨x, h1, h2⟩ := h.2 i u hu
    exact ⟨x, by rw [List.getElem?_append_left (by rw [h.1]; exact hi)]; exact h1, h2⟩
  · rw [List.getElem?_append_right (by omega)] at hu
    have hz : i - ts.length = 0 := by
      have := (List.getElem?_eq_some_iff.mp hu).1
      simp at this
      omega
    rw [hz] at hu
    obtain rfl : t = u := Option.some.inj hu
    exact ⟨a, by rw [List.getElem?_append_right (by rw [h.1]; omega), h.1, hz]; rfl, ha⟩
/-- tokens ahead -/
def pre (out : List Si22.Tok) : Except Nat (List Si22.Tok) → Except Nat (List Si22.Tok)
  | .error e => .error e
  | .ok l => .ok (out ++ l)
theorem pre_nil (r : Except Nat (List Si22.Tok)) : pre [] r = r := by cases r <;> rfl
theorem pre_app (out : List Si22.Tok) (t : Si22.Tok) (r : Except Nat (List Si22.Tok)) : pre out (match r with
    | .error e => .error e
    | .ok l => .ok (t :: l)) = pre (out ++ [t]) r := by
  cases r with
  | error e => rfl
  | ok l =>
    show Except.ok _ = Except.ok _
    rw [List.append_assoc]
    rfl
theorem blank_u (c : UInt8) : ([32, 9, 10, 13] : List Int).contains (c.toNat : Int) = Si22.isBlank c := by
  have h : ∀ n : Nat, n < 256 → ([32, 9, 10, 13] : List Int).contains ((UInt8.ofNat n).toNat : Int) = Si22.isBlank (UInt8.ofNat n) := by decide +kernel
  have := h c.toNat c.toNat_lt
  rwa [UInt8.ofNat_toNat] at this
def spTokens (K : PySem.W.Frag) (CT CN : Addr) : Sp := fun vs H Q E => ∃ (a : Addr) (b : Dbm.Bytes), vs = [.ref a] ∧ SqL K H a (tx b) ∧ b.length ≤ 65536 ∧
  (∀ ts, toks b 0 = .ok ts → ∀ H' (p : Addr) rs, Ex H H' → H p = none → H' p = some (.lst rs) → ts.length ≤ b.length + 1 → TokList CT H' rs ts → Q (.ref p) H') ∧ (∀ e, toks b 0 = .error e → ErrAt CN (e : Nat) H E)
theorem q_parL {i j : Nat} {σ : L2.St} {H : Hp} {tb : TE} {tz : TS} {D : Ends} {y : V} (hb : Ev tb σ H y) (k : ∀ l H1, H l = none → Ex H H1 → H1 l = some (.lst []) → tz D ((σ.set i (some (.ref l))).set j (some y)) H1) :
    tSeq (tPar i j (tCons (tLst tNil) (tCons tb tNil))) tz D σ H :=
  ⟨(by show 0 ≤ sizeLine; decide), fun l hl => hb _ (Ex.new hl) _ fun H2 e2 => ⟨_, _, rfl, k l H2 hl ((Ex.new hl).trans e2) (e2 l _ upd_same)⟩⟩
theorem q_take {CT CN : Addr} {E : XK} {pre : Dbm.Bytes → Nat → Prop} {m : Dbm.Bytes → Nat → Option (Nat × Nat)} {σ : L2.St} {H : Hp} {ta tb : TE} {tz : TS} {D : Ends} {a : Addr} {b : Dbm.Bytes} {n u v : Nat} (ha : Ev ta σ H (.ref a)) (hb : Ev tb σ H (.int (n : Int)))
    (hS : SqL K H a (tx b)) (h64 : b.length ≤ 65536) (hi : n < b.length) (hp : pre b n) (k : ∀ k j : Nat, m b n = some (k, j) → ∀ H1 t, Ex H H1 → TokAt CT H1 t k n → tz D ((σ.set u (some (.ref t))).set v (some (.int (j : Int)))) H1) (k2 : m b n = none → ErrAt CN n H E) :
    tSeq (tAsg (tCall (spTk K CT CN pre m) [] E (tCons ta (tCons tb tNil))) (gTup K 2 (gCons (gName u) (gCons (gName v) gNil)))) tz D σ H :=
  ha H (Ex.refl H) _ fun H1 e1 => hb H1 e1 _ fun H2 e2 => ⟨a, b, n, rfl, ex_l (e1.trans e2) hS, h64, hi, hp, fun kk j hm H' p t e hpp ht => ⟨p, _, rfl, st_of hpp, rfl, _, _, rfl, _, _, rfl, rfl, k kk j hm H' t ((e1.trans e2).trans e) ht⟩,
    fun z => (k2 z).mono (e1.trans e2)⟩
theorem s_retCat {i : Nat} {σ : L2.St} {H : Hp} {te : TE} {D : Ends} {l : Addr} {xs : List V} {R : V → Hp → Prop} (hi : σ[i]? = some (some (.ref l))) (hl : H l = some (.lst xs)) (h : EvP te σ H R) (hz : xs.length < 100000)
    (k : ∀ v H1 p H2, R v H1 → Ex H H1 → H p = none → Ex H1 H2 → H2 p = some (.lst (xs ++ [v])) → D.rt (.ref p) H2) : tRet (tOp rCat (tVar i) (tLst (tCons te tNil))) D σ H :=
  ⟨_, hi, h H (Ex.refl H) _ fun v H1 e1 hR => ⟨(by show 1 ≤ sizeLine; decide), fun q hq => ⟨l, q, xs, [v], rfl, rfl, Ex.new hq l _ (e1 l _ hl), upd_same, (by
    have : xs.length + 1 ≤ 100000 := hz
    exact sz_of this), fun p hp => k v H1 p _ hR e1 (fresh_back (e1.trans (Ex.new hq)) hp) ((Ex.new hq).trans (Ex.new hp)) upd_same⟩⟩⟩
theorem ok_tokens_of (T : Txt K mg) : FnOk P w K mg base (L2.CX P w) 6 T.d_tokens_of.f T.d_tokens_of.fd ["text"] (spTokens K T.aToken T.aNoToken) := by
  refine T.d_tokens_of.fn.okX sc_tokens_of (fun vs H Q E h => ?_) (fun cdv A outer s H vs Q E hr h => ⟨_,
    (pss_cons (ps_par (i := 1) (j := 2) rfl sc_tokens_of.nd rfl rfl (by decide) rfl rfl (pa_cons (pe_lst pa_nil) (pa_cons pe_int pa_nil)) (by rfl))
    (pss_cons (ps_while (passes_of rfl) (pt_cmp (pc_lt (pv 2) (pe_callB call_len_seq (by rfl) T.nlen PySem.boot_len (pa_cons (pv 0) pa_nil)))) (pss_one (ps_if (pt_cmpR op_in_seq (pe_ix ix_list (pv 0) (pv 2) (fun _ _ => rfl)) (pe_glob (v := .ref T.aBLANKS) rfl T.gBLANKS rfl) (by with_unfolding_all rfl))
    (pss_one (ps_set (i := 2) sc_tokens_of.nd rfl (Or.inl rfl) (pe_op op_add (pv 2) pe_int))) (pss_one (ps_if (PW.pt (pw_and (pt_cmp (pc_eqI (pe_ix ix_list (pv 0) (pv 2) (fun _ _ => rfl)) (pe_glob (v := .int 45) rfl T.gMINUS ⟨_, rfl⟩))) (pw_and1 (pt_cmp (pc_eqI (pe_own (C_byte_at T) (hr.mono (by decide)) rfl pass0 (pa_cons (pv 0) (pa_cons (pe_op op_add (pv 2) pe_int) pa_nil))) (pe_glob (v := .int 45) rfl T.gMINUS ⟨_, rfl⟩))))))
    (pss_one (ps_set (i := 2) sc_tokens_of.nd rfl (Or.inl rfl) (pe_own (C_behind_remark T) (hr.mono (by decide)) rfl pass0 (pa_cons (pv 0) (pa_cons (pv 2) pa_nil))))) (pss_cons (ps_asg (pe_own (C_take_token T) (hr.mono (by decide)) rfl (passes_call (takes_of rfl rfl rfl rfl) (fun _ _ _ _ h => h)) (pa_cons (pv 0) (pa_cons (pv 2) pa_nil))) (pg_tup rfl (pgs_cons (pg_name (i := 3) sc_tokens_of.nd rfl (Or.inl rfl)) (pgs_cons (pg_name (i := 2) sc_tokens_of.nd rfl (Or.inl rfl)) pgs_nil))))
    (pss_one (ps_expr (pe_bm PySem.F.plainAttrs_list PySem.F.slot_list_append PySem.F.type_list_append mt_append (pv 1) (pa_cons (pv 3) pa_nil))))))))))
    (pss_one (ps_ret (pe_op op_cat (pv 1) (pe_lst (pa_cons (pe_make T.mkToken (C_Token_init T) (hr.mono (by decide)) rfl T.gToken T.bToken .nil pass0 (pa_cons (pe_glob (v := .int 7) rfl T.gEND ⟨_, rfl⟩) (pa_cons (pe_callB call_len_seq (by rfl) T.nlen PySem.boot_len (pa_cons (pv 0) pa_nil)) (pa_cons (pe_tup pa_nil) pa_nil)))) pa_nil)))))))
    , ?_⟩)
  · obtain ⟨a, b, rfl, _⟩ := h
    rfl
  · obtain ⟨a, b, rfl, hS, h64, k1, k2⟩ := h
    refine q_parL (y := .int ((0 : Nat) : Int)) ev_c fun l H1 hl e1 h1 => ?_
    refine q_while (fun m σ' H' => ∃ (n : Nat) (out : List Si22.Tok) (rs : List V) (v : Option V), n ≤ b.length ∧ m = b.length - n ∧ σ' = [some (.ref a), some (.ref l), some (.int (n : Int)), v] ∧ Ex H H' ∧ H' l = some (.lst rs) ∧ TokList T.aToken H' rs out ∧ out.length ≤ n ∧
      toks b 0 = pre out (toks b n)) (b.length - 0) ⟨0, [], [], none, Nat.zero_le _, rfl, rfl, e1, h1, ⟨rfl, fun i t h => by cases h⟩, Nat.le_refl _, (pre_nil _).symm⟩ ?_
    rintro m σ' H' ⟨n, out, rs, v, hn, rfl, rfl, e, hrs, hT, hol, ht⟩
    have hS' := ex_l e hS
    refine ⟨_, et_B (ev_cmp (ev_var rfl) (ev_lenT (ev_var rfl) hS')), fun c H2 e2 => ?_, fun c H2 e2 => ?_⟩
    · have hlt : n < b.length := Int.ofNat_lt.mp (of_decide_eq_true c)
      have ec : b[n]? = some b[n] := List.getElem?_eq_getElem hlt
      have hS2 := ex_l e2 hS'
      have e02 := e.trans e2
      have hrs2 := e2 l _ hrs
      have hT2 := hT.to (fun _ _ _ h => h.mono e2)
      refine ⟨fun σ2 H3 => ∃ (n' : Nat) (out' : List Si22.Tok) (rs' : List V) (v' : Option V), n < n' ∧ n' ≤ b.length ∧ σ2 = [some (.ref a), some (.ref l), some (.int (n' : Int)), v'] ∧ Ex H H3 ∧ H3 l = some (.lst rs') ∧ TokList T.aToken H3 rs' out' ∧ out'.length ≤ n' ∧
        toks b 0 = pre out' (toks b n'), fun σ2 H3 ⟨n', out', rs', v', z1, z2, z3, z4, z5, z6, z7, z8⟩ => ⟨b.length - n', by omega, n', out', rs', v', z2, rfl, z3, z4, z5, z6, z7, z8⟩, ?_⟩
      refine s_if (b := Si22.isBlank b[n]) (et_test (ev_is (ev_op (ev_item (ev_var rfl) hS2 (ev_var rfl) rfl hlt) ev_c (rv_isT (T.sBLANKS _) rfl rfl)) (congrArg V.bl ((in_ints (bt b n) [32, 9, 10, 13]).trans (by rw [bt_some ec]; exact blank_u _))))) (fun d H3 e3 => ?_) (fun d H3 e3 => ?_)
      · refine s_asg (ev_op (ev_var rfl) ev_c rv_I0) fun H4 e4 => ⟨n + 1, out, rs, v, by omega, hlt, rfl, (e02.trans e3).trans e4, e4 l _ (e3 l _ hrs2), (hT2.to (fun _ _ _ h => h.mono e3)).to (fun _ _ _ h => h.mono e4), by omega, ?_⟩
        rw [ht, toks_blank ec d]
      have hS3 := ex_l e3 hS2
      have hrs3 := e3 l _ hrs2
      have hT3 := hT2.to (fun _ _ _ h => h.mono e3)
      have d' : ¬ Si22.isBlank b[n] = true := by rw [d]; exact Bool.false_ne_true
      refine s_if (et_and (et_B (ev_cmp (ev_item (ev_var rfl) hS3 (ev_var rfl) rfl hlt) ev_c)) fun _ => et_B (ev_cmp (ev_byte (n := n + 1) (ev_var rfl) hS3 (ev_op (ev_var rfl) ev_c rv_I0) rfl) ev_c)) (fun f H4 e4 => ?_) (fun f H4 e4 => ?_)
      · rw [Bool.and_eq_true, decide_eq_true_eq, decide_eq_true_eq] at f
        have f1 : b[n]? = some 45 := (bt_eq 45).mp f.1
        have f2 : b[n + 1]? = some 45 := (bt_eq 45).mp f.2
        have hlt2 : n < run (fun x => x != 10) b n := run_lt f1 (by decide)
        refine s_asg (v := .int ((run (fun x => x != 10) b n : Nat) : Int)) (ev_call (ea_cons (ev_var rfl) (ea_cons (ev_var rfl) ea_nil)) fun H5 e5 Q q E => ⟨a, b, n, rfl, ex_l (e4.trans e5) hS3, hn, q⟩) fun H5 e5 =>
          ⟨run (fun x => x != 10) b n, out, rs, v, hlt2, run_le hn, rfl, ((e02.trans e3).trans e4).trans e5, e5 l _ (e4 l _ hrs3), (hT3.to (fun _ _ _ h => h.mono e4)).to (fun _ _ _ h => h.mono e5), by omega, ?_⟩
        rw [ht, toks_rem f1 f2]
      have f' : ¬ (b[n] = 45 ∧ b[n + 1]? = some 45) := fun z => by
        have z1 : bt b n = 45 := (bt_eq 45).mpr (by rw [ec, z.1])
        have z2 : bt b (n + 1) = 45 := (bt_eq 45).mpr z.2
        rw [decide_eq_true z1, decide_eq_true z2] at f
        cases f
      obtain ⟨g1, g2⟩ := toks_tok ec d' f'
      refine q_take (ev_var rfl) (ev_var rfl) (ex_l e4 hS3) h64 hlt trivial (fun kk j hm H5 t e5 hta => ?_) (fun z => (k2 n ?_).mono ((e02.trans e3).trans e4))
      · obtain ⟨g3, g4, s, tt, g5, g6⟩ := g2 kk j hm
        have hrs5 := e5 l _ (e4 l _ hrs3)
        have hT5 := (hT3.to (fun _ _ _ h => h.mono e4)).to (fun _ _ _ h => h.mono e5)
        have hlen := hT5.1
        refine s_app hrs5 (ev_var rfl) (ev_var (v := .ref t) rfl) (by omega) fun H6 e6 => ⟨j, out ++ [⟨s, tt, n⟩], rs ++ [.ref t], some (.ref t), g3, g4, rfl, ?_, upd_same, ?_, ?_, ?_⟩
        · exact Ex.mut ((((e02.trans e3).trans e4).trans e5).trans e6) hl
        · refine TokList.push ((hT5.to (fun _ _ _ h => h.mono e6)).to (fun _ _ _ h => h.upd (e6 l _ hrs5))) ?_
          dsimp only
          rw [g5]
          exact (hta.mono e6).upd (e6 l _ hrs5)
        · rw [List.length_append]
          show out.length + 1 ≤ j
          omega
        · rw [ht, g6]
          exact pre_app out _ (toks b j)
      · rw [ht, g1 z]
        rfl
    · have hl2 : ¬ n < b.length := fun z => of_decide_eq_false c (Int.ofNat_lt.mpr z)
      have hnl : n = b.length := by omega
      have hS2 := ex_l e2 hS'
      have hT2 := hT.to (fun _ _ _ h => h.mono e2)
      have hlen := hT2.1
      rw [toks_end b hnl] at ht
      refine s_retCat rfl (e2 l _ hrs) (ev_tok ev_c (ev_lenT (ev_var rfl) hS2) (EvU.any (eu_tup ea_nil (by show 0 ≤ 100000; decide)))) (by omega) fun v H3 p H4 ⟨t, ev, hta⟩ e3 hp e4 h4 => ?_
      subst ev
      refine k1 _ ht H4 p _ (((e.trans e2).trans e3).trans e4) (fresh_back (e.trans e2) hp) h4 ?_ ?_
      · rw [List.length_append]
        show out.length + 1 ≤ _
        omega
      · exact TokList.push ((hT2.to (fun _ _ _ h => h.mono e3)).to (fun _ _ _ h => h.mono e4)) (hta.mono e4)
def C_tokens_of (T : Txt K mg) : Own P w K mg base (L2.CX P w) 6 "tokens_of" ["text"] (spTokens K T.aToken T.aNoToken) := T.d_tokens_of.own (ok_tokens_of T)
/-! ### the call -/
/-- what is answered -/
def ansT (b : Dbm.Bytes) : List Int := if 65536 < b.length then [8, 0] else match toks b 0 with
  | .ok ts => 0 :: ts.flatMap fun t => [((t.place : Nat) : Int), ((Si22.sortNo t.sort : Nat) : Int)]
  | .error p => [1, ((p : Nat) : Int)]
def spAns (K : PySem.W.Frag) : Sp := fun vs H Q _ => ∃ (a : Addr) (b : Dbm.Bytes), vs = [.ref a] ∧ SqL K H a (tx b) ∧ ∀ (H' : Hp) (p : Addr), H' p = some (.lst ((ansT b).map V.int)) → Q (.ref p) H'
def told (ts : List Si22.Tok) : List V := (0 :: ts.flatMap fun t => [((t.place : Nat) : Int), ((Si22.sortNo t.sort : Nat) : Int)]).map V.int
theorem told_more {ts : List Si22.Tok} {i : Nat} {t : Si22.Tok} (h : ts[i]? = some t) : told (ts.take (i + 1)) = told (ts.take i) ++ [.int ((t.place : Nat) : Int), .int ((Si22.sortNo t.sort : Nat) : Int)] := by
  unfold told
  rw [List.take_add_one, h, List.flatMap_append, ← List.cons_append, List.map_append]
  rfl
theorem told_len (ts : List Si22.Tok) : (told ts).length = 1 + 2 * ts.length := by
  unfold told
  rw [List.length_map, List.length_cons]
  have : ∀ l : List Si22.Tok, (l.flatMap fun t => [((t.place : Nat) : Int), ((Si22.sortNo t.sort : Nat) : Int)]).length = 2 * l.length := by
    intro l
    induction l with
    | nil => rfl
    | cons t r ih =>
      rw [List.flatMap_cons, List.length_append, ih]
      show 2 + 2 * r.length = 2 * (r.length + 1)
      omega
  rw [this]
  omega
theorem ok_tokens (T : Txt K mg) : FnOk P w K mg base CX0 8 T.d_tokens.f T.d_tokens.fd ["text"] (spAns K) := by
  refine T.d_tokens.fn.ok sc_tokens (fun vs H Q E h => ?_) (fun cdv A outer s H vs Q E hr h => ⟨_,
    (pss_cons (ps_if (pt_cmp (pc_gt (pe_callB call_len_seq (by rfl) T.nlen PySem.boot_len (pa_cons (pv 0) pa_nil)) (pe_glob (v := .int 65536) rfl T.gMOST_BYTES ⟨_, rfl⟩)))
    (pss_one (ps_ret (pe_lst (pa_cons (pe_glob (v := .int 8) rfl T.gTOO_LONG ⟨_, rfl⟩) (pa_cons pe_int pa_nil))))) pss_nil)
    (pss_cons (ps_set (i := 1) sc_tokens.nd rfl (Or.inl rfl) (pe_lst (pa_cons pe_int pa_nil)))
    (pss_cons (ps_try_as (i := 3) (tb := fun W => tFor (iList K (tCallS (spTokens K T.aToken T.aNoToken) (WE W) (tCons (tVar 0) tNil))) (gName 2) (tDrop (tBM K "list" rExtend (tVar 1) (tCons (tLst (tCons (tFld K (tVar 2) "place") (tCons (tFld K (tVar 2) "kind") tNil))) tNil))))
      (ts := fun a cls d => tRet (tLst (tCons (tC (.int 1)) (tCons (tXf a cls d T.aNoToken "place" (tVar 3)) tNil)))) (Wout := fun _ _ _ _ => False) rfl rfl sc_tokens.nd rfl rfl ⟨rfl, by decide, Or.inl T.gNoToken⟩ takes0
    (fun W pn xe tk po => (pss_one (ps_for po rfl (pi_list (by exact (pe_ownS (C_tokens_of T) (hr.mono (by decide)) rfl (fun σ => passAt tk σ) (by exact (pa_cons (pv 0) pa_nil))))) (pg_name (i := 2) sc_tokens.nd rfl (Or.inl rfl)) (pss_one (ps_expr (by exact (pe_bm PySem.F.plainAttrs_list PySem.F.slot_list_extend PySem.F.type_list_extend mt_extend (pv 1) (by exact (pa_cons (pe_lst (pa_cons (pe_fld (pv 2) rfl) (pa_cons (pe_fld (pv 2) rfl) pa_nil))) pa_nil)))))))))
    (fun a oe cls d pn hz hf => (pss_one (ps_ret (by exact (pe_lst (pa_cons pe_int (pa_cons (pe_xf T.xfNoToken T.nNoToken_place hz hf (pv 3)) pa_nil))))))))
    (pss_one (ps_ret (pv 1))))))
    , ?_⟩)
  · obtain ⟨a, b, rfl, _⟩ := h
    rfl
  · obtain ⟨a, b, rfl, hS, k⟩ := h
    refine q_when (et_B (ev_cmp (ev_lenT (ev_var rfl) hS) ev_c)) (fun c H1 e1 => ?_) (fun c H1 e1 => ?_)
    · have h : 65536 < b.length := by
        have := of_decide_eq_true c
        omega
      unfold ansT at k
      rw [if_pos h] at k
      exact s_retL (el_lst (ea_cons ev_c (ea_cons ev_c ea_nil)) (by show 2 ≤ 100000; decide)) fun p H2 _ _ h2 => k H2 p h2
    have h64 : b.length ≤ 65536 := by
      have := of_decide_eq_false c
      omega
    unfold ansT at k
    rw [if_neg (by omega)] at k
    have hS1 := ex_l e1 hS
    refine q_asgL (el_lst (ea_cons ev_c ea_nil) (by show 1 ≤ 100000; decide)) fun f H2 hf e2 h2 => ?_
    have hS2 := ex_l e2 hS1
    refine ⟨_, rfl, a, b, rfl, hS2, h64, fun ts hts H3 p rs e3 hp h3 hlen hT => ?_, fun e he d H3 e3 hd => ?_⟩
    · rw [hts] at k
      dsimp only at k
      have hfp : p ≠ f := fun z => by
        rw [z] at hp
        rw [h2] at hp
        cases hp
      refine ⟨p, rfl, ⟨rs, sq_of h3⟩, for_list (xs := rs) (fun i σ' H' => ∃ v : Option V, σ' = [some (.ref a), some (.ref f), v, none] ∧ (∀ x o, H3 x = some o → x ≠ f → H' x = some o) ∧ H' f = some (.lst (told (ts.take i)))) ⟨none, rfl, fun _ _ h _ => h, e3 f _ h2⟩
        (fun i σ' H' _ ⟨v, _, z, _⟩ => sq_of (z p _ h3 hfp)) (fun i x σ' H' hx ⟨v, hσ, z1, z2⟩ => ?_) (fun σ' H' ⟨v, hσ, z1, z2⟩ => ?_)⟩
      · subst hσ
        have hi : i < ts.length := by
          rw [← hT.1]
          exact (List.getElem?_eq_some_iff.mp hx).1
        have ht : ts[i]? = some ts[i] := List.getElem?_eq_getElem hi
        obtain ⟨t, g1, dx, r, g2⟩ := hT.2 i _ ht
        rw [hx] at g1
        obtain rfl : x = .ref t := Option.some.inj g1
        have hft : t ≠ f := fun z => by
          rw [z, e3 f _ h2] at g2
          cases g2
        have g3 := z1 t _ g2 hft
        refine ⟨_, rfl, Or.inl ⟨rfl, _, sq_of z2⟩, ⟨_, rfl, t, T.aToken, dx, _, _, rfl, g3, T.clToken, T.nToken_place, tokF_place _ _ _, _, rfl, t, T.aToken, dx, _, _, rfl, g3, T.clToken, T.nToken_kind, tokF_kind _ _ _, (by show 2 ≤ sizeLine; decide), fun q hq => ?_⟩⟩
        have hqf : f ≠ q := ne_of_none z2 hq
        refine ⟨f, q, _, _, rfl, rfl, by rw [upd_ne hqf]; exact z2, upd_same, ?_, some (.ref t), rfl, fun x o hx0 hxf => ?_, ?_⟩
        · rw [told_len, List.length_take]
          show _ + 2 ≤ sizeLine
          rw [sizeLine_eq]
          omega
        · rw [upd_ne hxf, upd_ne (ne_of_none (z1 x o hx0 hxf) hq)]
          exact z1 x o hx0 hxf
        · rw [told_more ht]
          exact upd_same
      · subst hσ
        rw [hT.1, List.take_length] at z2
        exact ⟨_, rfl, k H' f z2⟩
    · rw [he] at k
      dsimp only at k
      exact ⟨true, T.eNoToken, fun _ x hx => ⟨_, rfl, rfl, rfl, d, _, _, rfl, hd, lk_here, (by show 2 ≤ sizeLine; decide), fun p hp => k _ p upd_same⟩, fun q => Bool.noConfusion q⟩
end
end Tk
namespace Tk
open PySem PySem.Spec PyProof.Rows L2 Evl TkM
theorem bytes_tx (l : List Int) (h : ∀ z ∈ l, 0 ≤ z ∧ z ≤ 255) : tx (Si22Neutral.bytesOf l) = l.map V.int := by
  unfold tx Si22Neutral.bytesOf
  rw [List.map_map]
  refine List.map_congr_left fun z hz => ?_
  show V.int ((UInt8.ofNat z.toNat).toNat : Int) = V.int z
  obtain ⟨h1, h2⟩ := h z hz
  have : (UInt8.ofNat z.toNat).toNat = z.toNat := by
    show z.toNat % 256 = z.toNat
    omega
  rw [this]
  congr 1
  omega
theorem ans_eq (l : List Int) : ansT (Si22Neutral.bytesOf l) = PySi22.tokens l := by
  show _ = Si22Neutral.listOf (Si22.answer (.tokens (Si22Neutral.bytesOf l)))
  generalize Si22Neutral.bytesOf l = b
  unfold ansT Si22Neutral.listOf Si22.answer
  dsimp only
  rw [← toks_start]
  by_cases h : 65536 < b.length
  · rw [if_pos h, if_pos (show Dbm.SIZE < b.length from h)]
    rfl
  · rw [if_neg h, if_neg (show ¬ Dbm.SIZE < b.length from h)]
    cases Si22.tokensFrom (b.length + 2) 0 b with
    | error p => rfl
    | ok ts =>
      show _ = (0 : Int) :: (List.map (fun (n : Nat) => (n : Int)) (ts.flatMap fun t => [t.place, Si22.sortNo t.sort]) ++ [])
      rw [List.append_nil, List.map_flatMap]
      rfl
theorem within_bytes (a : PySem.W.Codec.denoteAll PySem.Challenge.fa_strictask_s03_tokens) (hwi : PySem.W.Codec.withinAll PySem.Challenge.fa_strictask_s03_tokens a = true) : ∀ z ∈ a.1, 0 ≤ z ∧ z ≤ 255 := by
  intro z hz
  have h1 : (PySem.W.Codec.inList 0 100000 (PySem.W.Codec.inInt 0 255) a.1 && true) = true := hwi
  rw [Bool.and_true] at h1
  unfold PySem.W.Codec.inList at h1
  rw [Bool.and_eq_true] at h1
  have h2 := List.all_eq_true.mp h1.2 z hz
  unfold PySem.W.Codec.inInt at h2
  rw [Bool.and_eq_true, decide_eq_true_eq, decide_eq_true_eq] at h2
  exact h2
/-- an error of the class at S is what «except S» names -/
theorem exm_self {K : PySem.W.Frag} {S : Addr} (h1 : PySem.W.subIn K (.ref S) (.type "BaseException") = some true) (h2 : PySem.W.isClsIn K S = true) (h3 : PySem.W.typeIn K (.ref S) = some (.type "type")) (h4 : PySem.W.subIn K (.ref S) (.ref S) = some true) :
    PySem.W.exmOne K (.ref S) (.ref S) = some true := by
  have e1 : (PySem.W.subIn K (.ref S) (.type "BaseException") == some true) = true := by rw [h1] <;> rfl
  have e2 : ((PySem.W.clsIn K S).isSome && PySem.W.typeIn K (.ref S) == some (.type "type")) = true := by
    have h2' : (PySem.W.clsIn K S).isSome = true := h2
    rw [h2', h3] <;> rfl
  show (if (PySem.W.subIn K (.ref S) (.type "BaseException") == some true) = true then (if ((PySem.W.clsIn K S).isSome && PySem.W.typeIn K (.ref S) == some (.type "type")) = true then PySem.W.subIn K (.ref S) (.ref S) else none) else none) = some true
  rw [if_pos e1, if_pos e2]
  exact h4
theorem all_mk {P : Program} {w : World} {K : PySem.W.Frag} {h : Heap} {mg : Str → Option Value} {fa : Addr} (X : K.In h) (G : h.Ns mainGlobals mg) (hfa : mg "tokens" = some (.ref fa))
    {CNoToken fNoToken : Addr} {odNoToken anNoToken : Option Addr} {slNoToken : Array (Option Value)} {ocNoToken kVNoToken dcNoToken pmNoToken cdNoToken ctNoToken : Value}
    {nmNoToken qNoToken : Str} {NNoToken : Addr} {bsNoToken : List Value} {snNoToken : List Str} {subNoToken : List Value} {abNoToken : Bool} {colNoToken : Option Bool} {ddNoToken : Option Addr} {m0NoToken m1NoToken m2NoToken m3NoToken m5NoToken : Option Value}
    {CToken fToken : Addr} {odToken anToken : Option Addr} {slToken : Array (Option Value)} {ocToken kVToken dcToken pmToken cdToken ctToken : Value}
    {f_is_digit : Addr} {od_is_digit an_is_digit : Option Addr} {sl_is_digit : Array (Option Value)} {oc_is_digit kV_is_digit dc_is_digit pm_is_digit cd_is_digit ct_is_digit : Value}
    {f_is_letter : Addr} {od_is_letter an_is_letter : Option Addr} {sl_is_letter : Array (Option Value)} {oc_is_letter kV_is_letter dc_is_letter pm_is_letter cd_is_letter ct_is_letter : Value}
    {f_is_wordly : Addr} {od_is_wordly an_is_wordly : Option Addr} {sl_is_wordly : Array (Option Value)} {oc_is_wordly kV_is_wordly dc_is_wordly pm_is_wordly cd_is_wordly ct_is_wordly : Value}
    {f_is_hex : Addr} {od_is_hex an_is_hex : Option Addr} {sl_is_hex : Array (Option Value)} {oc_is_hex kV_is_hex dc_is_hex pm_is_hex cd_is_hex ct_is_hex : Value}
    {f_small : Addr} {od_small an_small : Option Addr} {sl_small : Array (Option Value)} {oc_small kV_small dc_small pm_small cd_small ct_small : Value}
    {f_byte_at : Addr} {od_byte_at an_byte_at : Option Addr} {sl_byte_at : Array (Option Value)} {oc_byte_at kV_byte_at dc_byte_at pm_byte_at cd_byte_at ct_byte_at : Value}
    {f_behind_digits : Addr} {od_behind_digits an_behind_digits : Option Addr} {sl_behind_digits : Array (Option Value)} {oc_behind_digits kV_behind_digits dc_behind_digits pm_behind_digits cd_behind_digits ct_behind_digits : Value}
    {f_need : Addr} {od_need an_need : Option Addr} {sl_need : Array (Option Value)} {oc_need kV_need dc_need pm_need cd_need ct_need : Value}
    {f_is_tail : Addr} {od_is_tail an_is_tail : Option Addr} {sl_is_tail : Array (Option Value)} {oc_is_tail kV_is_tail dc_is_tail pm_is_tail cd_is_tail ct_is_tail : Value}
    {f_sign_size : Addr} {od_sign_size an_sign_size : Option Addr} {sl_sign_size : Array (Option Value)} {oc_sign_size kV_sign_size dc_sign_size pm_sign_size cd_sign_size ct_sign_size : Value}
    {f_is_well_made : Addr} {od_is_well_made an_is_well_made : Option Addr} {sl_is_well_made : Array (Option Value)} {oc_is_well_made kV_is_well_made dc_is_well_made pm_is_well_made cd_is_well_made ct_is_well_made : Value}
    {f_between : Addr} {od_between an_between : Option Addr} {sl_between : Array (Option Value)} {oc_between kV_between dc_between pm_between cd_between ct_between : Value}
    {f_take_bytes : Addr} {od_take_bytes an_take_bytes : Option Addr} {sl_take_bytes : Array (Option Value)} {oc_take_bytes kV_take_bytes dc_take_bytes pm_take_bytes cd_take_bytes ct_take_bytes : Value}
    {f_take_word : Addr} {od_take_word an_take_word : Option Addr} {sl_take_word : Array (Option Value)} {oc_take_word kV_take_word dc_take_word pm_take_word cd_take_word ct_take_word : Value}
    {f_take_quoted : Addr} {od_take_quoted an_take_quoted : Option Addr} {sl_take_quoted : Array (Option Value)} {oc_take_quoted kV_take_quoted dc_take_quoted pm_take_quoted cd_take_quoted ct_take_quoted : Value}
    {f_take_text : Addr} {od_take_text an_take_text : Option Addr} {sl_take_text : Array (Option Value)} {oc_take_text kV_take_text dc_take_text pm_take_text cd_take_text ct_take_text : Value}
    {f_digits_number : Addr} {od_digits_number an_digits_number : Option Addr} {sl_digits_number : Array (Option Value)} {oc_digits_number kV_digits_number dc_digits_number pm_digits_number cd_digits_number ct_digits_number : Value}
    {f_take_given : Addr} {od_take_given an_take_given : Option Addr} {sl_take_given : Array (Option Value)} {oc_take_given kV_take_given dc_take_given pm_take_given cd_take_given ct_take_given : Value}
    {f_behind_exponent : Addr} {od_behind_exponent an_behind_exponent : Option Addr} {sl_behind_exponent : Array (Option Value)} {oc_behind_exponent kV_behind_exponent dc_behind_exponent pm_behind_exponent cd_behind_exponent ct_behind_exponent : Value}
    {f_take_number : Addr} {od_take_number an_take_number : Option Addr} {sl_take_number : Array (Option Value)} {oc_take_number kV_take_number dc_take_number pm_take_number cd_take_number ct_take_number : Value}
    {f_take_sign : Addr} {od_take_sign an_take_sign : Option Addr} {sl_take_sign : Array (Option Value)} {oc_take_sign kV_take_sign dc_take_sign pm_take_sign cd_take_sign ct_take_sign : Value}
    {f_take_token : Addr} {od_take_token an_take_token : Option Addr} {sl_take_token : Array (Option Value)} {oc_take_token kV_take_token dc_take_token pm_take_token cd_take_token ct_take_token : Value}
    {f_behind_remark : Addr} {od_behind_remark an_behind_remark : Option Addr} {sl_behind_remark : Array (Option Value)} {oc_behind_remark kV_behind_remark dc_behind_remark pm_behind_remark cd_behind_remark ct_behind_remark : Value}
    {f_tokens_of : Addr} {od_tokens_of an_tokens_of : Option Addr} {sl_tokens_of : Array (Option Value)} {oc_tokens_of kV_tokens_of dc_tokens_of pm_tokens_of cd_tokens_of ct_tokens_of : Value}
    {f_tokens : Addr} {od_tokens an_tokens : Option Addr} {sl_tokens : Array (Option Value)} {oc_tokens kV_tokens dc_tokens pm_tokens cd_tokens ct_tokens : Value}
    {kWORD : Tok}
    {kQUOTED : Tok}
    {kNUMBER : Tok}
    {kTEXT : Tok}
    {kBYTES : Tok}
    {kGIVEN : Tok}
    {kSIGN : Tok}
    {kEND : Tok}
    {kMOST_WORD : Tok}
    {kMOST_NAME : Tok}
    {kMOST_TEXT : Tok}
    {kMOST_HEX : Tok}
    {kMOST_GIVEN : Tok}
    {kLINE_END : Tok}
    {kMINUS : Tok}
    {kPOINT : Tok}
    {kAPOSTROPHE : Tok}
    {kQUOTES : Tok}
    {kDOLLAR : Tok}
    {kLOW_LINE : Tok}
    {kMOST_BYTES : Tok}
    {kTOO_LONG : Tok}
    {aBLANKS : Addr} {odBLANKS : Option Addr} {slBLANKS : Array (Option Value)} {nBLANKS : Nat}
    {tBLANKS_0 : Tok}
    {tBLANKS_1 : Tok}
    {tBLANKS_2 : Tok}
    {tBLANKS_3 : Tok}
    {aSINGLE : Addr} {odSINGLE : Option Addr} {slSINGLE : Array (Option Value)} {nSINGLE : Nat}
    {tSINGLE_0 : Tok}
    {tSINGLE_1 : Tok}
    {tSINGLE_2 : Tok}
    {tSINGLE_3 : Tok}
    {tSINGLE_4 : Tok}
    {tSINGLE_5 : Tok}
    {tSINGLE_6 : Tok}
    {tSINGLE_7 : Tok}
    {tSINGLE_8 : Tok}
    {tSINGLE_9 : Tok}
    {tSINGLE_10 : Tok}
    {tSINGLE_11 : Tok}
    {aDOUBLE : Addr} {odDOUBLE : Option Addr} {slDOUBLE : Array (Option Value)} {nDOUBLE : Nat}
    {aDOUBLE_0 : Addr} {odDOUBLE_0 : Option Addr} {slDOUBLE_0 : Array (Option Value)} {nDOUBLE_0 : Nat}
    {tDOUBLE_0_0 : Tok}
    {tDOUBLE_0_1 : Tok}
    {aDOUBLE_1 : Addr} {odDOUBLE_1 : Option Addr} {slDOUBLE_1 : Array (Option Value)} {nDOUBLE_1 : Nat}
    {tDOUBLE_1_0 : Tok}
    {tDOUBLE_1_1 : Tok}
    {aDOUBLE_2 : Addr} {odDOUBLE_2 : Option Addr} {slDOUBLE_2 : Array (Option Value)} {nDOUBLE_2 : Nat}
    {tDOUBLE_2_0 : Tok}
    {tDOUBLE_2_1 : Tok}
    {aDOUBLE_3 : Addr} {odDOUBLE_3 : Option Addr} {slDOUBLE_3 : Array (Option Value)} {nDOUBLE_3 : Nat}
    {tDOUBLE_3_0 : Tok}
    {tDOUBLE_3_1 : Tok}
    (aNoToken : PySem.W.nsIn K mainGlobals "NoToken" = some (some (.ref CNoToken)))
    (xNoToken : K.lookup CNoToken = some (excClassObj nmNoToken qNoToken CNoToken NNoToken bsNoToken [.type "ValueError", .type "Exception", .type "BaseException", .type "object"] true snNoToken subNoToken abNoToken colNoToken ddNoToken m0NoToken m1NoToken m2NoToken m3NoToken m5NoToken "ValueError.__new__"))
    (saNoToken : PySem.W.findIn K (.ref CNoToken) "__setattr__" = some (some (.builtin "object.__setattr__")))
    (gaNoToken : PySem.W.findIn K (.ref CNoToken) "__getattribute__" = some (some (.builtin "BaseException.__getattribute__")))
    (ggNoToken : PySem.W.findIn K (.ref CNoToken) "__getattr__" = some none)
    (nNoToken_place : PySem.W.findIn K (.ref CNoToken) "place" = some none)
    (iNoToken : PySem.W.findIn K (.ref CNoToken) "__init__" = some (some (.ref fNoToken)))
    (tNoToken : PySem.W.typeIn K (.ref fNoToken) = some (.type "function"))
    (lNoToken : K.lookup fNoToken = some ⟨ocNoToken, odNoToken, .func (PySem.W.fnOf "__init__" "NoToken.__init__" (defArgs s_NoToken_init) (defBody s_NoToken_init) (defScope s_NoToken_init) .none kVNoToken dcNoToken pmNoToken anNoToken cdNoToken ctNoToken), slNoToken⟩)
    (cNoToken : PySem.W.codeIn K cdNoToken "NoToken.__init__" = true)
    (kNoToken : PySem.W.keepIn K (.ref fNoToken) = true)
    (kCNoToken : PySem.W.keepIn K (.ref CNoToken) = true)
    (eCNoToken : PySem.W.subIn K (.ref CNoToken) (.type "BaseException") = some true)
    (tCNoToken : PySem.W.typeIn K (.ref CNoToken) = some (.type "type"))
    (hCNoToken : PySem.W.hasDictIn K CNoToken = true)
    (iCNoToken : PySem.W.isClsIn K CNoToken = true)
    (sCNoToken : PySem.W.subIn K (.ref CNoToken) (.ref CNoToken) = some true)
    (aToken : PySem.W.nsIn K mainGlobals "Token" = some (some (.ref CToken)))
    (pgToken : PySem.W.plainGet K CToken Str.empty = true)
    (hdToken : PySem.W.hasDictIn K CToken = true)
    (poToken : PySem.W.plainOver K CToken = true)
    (saToken : PySem.W.findIn K (.ref CToken) "__setattr__" = some (some (.builtin "object.__setattr__")))
    (mkToken : PySem.W.makesIn K CToken = true)
    (kcToken : PySem.W.keepIn K (.ref CToken) = true)
    (nToken_kind : PySem.W.findIn K (.ref CToken) "kind" = some none)
    (nToken_place : PySem.W.findIn K (.ref CToken) "place" = some none)
    (nToken_row : PySem.W.findIn K (.ref CToken) "row" = some none)
    (iToken : PySem.W.findIn K (.ref CToken) "__init__" = some (some (.ref fToken)))
    (yToken : PySem.W.isFn K (.ref fToken) = true)
    (lToken : K.lookup fToken = some ⟨ocToken, odToken, .func (PySem.W.fnOf "__init__" "Token.__init__" (defArgs s_Token_init) (defBody s_Token_init) (defScope s_Token_init) .none kVToken dcToken pmToken anToken cdToken ctToken), slToken⟩)
    (cToken : PySem.W.codeIn K cdToken "Token.__init__" = true)
    (kToken : PySem.W.keepIn K (.ref fToken) = true)
    (a_is_digit : PySem.W.nsIn K mainGlobals "is_digit" = some (some (.ref f_is_digit)))
    (l_is_digit : K.lookup f_is_digit = some ⟨oc_is_digit, od_is_digit, .func (PySem.W.fnOf "is_digit" "is_digit" (defArgs s_is_digit) (defBody s_is_digit) (defScope s_is_digit) .none kV_is_digit dc_is_digit pm_is_digit an_is_digit cd_is_digit ct_is_digit), sl_is_digit⟩)
    (c_is_digit : PySem.W.codeIn K cd_is_digit "is_digit" = true)
    (k_is_digit : PySem.W.keepIn K (.ref f_is_digit) = true)
    (a_is_letter : PySem.W.nsIn K mainGlobals "is_letter" = some (some (.ref f_is_letter)))
    (l_is_letter : K.lookup f_is_letter = some ⟨oc_is_letter, od_is_letter, .func (PySem.W.fnOf "is_letter" "is_letter" (defArgs s_is_letter) (defBody s_is_letter) (defScope s_is_letter) .none kV_is_letter dc_is_letter pm_is_letter an_is_letter cd_is_letter ct_is_letter), sl_is_letter⟩)
    (c_is_letter : PySem.W.codeIn K cd_is_letter "is_letter" = true)
    (k_is_letter : PySem.W.keepIn K (.ref f_is_letter) = true)
    (a_is_wordly : PySem.W.nsIn K mainGlobals "is_wordly" = some (some (.ref f_is_wordly)))
    (l_is_wordly : K.lookup f_is_wordly = some ⟨oc_is_wordly, od_is_wordly, .func (PySem.W.fnOf "is_wordly" "is_wordly" (defArgs s_is_wordly) (defBody s_is_wordly) (defScope s_is_wordly) .none kV_is_wordly dc_is_wordly pm_is_wordly an_is_wordly cd_is_wordly ct_is_wordly), sl_is_wordly⟩)
    (c_is_wordly : PySem.W.codeIn K cd_is_wordly "is_wordly" = true)
    (k_is_wordly : PySem.W.keepIn K (.ref f_is_wordly) = true)
    (a_is_hex : PySem.W.nsIn K mainGlobals "is_hex" = some (some (.ref f_is_hex)))
    (l_is_hex : K.lookup f_is_hex = some ⟨oc_is_hex, od_is_hex, .func (PySem.W.fnOf "is_hex" "is_hex" (defArgs s_is_hex) (defBody s_is_hex) (defScope s_is_hex) .none kV_is_hex dc_is_hex pm_is_hex an_is_hex cd_is_hex ct_is_hex), sl_is_hex⟩)
    (c_is_hex : PySem.W.codeIn K cd_is_hex "is_hex" = true)
    (k_is_hex : PySem.W.keepIn K (.ref f_is_hex) = true)
    (a_small : PySem.W.nsIn K mainGlobals "small" = some (some (.ref f_small)))
    (l_small : K.lookup f_small = some ⟨oc_small, od_small, .func (PySem.W.fnOf "small" "small" (defArgs s_small) (defBody s_small) (defScope s_small) .none kV_small dc_small pm_small an_small cd_small ct_small), sl_small⟩)
    (c_small : PySem.W.codeIn K cd_small "small" = true)
    (k_small : PySem.W.keepIn K (.ref f_small) = true)
    (a_byte_at : PySem.W.nsIn K mainGlobals "byte_at" = some (some (.ref f_byte_at)))
    (l_byte_at : K.lookup f_byte_at = some ⟨oc_byte_at, od_byte_at, .func (PySem.W.fnOf "byte_at" "byte_at" (defArgs s_byte_at) (defBody s_byte_at) (defScope s_byte_at) .none kV_byte_at dc_byte_at pm_byte_at an_byte_at cd_byte_at ct_byte_at), sl_byte_at⟩)
    (c_byte_at : PySem.W.codeIn K cd_byte_at "byte_at" = true)
    (k_byte_at : PySem.W.keepIn K (.ref f_byte_at) = true)
    (a_behind_digits : PySem.W.nsIn K mainGlobals "behind_digits" = some (some (.ref f_behind_digits)))
    (l_behind_digits : K.lookup f_behind_digits = some ⟨oc_behind_digits, od_behind_digits, .func (PySem.W.fnOf "behind_digits" "behind_digits" (defArgs s_behind_digits) (defBody s_behind_digits) (defScope s_behind_digits) .none kV_behind_digits dc_behind_digits pm_behind_digits an_behind_digits cd_behind_digits ct_behind_digits), sl_behind_digits⟩)
    (c_behind_digits : PySem.W.codeIn K cd_behind_digits "behind_digits" = true)
    (k_behind_digits : PySem.W.keepIn K (.ref f_behind_digits) = true)
    (a_need : PySem.W.nsIn K mainGlobals "need" = some (some (.ref f_need)))
    (l_need : K.lookup f_need = some ⟨oc_need, od_need, .func (PySem.W.fnOf "need" "need" (defArgs s_need) (defBody s_need) (defScope s_need) .none kV_need dc_need pm_need an_need cd_need ct_need), sl_need⟩)
    (c_need : PySem.W.codeIn K cd_need "need" = true)
    (k_need : PySem.W.keepIn K (.ref f_need) = true)
    (a_is_tail : PySem.W.nsIn K mainGlobals "is_tail" = some (some (.ref f_is_tail)))
    (l_is_tail : K.lookup f_is_tail = some ⟨oc_is_tail, od_is_tail, .func (PySem.W.fnOf "is_tail" "is_tail" (defArgs s_is_tail) (defBody s_is_tail) (defScope s_is_tail) .none kV_is_tail dc_is_tail pm_is_tail an_is_tail cd_is_tail ct_is_tail), sl_is_tail⟩)
    (c_is_tail : PySem.W.codeIn K cd_is_tail "is_tail" = true)
    (k_is_tail : PySem.W.keepIn K (.ref f_is_tail) = true)
    (a_sign_size : PySem.W.nsIn K mainGlobals "sign_size" = some (some (.ref f_sign_size)))
    (l_sign_size : K.lookup f_sign_size = some ⟨oc_sign_size, od_sign_size, .func (PySem.W.fnOf "sign_size" "sign_size" (defArgs s_sign_size) (defBody s_sign_size) (defScope s_sign_size) .none kV_sign_size dc_sign_size pm_sign_size an_sign_size cd_sign_size ct_sign_size), sl_sign_size⟩)
    (c_sign_size : PySem.W.codeIn K cd_sign_size "sign_size" = true)
    (k_sign_size : PySem.W.keepIn K (.ref f_sign_size) = true)
    (a_is_well_made : PySem.W.nsIn K mainGlobals "is_well_made" = some (some (.ref f_is_well_made)))
    (l_is_well_made : K.lookup f_is_well_made = some ⟨oc_is_well_made, od_is_well_made, .func (PySem.W.fnOf "is_well_made" "is_well_made" (defArgs s_is_well_made) (defBody s_is_well_made) (defScope s_is_well_made) .none kV_is_well_made dc_is_well_made pm_is_well_made an_is_well_made cd_is_well_made ct_is_well_made), sl_is_well_made⟩)
    (c_is_well_made : PySem.W.codeIn K cd_is_well_made "is_well_made" = true)
    (k_is_well_made : PySem.W.keepIn K (.ref f_is_well_made) = true)
    (a_between : PySem.W.nsIn K mainGlobals "between" = some (some (.ref f_between)))
    (l_between : K.lookup f_between = some ⟨oc_between, od_between, .func (PySem.W.fnOf "between" "between" (defArgs s_between) (defBody s_between) (defScope s_between) .none kV_between dc_between pm_between an_between cd_between ct_between), sl_between⟩)
    (c_between : PySem.W.codeIn K cd_between "between" = true)
    (k_between : PySem.W.keepIn K (.ref f_between) = true)
    (a_take_bytes : PySem.W.nsIn K mainGlobals "take_bytes" = some (some (.ref f_take_bytes)))
    (l_take_bytes : K.lookup f_take_bytes = some ⟨oc_take_bytes, od_take_bytes, .func (PySem.W.fnOf "take_bytes" "take_bytes" (defArgs s_take_bytes) (defBody s_take_bytes) (defScope s_take_bytes) .none kV_take_bytes dc_take_bytes pm_take_bytes an_take_bytes cd_take_bytes ct_take_bytes), sl_take_bytes⟩)
    (c_take_bytes : PySem.W.codeIn K cd_take_bytes "take_bytes" = true)
    (k_take_bytes : PySem.W.keepIn K (.ref f_take_bytes) = true)
    (a_take_word : PySem.W.nsIn K mainGlobals "take_word" = some (some (.ref f_take_word)))
    (l_take_word : K.lookup f_take_word = some ⟨oc_take_word, od_take_word, .func (PySem.W.fnOf "take_word" "take_word" (defArgs s_take_word) (defBody s_take_word) (defScope s_take_word) .none kV_take_word dc_take_word pm_take_word an_take_word cd_take_word ct_take_word), sl_take_word⟩)
    (c_take_word : PySem.W.codeIn K cd_take_word "take_word" = true)
    (k_take_word : PySem.W.keepIn K (.ref f_take_word) = true)
    (a_take_quoted : PySem.W.nsIn K mainGlobals "take_quoted" = some (some (.ref f_take_quoted)))
    (l_take_quoted : K.lookup f_take_quoted = some ⟨oc_take_quoted, od_take_quoted, .func (PySem.W.fnOf "take_quoted" "take_quoted" (defArgs s_take_quoted) (defBody s_take_quoted) (defScope s_take_quoted) .none kV_take_quoted dc_take_quoted pm_take_quoted an_take_quoted cd_take_quoted ct_take_quoted), sl_take_quoted⟩)
    (c_take_quoted : PySem.W.codeIn K cd_take_quoted "take_quoted" = true)
    (k_take_quoted : PySem.W.keepIn K (.ref f_take_quoted) = true)
    (a_take_text : PySem.W.nsIn K mainGlobals "take_text" = some (some (.ref f_take_text)))
    (l_take_text : K.lookup f_take_text = some ⟨oc_take_text, od_take_text, .func (PySem.W.fnOf "take_text" "take_text" (defArgs s_take_text) (defBody s_take_text) (defScope s_take_text) .none kV_take_text dc_take_text pm_take_text an_take_text cd_take_text ct_take_text), sl_take_text⟩)
    (c_take_text : PySem.W.codeIn K cd_take_text "take_text" = true)
    (k_take_text : PySem.W.keepIn K (.ref f_take_text) = true)
    (a_digits_number : PySem.W.nsIn K mainGlobals "digits_number" = some (some (.ref f_digits_number)))
    (l_digits_number : K.lookup f_digits_number = some ⟨oc_digits_number, od_digits_number, .func (PySem.W.fnOf "digits_number" "digits_number" (defArgs s_digits_number) (defBody s_digits_number) (defScope s_digits_number) .none kV_digits_number dc_digits_number pm_digits_number an_digits_number cd_digits_number ct_digits_number), sl_digits_number⟩)
    (c_digits_number : PySem.W.codeIn K cd_digits_number "digits_number" = true)
    (k_digits_number : PySem.W.keepIn K (.ref f_digits_number) = true)
    (a_take_given : PySem.W.nsIn K mainGlobals "take_given" = some (some (.ref f_take_given)))
    (l_take_given : K.lookup f_take_given = some ⟨oc_take_given, od_take_given, .func (PySem.W.fnOf "take_given" "take_given" (defArgs s_take_given) (defBody s_take_given) (defScope s_take_given) .none kV_take_given dc_take_given pm_take_given an_take_given cd_take_given ct_take_given), sl_take_given⟩)
    (c_take_given : PySem.W.codeIn K cd_take_given "take_given" = true)
    (k_take_given : PySem.W.keepIn K (.ref f_take_given) = true)
    (a_behind_exponent : PySem.W.nsIn K mainGlobals "behind_exponent" = some (some (.ref f_behind_exponent)))
    (l_behind_exponent : K.lookup f_behind_exponent = some ⟨oc_behind_exponent, od_behind_exponent, .func (PySem.W.fnOf "behind_exponent" "behind_exponent" (defArgs s_behind_exponent) (defBody s_behind_exponent) (defScope s_behind_exponent) .none kV_behind_exponent dc_behind_exponent pm_behind_exponent an_behind_exponent cd_behind_exponent ct_behind_exponent), sl_behind_exponent⟩)
    (c_behind_exponent : PySem.W.codeIn K cd_behind_exponent "behind_exponent" = true)
    (k_behind_exponent : PySem.W.keepIn K (.ref f_behind_exponent) = true)
    (a_take_number : PySem.W.nsIn K mainGlobals "take_number" = some (some (.ref f_take_number)))
    (l_take_number : K.lookup f_take_number = some ⟨oc_take_number, od_take_number, .func (PySem.W.fnOf "take_number" "take_number" (defArgs s_take_number) (defBody s_take_number) (defScope s_take_number) .none kV_take_number dc_take_number pm_take_number an_take_number cd_take_number ct_take_number), sl_take_number⟩)
    (c_take_number : PySem.W.codeIn K cd_take_number "take_number" = true)
    (k_take_number : PySem.W.keepIn K (.ref f_take_number) = true)
    (a_take_sign : PySem.W.nsIn K mainGlobals "take_sign" = some (some (.ref f_take_sign)))
    (l_take_sign : K.lookup f_take_sign = some ⟨oc_take_sign, od_take_sign, .func (PySem.W.fnOf "take_sign" "take_sign" (defArgs s_take_sign) (defBody s_take_sign) (defScope s_take_sign) .none kV_take_sign dc_take_sign pm_take_sign an_take_sign cd_take_sign ct_take_sign), sl_take_sign⟩)
    (c_take_sign : PySem.W.codeIn K cd_take_sign "take_sign" = true)
    (k_take_sign : PySem.W.keepIn K (.ref f_take_sign) = true)
    (a_take_token : PySem.W.nsIn K mainGlobals "take_token" = some (some (.ref f_take_token)))
    (l_take_token : K.lookup f_take_token = some ⟨oc_take_token, od_take_token, .func (PySem.W.fnOf "take_token" "take_token" (defArgs s_take_token) (defBody s_take_token) (defScope s_take_token) .none kV_take_token dc_take_token pm_take_token an_take_token cd_take_token ct_take_token), sl_take_token⟩)
    (c_take_token : PySem.W.codeIn K cd_take_token "take_token" = true)
    (k_take_token : PySem.W.keepIn K (.ref f_take_token) = true)
    (a_behind_remark : PySem.W.nsIn K mainGlobals "behind_remark" = some (some (.ref f_behind_remark)))
    (l_behind_remark : K.lookup f_behind_remark = some ⟨oc_behind_remark, od_behind_remark, .func (PySem.W.fnOf "behind_remark" "behind_remark" (defArgs s_behind_remark) (defBody s_behind_remark) (defScope s_behind_remark) .none kV_behind_remark dc_behind_remark pm_behind_remark an_behind_remark cd_behind_remark ct_behind_remark), sl_behind_remark⟩)
    (c_behind_remark : PySem.W.codeIn K cd_behind_remark "behind_remark" = true)
    (k_behind_remark : PySem.W.keepIn K (.ref f_behind_remark) = true)
    (a_tokens_of : PySem.W.nsIn K mainGlobals "tokens_of" = some (some (.ref f_tokens_of)))
    (l_tokens_of : K.lookup f_tokens_of = some ⟨oc_tokens_of, od_tokens_of, .func (PySem.W.fnOf "tokens_of" "tokens_of" (defArgs s_tokens_of) (defBody s_tokens_of) (defScope s_tokens_of) .none kV_tokens_of dc_tokens_of pm_tokens_of an_tokens_of cd_tokens_of ct_tokens_of), sl_tokens_of⟩)
    (c_tokens_of : PySem.W.codeIn K cd_tokens_of "tokens_of" = true)
    (k_tokens_of : PySem.W.keepIn K (.ref f_tokens_of) = true)
    (a_tokens : PySem.W.nsIn K mainGlobals "tokens" = some (some (.ref f_tokens)))
    (l_tokens : K.lookup f_tokens = some ⟨oc_tokens, od_tokens, .func (PySem.W.fnOf "tokens" "tokens" (defArgs s_tokens) (defBody s_tokens) (defScope s_tokens) .none kV_tokens dc_tokens pm_tokens an_tokens cd_tokens ct_tokens), sl_tokens⟩)
    (c_tokens : PySem.W.codeIn K cd_tokens "tokens" = true)
    (k_tokens : PySem.W.keepIn K (.ref f_tokens) = true)
    (aWORD : PySem.W.nsIn K mainGlobals "WORD" = some (some (.int 0 kWORD)))
    (aQUOTED : PySem.W.nsIn K mainGlobals "QUOTED" = some (some (.int 1 kQUOTED)))
    (aNUMBER : PySem.W.nsIn K mainGlobals "NUMBER" = some (some (.int 2 kNUMBER)))
    (aTEXT : PySem.W.nsIn K mainGlobals "TEXT" = some (some (.int 3 kTEXT)))
    (aBYTES : PySem.W.nsIn K mainGlobals "BYTES" = some (some (.int 4 kBYTES)))
    (aGIVEN : PySem.W.nsIn K mainGlobals "GIVEN" = some (some (.int 5 kGIVEN)))
    (aSIGN : PySem.W.nsIn K mainGlobals "SIGN" = some (some (.int 6 kSIGN)))
    (aEND : PySem.W.nsIn K mainGlobals "END" = some (some (.int 7 kEND)))
    (aMOST_WORD : PySem.W.nsIn K mainGlobals "MOST_WORD" = some (some (.int 64 kMOST_WORD)))
    (aMOST_NAME : PySem.W.nsIn K mainGlobals "MOST_NAME" = some (some (.int 64 kMOST_NAME)))
    (aMOST_TEXT : PySem.W.nsIn K mainGlobals "MOST_TEXT" = some (some (.int 4096 kMOST_TEXT)))
    (aMOST_HEX : PySem.W.nsIn K mainGlobals "MOST_HEX" = some (some (.int 8192 kMOST_HEX)))
    (aMOST_GIVEN : PySem.W.nsIn K mainGlobals "MOST_GIVEN" = some (some (.int 64 kMOST_GIVEN)))
    (aLINE_END : PySem.W.nsIn K mainGlobals "LINE_END" = some (some (.int 10 kLINE_END)))
    (aMINUS : PySem.W.nsIn K mainGlobals "MINUS" = some (some (.int 45 kMINUS)))
    (aPOINT : PySem.W.nsIn K mainGlobals "POINT" = some (some (.int 46 kPOINT)))
    (aAPOSTROPHE : PySem.W.nsIn K mainGlobals "APOSTROPHE" = some (some (.int 39 kAPOSTROPHE)))
    (aQUOTES : PySem.W.nsIn K mainGlobals "QUOTES" = some (some (.int 34 kQUOTES)))
    (aDOLLAR : PySem.W.nsIn K mainGlobals "DOLLAR" = some (some (.int 36 kDOLLAR)))
    (aLOW_LINE : PySem.W.nsIn K mainGlobals "LOW_LINE" = some (some (.int 95 kLOW_LINE)))
    (aMOST_BYTES : PySem.W.nsIn K mainGlobals "MOST_BYTES" = some (some (.int 65536 kMOST_BYTES)))
    (aTOO_LONG : PySem.W.nsIn K mainGlobals "TOO_LONG" = some (some (.int 8 kTOO_LONG)))
    (zBLANKS : PySem.W.nsIn K mainGlobals "BLANKS" = some (some (.ref aBLANKS)))
    (lBLANKS : K.lookup aBLANKS = some ⟨.type "tuple", odBLANKS, .seq #[.int 32 tBLANKS_0, .int 9 tBLANKS_1, .int 10 tBLANKS_2, .int 13 tBLANKS_3] nBLANKS, slBLANKS⟩)
    (zSINGLE : PySem.W.nsIn K mainGlobals "SINGLE" = some (some (.ref aSINGLE)))
    (lSINGLE : K.lookup aSINGLE = some ⟨.type "tuple", odSINGLE, .seq #[.int 40 tSINGLE_0, .int 41 tSINGLE_1, .int 44 tSINGLE_2, .int 46 tSINGLE_3, .int 42 tSINGLE_4, .int 43 tSINGLE_5, .int 45 tSINGLE_6, .int 47 tSINGLE_7, .int 37 tSINGLE_8, .int 61 tSINGLE_9, .int 60 tSINGLE_10, .int 62 tSINGLE_11] nSINGLE, slSINGLE⟩)
    (zDOUBLE : PySem.W.nsIn K mainGlobals "DOUBLE" = some (some (.ref aDOUBLE)))
    (lDOUBLE : K.lookup aDOUBLE = some ⟨.type "tuple", odDOUBLE, .seq #[.ref aDOUBLE_0, .ref aDOUBLE_1, .ref aDOUBLE_2, .ref aDOUBLE_3] nDOUBLE, slDOUBLE⟩)
    (lDOUBLE_0 : K.lookup aDOUBLE_0 = some ⟨.type "tuple", odDOUBLE_0, .seq #[.int 60 tDOUBLE_0_0, .int 62 tDOUBLE_0_1] nDOUBLE_0, slDOUBLE_0⟩)
    (lDOUBLE_1 : K.lookup aDOUBLE_1 = some ⟨.type "tuple", odDOUBLE_1, .seq #[.int 60 tDOUBLE_1_0, .int 61 tDOUBLE_1_1] nDOUBLE_1, slDOUBLE_1⟩)
    (lDOUBLE_2 : K.lookup aDOUBLE_2 = some ⟨.type "tuple", odDOUBLE_2, .seq #[.int 62 tDOUBLE_2_0, .int 61 tDOUBLE_2_1] nDOUBLE_2, slDOUBLE_2⟩)
    (lDOUBLE_3 : K.lookup aDOUBLE_3 = some ⟨.type "tuple", odDOUBLE_3, .seq #[.int 124 tDOUBLE_3_0, .int 124 tDOUBLE_3_1] nDOUBLE_3, slDOUBLE_3⟩)
    (zlen : PySem.W.nsIn K mainGlobals "len" = some none)
    (ztuple : PySem.W.nsIn K mainGlobals "tuple" = some none)
    (zVE : PySem.W.nsIn K mainGlobals "ValueError" = some none)
    (vVE : PySem.W.findCls K (.type "ValueError") (.type "type") "__init__" = some (.val (.builtin "ValueError.__init__"))) :
    ∃ fd : FuncData, (∀ (s : Shared) (us : List Value), us.length = (["text"] : List Str).length → BindsTo s fd ⟨us, []⟩ ((["text"] : List Str).zip us)) ∧ ∀ base : Heap, K.In base → base.Ns mainGlobals mg → FnOk P w K mg base CX0 8 fa fd ["text"] (spAns K) := by
  have e := (PySem.W.mg_of X G a_tokens).symm.trans hfa
  cases e
  exact ⟨PySem.W.fnOf "tokens" "tokens" (defArgs s_tokens) (defBody s_tokens) (defScope s_tokens) .none kV_tokens dc_tokens pm_tokens an_tokens cd_tokens ct_tokens, fun s us hu => match us, hu with | [_], _ => .of_eq rfl, fun base _ _ => ok_tokens (T :=
    { aNoToken := CNoToken,
      fNoToken := fNoToken,
      fdNoToken := PySem.W.fnOf "__init__" "NoToken.__init__" (defArgs s_NoToken_init) (defBody s_NoToken_init) (defScope s_NoToken_init) .none kVNoToken dcNoToken pmNoToken anNoToken cdNoToken ctNoToken,
      gNoToken := PySem.W.mg_of X G aNoToken,
      FNoToken := fun_mk (st := s_NoToken_init) lNoToken cNoToken kNoToken,
      bNoToken := (fun_mk (st := s_NoToken_init) lNoToken cNoToken kNoToken).binds (ps := ["self", "place"]) fun _ _ _ _ _ _ us hl => match us, hl with | [_, _], _ => rfl,
      nNoToken_place := nNoToken_place,
      oexNoToken := ⟨⟨nmNoToken, qNoToken, NNoToken, bsNoToken, _, snNoToken, subNoToken, abNoToken, colNoToken, ddNoToken, m0NoToken, m1NoToken, m2NoToken, m3NoToken, m5NoToken, xNoToken, by decide +kernel⟩, saNoToken, eCNoToken, tCNoToken, kCNoToken⟩,
      iNoToken := iNoToken,
      tNoToken := tNoToken,
      xfNoToken := ⟨gaNoToken, ggNoToken, eCNoToken, hCNoToken⟩,
      eNoToken := exm_self eCNoToken iCNoToken tCNoToken sCNoToken,
      aToken := CToken,
      fToken := fToken,
      fdToken := PySem.W.fnOf "__init__" "Token.__init__" (defArgs s_Token_init) (defBody s_Token_init) (defScope s_Token_init) .none kVToken dcToken pmToken anToken cdToken ctToken,
      gToken := PySem.W.mg_of X G aToken,
      FToken := fun_mk (st := s_Token_init) lToken cToken kToken,
      bToken := (fun_mk (st := s_Token_init) lToken cToken kToken).binds (ps := ["self", "kind", "place", "row"]) fun _ _ _ _ _ _ us hl => match us, hl with | [_, _, _, _], _ => rfl,
      nToken_kind := nToken_kind,
      nToken_place := nToken_place,
      nToken_row := nToken_row,
      clToken := ⟨pgToken, hdToken, poToken, saToken⟩,
      mkToken := ⟨mkToken, iToken, yToken, kcToken⟩,
      d_is_digit := ⟨f_is_digit, _, PySem.W.mg_of X G a_is_digit, k_is_digit, fun_mk (st := s_is_digit) l_is_digit c_is_digit k_is_digit, (fun_mk (st := s_is_digit) l_is_digit c_is_digit k_is_digit).binds (ps := ["one"]) fun _ _ _ _ _ _ us hl => match us, hl with | [_], _ => rfl⟩,
      d_is_letter := ⟨f_is_letter, _, PySem.W.mg_of X G a_is_letter, k_is_letter, fun_mk (st := s_is_letter) l_is_letter c_is_letter k_is_letter, (fun_mk (st := s_is_letter) l_is_letter c_is_letter k_is_letter).binds (ps := ["one"]) fun _ _ _ _ _ _ us hl => match us, hl with | [_], _ => rfl⟩,
      d_is_wordly := ⟨f_is_wordly, _, PySem.W.mg_of X G a_is_wordly, k_is_wordly, fun_mk (st := s_is_wordly) l_is_wordly c_is_wordly k_is_wordly, (fun_mk (st := s_is_wordly) l_is_wordly c_is_wordly k_is_wordly).binds (ps := ["one"]) fun _ _ _ _ _ _ us hl => match us, hl with | [_], _ => rfl⟩,
      d_is_hex := ⟨f_is_hex, _, PySem.W.mg_of X G a_is_hex, k_is_hex, fun_mk (st := s_is_hex) l_is_hex c_is_hex k_is_hex, (fun_mk (st := s_is_hex) l_is_hex c_is_hex k_is_hex).binds (ps := ["one"]) fun _ _ _ _ _ _ us hl => match us, hl with | [_], _ => rfl⟩,
      d_small := ⟨f_small, _, PySem.W.mg_of X G a_small, k_small, fun_mk (st := s_small) l_small c_small k_small, (fun_mk (st := s_small) l_small c_small k_small).binds (ps := ["one"]) fun _ _ _ _ _ _ us hl => match us, hl with | [_], _ => rfl⟩,
      d_byte_at := ⟨f_byte_at, _, PySem.W.mg_of X G a_byte_at, k_byte_at, fun_mk (st := s_byte_at) l_byte_at c_byte_at k_byte_at, (fun_mk (st := s_byte_at) l_byte_at c_byte_at k_byte_at).binds (ps := ["text", "at"]) fun _ _ _ _ _ _ us hl => match us, hl with | [_, _], _ => rfl⟩,
      d_behind_digits := ⟨f_behind_digits, _, PySem.W.mg_of X G a_behind_digits, k_behind_digits, fun_mk (st := s_behind_digits) l_behind_digits c_behind_digits k_behind_digits, (fun_mk (st := s_behind_digits) l_behind_digits c_behind_digits k_behind_digits).binds (ps := ["text", "at"]) fun _ _ _ _ _ _ us hl => match us, hl with | [_, _], _ => rfl⟩,
      d_need := ⟨f_need, _, PySem.W.mg_of X G a_need, k_need, fun_mk (st := s_need) l_need c_need k_need, (fun_mk (st := s_need) l_need c_need k_need).binds (ps := ["holds", "place"]) fun _ _ _ _ _ _ us hl => match us, hl with | [_, _], _ => rfl⟩,
      d_is_tail := ⟨f_is_tail, _, PySem.W.mg_of X G a_is_tail, k_is_tail, fun_mk (st := s_is_tail) l_is_tail c_is_tail k_is_tail, (fun_mk (st := s_is_tail) l_is_tail c_is_tail k_is_tail).binds (ps := ["one"]) fun _ _ _ _ _ _ us hl => match us, hl with | [_], _ => rfl⟩,
      d_sign_size := ⟨f_sign_size, _, PySem.W.mg_of X G a_sign_size, k_sign_size, fun_mk (st := s_sign_size) l_sign_size c_sign_size k_sign_size, (fun_mk (st := s_sign_size) l_sign_size c_sign_size k_sign_size).binds (ps := ["row", "at"]) fun _ _ _ _ _ _ us hl => match us, hl with | [_, _], _ => rfl⟩,
      d_is_well_made := ⟨f_is_well_made, _, PySem.W.mg_of X G a_is_well_made, k_is_well_made, fun_mk (st := s_is_well_made) l_is_well_made c_is_well_made k_is_well_made, (fun_mk (st := s_is_well_made) l_is_well_made c_is_well_made k_is_well_made).binds (ps := ["row", "least"]) fun _ _ _ _ _ _ us hl => match us, hl with | [_, _], _ => rfl⟩,
      d_between := ⟨f_between, _, PySem.W.mg_of X G a_between, k_between, fun_mk (st := s_between) l_between c_between k_between, (fun_mk (st := s_between) l_between c_between k_between).binds (ps := ["text", "place"]) fun _ _ _ _ _ _ us hl => match us, hl with | [_, _], _ => rfl⟩,
      d_take_bytes := ⟨f_take_bytes, _, PySem.W.mg_of X G a_take_bytes, k_take_bytes, fun_mk (st := s_take_bytes) l_take_bytes c_take_bytes k_take_bytes, (fun_mk (st := s_take_bytes) l_take_bytes c_take_bytes k_take_bytes).binds (ps := ["text", "place"]) fun _ _ _ _ _ _ us hl => match us, hl with | [_, _], _ => rfl⟩,
      d_take_word := ⟨f_take_word, _, PySem.W.mg_of X G a_take_word, k_take_word, fun_mk (st := s_take_word) l_take_word c_take_word k_take_word, (fun_mk (st := s_take_word) l_take_word c_take_word k_take_word).binds (ps := ["text", "place"]) fun _ _ _ _ _ _ us hl => match us, hl with | [_, _], _ => rfl⟩,
      d_take_quoted := ⟨f_take_quoted, _, PySem.W.mg_of X G a_take_quoted, k_take_quoted, fun_mk (st := s_take_quoted) l_take_quoted c_take_quoted k_take_quoted, (fun_mk (st := s_take_quoted) l_take_quoted c_take_quoted k_take_quoted).binds (ps := ["text", "place"]) fun _ _ _ _ _ _ us hl => match us, hl with | [_, _], _ => rfl⟩,
      d_take_text := ⟨f_take_text, _, PySem.W.mg_of X G a_take_text, k_take_text, fun_mk (st := s_take_text) l_take_text c_take_text k_take_text, (fun_mk (st := s_take_text) l_take_text c_take_text k_take_text).binds (ps := ["text", "place"]) fun _ _ _ _ _ _ us hl => match us, hl with | [_, _], _ => rfl⟩,
      d_digits_number := ⟨f_digits_number, _, PySem.W.mg_of X G a_digits_number, k_digits_number, fun_mk (st := s_digits_number) l_digits_number c_digits_number k_digits_number, (fun_mk (st := s_digits_number) l_digits_number c_digits_number k_digits_number).binds (ps := ["row"]) fun _ _ _ _ _ _ us hl => match us, hl with | [_], _ => rfl⟩,
      d_take_given := ⟨f_take_given, _, PySem.W.mg_of X G a_take_given, k_take_given, fun_mk (st := s_take_given) l_take_given c_take_given k_take_given, (fun_mk (st := s_take_given) l_take_given c_take_given k_take_given).binds (ps := ["text", "place"]) fun _ _ _ _ _ _ us hl => match us, hl with | [_, _], _ => rfl⟩,
      d_behind_exponent := ⟨f_behind_exponent, _, PySem.W.mg_of X G a_behind_exponent, k_behind_exponent, fun_mk (st := s_behind_exponent) l_behind_exponent c_behind_exponent k_behind_exponent, (fun_mk (st := s_behind_exponent) l_behind_exponent c_behind_exponent k_behind_exponent).binds (ps := ["text", "at"]) fun _ _ _ _ _ _ us hl => match us, hl with | [_, _], _ => rfl⟩,
      d_take_number := ⟨f_take_number, _, PySem.W.mg_of X G a_take_number, k_take_number, fun_mk (st := s_take_number) l_take_number c_take_number k_take_number, (fun_mk (st := s_take_number) l_take_number c_take_number k_take_number).binds (ps := ["text", "place"]) fun _ _ _ _ _ _ us hl => match us, hl with | [_, _], _ => rfl⟩,
      d_take_sign := ⟨f_take_sign, _, PySem.W.mg_of X G a_take_sign, k_take_sign, fun_mk (st := s_take_sign) l_take_sign c_take_sign k_take_sign, (fun_mk (st := s_take_sign) l_take_sign c_take_sign k_take_sign).binds (ps := ["text", "place"]) fun _ _ _ _ _ _ us hl => match us, hl with | [_, _], _ => rfl⟩,
      d_take_token := ⟨f_take_token, _, PySem.W.mg_of X G a_take_token, k_take_token, fun_mk (st := s_take_token) l_take_token c_take_token k_take_token, (fun_mk (st := s_take_token) l_take_token c_take_token k_take_token).binds (ps := ["text", "place"]) fun _ _ _ _ _ _ us hl => match us, hl with | [_, _], _ => rfl⟩,
      d_behind_remark := ⟨f_behind_remark, _, PySem.W.mg_of X G a_behind_remark, k_behind_remark, fun_mk (st := s_behind_remark) l_behind_remark c_behind_remark k_behind_remark, (fun_mk (st := s_behind_remark) l_behind_remark c_behind_remark k_behind_remark).binds (ps := ["text", "place"]) fun _ _ _ _ _ _ us hl => match us, hl with | [_, _], _ => rfl⟩,
      d_tokens_of := ⟨f_tokens_of, _, PySem.W.mg_of X G a_tokens_of, k_tokens_of, fun_mk (st := s_tokens_of) l_tokens_of c_tokens_of k_tokens_of, (fun_mk (st := s_tokens_of) l_tokens_of c_tokens_of k_tokens_of).binds (ps := ["text"]) fun _ _ _ _ _ _ us hl => match us, hl with | [_], _ => rfl⟩,
      d_tokens := ⟨fa, _, PySem.W.mg_of X G a_tokens, k_tokens, fun_mk (st := s_tokens) l_tokens c_tokens k_tokens, (fun_mk (st := s_tokens) l_tokens c_tokens k_tokens).binds (ps := ["text"]) fun _ _ _ _ _ _ us hl => match us, hl with | [_], _ => rfl⟩,
      kWORD := kWORD,
      gWORD := PySem.W.mg_of X G aWORD,
      kQUOTED := kQUOTED,
      gQUOTED := PySem.W.mg_of X G aQUOTED,
      kNUMBER := kNUMBER,
      gNUMBER := PySem.W.mg_of X G aNUMBER,
      kTEXT := kTEXT,
      gTEXT := PySem.W.mg_of X G aTEXT,
      kBYTES := kBYTES,
      gBYTES := PySem.W.mg_of X G aBYTES,
      kGIVEN := kGIVEN,
      gGIVEN := PySem.W.mg_of X G aGIVEN,
      kSIGN := kSIGN,
      gSIGN := PySem.W.mg_of X G aSIGN,
      kEND := kEND,
      gEND := PySem.W.mg_of X G aEND,
      kMOST_WORD := kMOST_WORD,
      gMOST_WORD := PySem.W.mg_of X G aMOST_WORD,
      kMOST_NAME := kMOST_NAME,
      gMOST_NAME := PySem.W.mg_of X G aMOST_NAME,
      kMOST_TEXT := kMOST_TEXT,
      gMOST_TEXT := PySem.W.mg_of X G aMOST_TEXT,
      kMOST_HEX := kMOST_HEX,
      gMOST_HEX := PySem.W.mg_of X G aMOST_HEX,
      kMOST_GIVEN := kMOST_GIVEN,
      gMOST_GIVEN := PySem.W.mg_of X G aMOST_GIVEN,
      kLINE_END := kLINE_END,
      gLINE_END := PySem.W.mg_of X G aLINE_END,
      kMINUS := kMINUS,
      gMINUS := PySem.W.mg_of X G aMINUS,
      kPOINT := kPOINT,
      gPOINT := PySem.W.mg_of X G aPOINT,
      kAPOSTROPHE := kAPOSTROPHE,
      gAPOSTROPHE := PySem.W.mg_of X G aAPOSTROPHE,
      kQUOTES := kQUOTES,
      gQUOTES := PySem.W.mg_of X G aQUOTES,
      kDOLLAR := kDOLLAR,
      gDOLLAR := PySem.W.mg_of X G aDOLLAR,
      kLOW_LINE := kLOW_LINE,
      gLOW_LINE := PySem.W.mg_of X G aLOW_LINE,
      kMOST_BYTES := kMOST_BYTES,
      gMOST_BYTES := PySem.W.mg_of X G aMOST_BYTES,
      kTOO_LONG := kTOO_LONG,
      gTOO_LONG := PySem.W.mg_of X G aTOO_LONG,
      aBLANKS := aBLANKS,
      sBLANKS := fun H => .inr ⟨_, _, _, lBLANKS, rfl, rfl, (by show 4 ≤ sizeLine; decide), .cons ⟨_, rfl⟩ (.cons ⟨_, rfl⟩ (.cons ⟨_, rfl⟩ (.cons ⟨_, rfl⟩ (.nil))))⟩,
      gBLANKS := PySem.W.mg_of X G zBLANKS,
      aSINGLE := aSINGLE,
      sSINGLE := fun H => .inr ⟨_, _, _, lSINGLE, rfl, rfl, (by show 12 ≤ sizeLine; decide), .cons ⟨_, rfl⟩ (.cons ⟨_, rfl⟩ (.cons ⟨_, rfl⟩ (.cons ⟨_, rfl⟩ (.cons ⟨_, rfl⟩ (.cons ⟨_, rfl⟩ (.cons ⟨_, rfl⟩ (.cons ⟨_, rfl⟩ (.cons ⟨_, rfl⟩ (.cons ⟨_, rfl⟩ (.cons ⟨_, rfl⟩ (.cons ⟨_, rfl⟩ (.nil))))))))))))⟩,
      gSINGLE := PySem.W.mg_of X G zSINGLE,
      aDOUBLE := aDOUBLE,
      sDOUBLE := fun H => .inr ⟨_, _, _, lDOUBLE, rfl, rfl, (by show 4 ≤ sizeLine; decide), .cons rfl (.cons rfl (.cons rfl (.cons rfl (.nil))))⟩,
      aDOUBLE_0 := aDOUBLE_0,
      sDOUBLE_0 := fun H => .inr ⟨_, _, _, lDOUBLE_0, rfl, rfl, (by show 2 ≤ sizeLine; decide), .cons ⟨_, rfl⟩ (.cons ⟨_, rfl⟩ (.nil))⟩,
      aDOUBLE_1 := aDOUBLE_1,
      sDOUBLE_1 := fun H => .inr ⟨_, _, _, lDOUBLE_1, rfl, rfl, (by show 2 ≤ sizeLine; decide), .cons ⟨_, rfl⟩ (.cons ⟨_, rfl⟩ (.nil))⟩,
      aDOUBLE_2 := aDOUBLE_2,
      sDOUBLE_2 := fun H => .inr ⟨_, _, _, lDOUBLE_2, rfl, rfl, (by show 2 ≤ sizeLine; decide), .cons ⟨_, rfl⟩ (.cons ⟨_, rfl⟩ (.nil))⟩,
      aDOUBLE_3 := aDOUBLE_3,
      sDOUBLE_3 := fun H => .inr ⟨_, _, _, lDOUBLE_3, rfl, rfl, (by show 2 ≤ sizeLine; decide), .cons ⟨_, rfl⟩ (.cons ⟨_, rfl⟩ (.nil))⟩,
      gDOUBLE := PySem.W.mg_of X G zDOUBLE,
      nlen := PySem.W.mg_none_of X G zlen,
      ntuple := PySem.W.mg_none_of X G ztuple,
      nVE := PySem.W.mg_none_of X G zVE,
      vVE := vVE })⟩
end Tk
open PySem PySem.W PyProof.Rows
set_option maxRecDepth 100000 in
set_option maxHeartbeats 16000000 in
theorem PySem.Challenge.cw_strictask_s03_tokens_holds : PySem.Challenge.rw_strictask_s03_tokens.Holds := by
  w_on; k_headS; (case hw => exact ⟨[.list []], by decide +kernel, by decide +kernel⟩)
  k_fillS
  refine L2.walk_specK (r := PySem.Challenge.rw_strictask_s03_tokens) (k := 8) (CX := L2.CX0) (ps := ["text"]) (sp := Tk.spAns) (by decide +kernel) rfl rfl ⟨rfl, by decide, by decide⟩ (fun w h Y => PySem.W.kIn_of Y) ?F ?S (fun _ _ _ _ z => z)
  case F =>
    intro w mg fa h Y KX G hmg
    refine' Tk.all_mk KX G hmg ?aNoToken ?xNoToken ?saNoToken ?gaNoToken ?ggNoToken ?nNoToken_place ?iNoToken ?tNoToken ?lNoToken ?cNoToken ?kNoToken ?kCNoToken ?eCNoToken ?tCNoToken ?hCNoToken ?iCNoToken ?sCNoToken ?aToken ?pgToken ?hdToken ?poToken ?saToken ?mkToken ?kcToken ?nToken_kind ?nToken_place ?nToken_row ?iToken ?yToken ?lToken ?cToken ?kToken ?a_is_digit ?l_is_digit ?c_is_digit ?k_is_digit ?a_is_letter ?l_is_letter ?c_is_letter ?k_is_letter ?a_is_wordly ?l_is_wordly ?c_is_wordly ?k_is_wordly ?a_is_hex ?l_is_hex ?c_is_hex ?k_is_hex ?a_small ?l_small ?c_small ?k_small ?a_byte_at ?l_byte_at ?c_byte_at ?k_byte_at ?a_behind_digits ?l_behind_digits ?c_behind_digits ?k_behind_digits ?a_need ?l_need ?c_need ?k_need ?a_is_tail ?l_is_tail ?c_is_tail ?k_is_tail ?a_sign_size ?l_sign_size ?c_sign_size ?k_sign_size ?a_is_well_made ?l_is_well_made ?c_is_well_made ?k_is_well_made ?a_between ?l_between ?c_between ?k_between ?a_take_bytes ?l_take_bytes ?c_take_bytes ?k_take_bytes ?a_take_word ?l_take_word ?c_take_word ?k_take_word ?a_take_quoted ?l_take_quoted ?c_take_quoted ?k_take_quoted ?a_take_text ?l_take_text ?c_take_text ?k_take_text ?a_digits_number ?l_digits_number ?c_digits_number ?k_digits_number ?a_take_given ?l_take_given ?c_take_given ?k_take_given ?a_behind_exponent ?l_behind_exponent ?c_behind_exponent ?k_behind_exponent ?a_take_number ?l_take_number ?c_take_number ?k_take_number ?a_take_sign ?l_take_sign ?c_take_sign ?k_take_sign ?a_take_token ?l_take_token ?c_take_token ?k_take_token ?a_behind_remark ?l_behind_remark ?c_behind_remark ?k_behind_remark ?a_tokens_of ?l_tokens_of ?c_tokens_of ?k_tokens_of ?a_tokens ?l_tokens ?c_tokens ?k_tokens ?aWORD ?aQUOTED ?aNUMBER ?aTEXT ?aBYTES ?aGIVEN ?aSIGN ?aEND ?aMOST_WORD ?aMOST_NAME ?aMOST_TEXT ?aMOST_HEX ?aMOST_GIVEN ?aLINE_END ?aMINUS ?aPOINT ?aAPOSTROPHE ?aQUOTES ?aDOLLAR ?aLOW_LINE ?aMOST_BYTES ?aTOO_LONG ?zBLANKS ?lBLANKS ?zSINGLE ?lSINGLE ?zDOUBLE ?lDOUBLE ?lDOUBLE_0 ?lDOUBLE_1 ?lDOUBLE_2 ?lDOUBLE_3 ?zlen ?ztuple ?zVE ?vVE
    (case aNoToken => k_is); (case xNoToken => k_is); (case saNoToken => k_is); (case gaNoToken => k_is); (case ggNoToken => k_is); (case nNoToken_place => k_is)
    (case iNoToken => k_is); (case tNoToken => k_is); (case lNoToken => k_is); (case cNoToken => k_is); (case kNoToken => k_is); (case kCNoToken => k_is)
    (case eCNoToken => k_is); (case tCNoToken => k_is); (case hCNoToken => k_is); (case iCNoToken => k_is); (case sCNoToken => first | rfl | k_is); (case aToken => k_is)
    (case pgToken => k_is); (case hdToken => k_is); (case poToken => k_is); (case saToken => k_is); (case mkToken => k_is); (case kcToken => k_is)
    (case nToken_kind => k_is); (case nToken_place => k_is); (case nToken_row => k_is); (case iToken => k_is); (case yToken => k_is); (case lToken => k_is)
    (case cToken => k_is); (case kToken => k_is); (case a_is_digit => k_is); (case l_is_digit => k_is); (case c_is_digit => k_is); (case k_is_digit => k_is)
    (case a_is_letter => k_is); (case l_is_letter => k_is); (case c_is_letter => k_is); (case k_is_letter => k_is); (case a_is_wordly => k_is); (case l_is_wordly => k_is)
    (case c_is_wordly => k_is); (case k_is_wordly => k_is); (case a_is_hex => k_is); (case l_is_hex => k_is); (case c_is_hex => k_is); (case k_is_hex => k_is)
    (case a_small => k_is); (case l_small => k_is); (case c_small => k_is); (case k_small => k_is); (case a_byte_at => k_is); (case l_byte_at => k_is)
    (case c_byte_at => k_is); (case k_byte_at => k_is); (case a_behind_digits => k_is); (case l_behind_digits => k_is); (case c_behind_digits => k_is); (case k_behind_digits => k_is)
    (case a_need => k_is); (case l_need => k_is); (case c_need => k_is); (case k_need => k_is); (case a_is_tail => k_is); (case l_is_tail => k_is)
    (case c_is_tail => k_is); (case k_is_tail => k_is); (case a_sign_size => k_is); (case l_sign_size => k_is); (case c_sign_size => k_is); (case k_sign_size => k_is)
    (case a_is_well_made => k_is); (case l_is_well_made => k_is); (case c_is_well_made => k_is); (case k_is_well_made => k_is); (case a_between => k_is); (case l_between => k_is)
    (case c_between => k_is); (case k_between => k_is); (case a_take_bytes => k_is); (case l_take_bytes => k_is); (case c_take_bytes => k_is); (case k_take_bytes => k_is)
    (case a_take_word => k_is); (case l_take_word => k_is); (case c_take_word => k_is); (case k_take_word => k_is); (case a_take_quoted => k_is); (case l_take_quoted => k_is)
    (case c_take_quoted => k_is); (case k_take_quoted => k_is); (case a_take_text => k_is); (case l_take_text => k_is); (case c_take_text => k_is); (case k_take_text => k_is)
    (case a_digits_number => k_is); (case l_digits_number => k_is); (case c_digits_number => k_is); (case k_digits_number => k_is); (case a_take_given => k_is); (case l_take_given => k_is)
    (case c_take_given => k_is); (case k_take_given => k_is); (case a_behind_exponent => k_is); (case l_behind_exponent => k_is); (case c_behind_exponent => k_is); (case k_behind_exponent => k_is)
    (case a_take_number => k_is); (case l_take_number => k_is); (case c_take_number => k_is); (case k_take_number => k_is); (case a_take_sign => k_is); (case l_take_sign => k_is)
    (case c_take_sign => k_is); (case k_take_sign => k_is); (case a_take_token => k_is); (case l_take_token => k_is); (case c_take_token => k_is); (case k_take_token => k_is)
    (case a_behind_remark => k_is); (case l_behind_remark => k_is); (case c_behind_remark => k_is); (case k_behind_remark => k_is); (case a_tokens_of => k_is); (case l_tokens_of => k_is)
    (case c_tokens_of => k_is); (case k_tokens_of => k_is); (case a_tokens => k_is); (case l_tokens => k_is); (case c_tokens => k_is); (case k_tokens => k_is)
    (case aWORD => k_is); (case aQUOTED => k_is); (case aNUMBER => k_is); (case aTEXT => k_is); (case aBYTES => k_is); (case aGIVEN => k_is)
    (case aSIGN => k_is); (case aEND => k_is); (case aMOST_WORD => k_is); (case aMOST_NAME => k_is); (case aMOST_TEXT => k_is); (case aMOST_HEX => k_is)
    (case aMOST_GIVEN => k_is); (case aLINE_END => k_is); (case aMINUS => k_is); (case aPOINT => k_is); (case aAPOSTROPHE => k_is); (case aQUOTES => k_is)
    (case aDOLLAR => k_is); (case aLOW_LINE => k_is); (case aMOST_BYTES => k_is); (case aTOO_LONG => k_is); (case zBLANKS => k_is); (case lBLANKS => k_is)
    (case zSINGLE => k_is); (case lSINGLE => k_is); (case zDOUBLE => k_is); (case lDOUBLE => k_is); (case lDOUBLE_0 => k_is); (case lDOUBLE_1 => k_is)
    (case lDOUBLE_2 => k_is); (case lDOUBLE_3 => k_is); (case zlen => k_is); (case ztuple => k_is); (case zVE => k_is); (case vVE => k_is)
  case S =>
    intro K H xs a hO hwi hask hx
    cases hx with
    | cons h1 h2 =>
      cases h2
      cases h1 with
      | lst hs ha =>
        have e := L2.ints_dw a.1 _ ha
        subst e
        have hb : ∀ z ∈ a.1, 0 ≤ z ∧ z ≤ 255 := Tk.within_bytes a hwi
        refine ⟨_, Si22Neutral.bytesOf a.1, rfl, by rw [Tk.bytes_tx _ hb]; exact hs, fun H' p hp => .lst (L2.SqL.of hp) ?_⟩
        rw [Tk.ans_eq]
        exact L2.dw_ints _
#print axioms PySem.Challenge.cw_strictask_s03_tokens_holds
