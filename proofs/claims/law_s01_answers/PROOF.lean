import PyProof.Rows.All
import Wide.All
import OpenK.AllK
import Wide.FinOn
import Open.SpecLaws
import KE.OsGo
import HandS.ForSpec
import HandS.Comp
import HandS.Codes
import HandS.Conv
import HandS.NoneIn
import HandS.TupAny
import HandS.Style
import KE.SortData
import KE.SortKeyHeap
import HandS.SortRule
import HandS.SortKw
import PySem.Challenge.RW_soundlex_s01_answers
set_option Elab.async false
set_option linter.all false
set_option maxRecDepth 100000
set_option maxHeartbeats 4000000
/-! soundlex.words.answers keeps its specification: the walk (namespace Sx) and the plain law (namespace Lx). -/
/-! ## Lx1 -/
/-! Lx1: characters and UTF-8: the program's way against the specification's. -/
namespace Lx
open Sy

/-- the bytes of a character, as numbers -/
def cb (c : Nat) : List Nat :=
  if c < 128 then [c] else if c < 2048 then [192 + c / 64, 128 + c % 64] else if c < 65536 then [224 + c / 4096, 128 + c / 64 % 64, 128 + c % 64]
    else [240 + c / 262144, 128 + c / 4096 % 64, 128 + c / 64 % 64, 128 + c % 64]
def cbs (l : List Nat) : List Nat := l.flatMap cb
/-- bytes as numbers -/
def bn (b : Bytes) : List Nat := b.map UInt8.toNat
theorem utf8_cb (c : Nat) : utf8 c = (cb c).map UInt8.ofNat := by
  unfold utf8 cb
  rfl
theorem isChar_lt {c : Nat} (h : isChar c = true) : c < 1114112 := by
  unfold isChar at h
  rw [Bool.and_eq_true] at h
  exact of_decide_eq_true h.1
theorem cb_lt {c : Nat} (h : c < 1114112) : ∀ x ∈ cb c, x < 256 := by
  intro x hx
  unfold cb at hx
  split at hx
  · simp only [List.mem_cons, List.not_mem_nil, or_false] at hx; omega
  · split at hx
    · simp only [List.mem_cons, List.not_mem_nil, or_false] at hx; omega
    · split at hx
      · simp only [List.mem_cons, List.not_mem_nil, or_false] at hx; omega
      · simp only [List.mem_cons, List.not_mem_nil, or_false] at hx; omega
theorem map_ofNat_toNat {l : List Nat} (h : ∀ x ∈ l, x < 256) : (l.map UInt8.ofNat).map UInt8.toNat = l := by
  rw [List.map_map]
  conv => rhs; rw [← List.map_id l]
  refine List.map_congr_left fun x hx => ?_
  show (UInt8.ofNat x).toNat = x
  rw [UInt8.toNat_ofNat']
  exact Nat.mod_eq_of_lt (h x hx)
theorem bn_utf8 {c : Nat} (h : isChar c = true) : bn (utf8 c) = cb c := by
  unfold bn
  rw [utf8_cb]
  exact map_ofNat_toNat (cb_lt (isChar_lt h))
theorem bn_utf8s {t : Text} (h : isText t = true) : bn (utf8s t) = cbs t := by
  induction t with
  | nil => rfl
  | cons c r ih =>
    unfold isText at h
    rw [List.all_cons, Bool.and_eq_true] at h
    show bn (utf8 c ++ utf8s r) = cb c ++ cbs r
    unfold bn at ih ⊢
    rw [List.map_append, ih h.2]
    exact congrArg (· ++ cbs r) (bn_utf8 h.1)
theorem bn_inj {a b : Bytes} (h : bn a = bn b) : a = b := by
  unfold bn at h
  exact (List.map_inj_right (fun x y e => UInt8.toNat_inj.mp e)).mp h
theorem bn_lt (b : Bytes) : ∀ x ∈ bn b, x < 256 := by
  intro x hx
  obtain ⟨c, _, rfl⟩ := List.mem_map.mp hx
  exact c.toNat_lt
theorem bn_len (b : Bytes) : (bn b).length = b.length := List.length_map _
theorem bn_app (a b : Bytes) : bn (a ++ b) = bn a ++ bn b := List.map_append
theorem bn_ofNat {l : List Nat} (h : ∀ x ∈ l, x < 256) : bn (l.map UInt8.ofNat) = l := map_ofNat_toNat h

/-- how many bytes a character has that begins with a byte -/
def lenBy (b : Nat) : Nat := if b < 128 then 1 else if 192 ≤ b ∧ b < 224 then 2 else if 224 ≤ b ∧ b < 240 then 3 else if 240 ≤ b ∧ b < 248 then 4 else 0
def begun (b long : Nat) : Nat := if long = 1 then b else if long = 2 then b - 192 else if long = 3 then b - 224 else b - 240
def cont (n : Nat) : List Nat → Option Nat
  | [] => some n
  | b :: r => if 128 ≤ b ∧ b < 192 then cont (64 * n + b - 128) r else none
/-- the first character of bytes and how many bytes it has -/
def dec (l : List Nat) : Option (Nat × Nat) := match l with
  | [] => none
  | c :: r => if lenBy c = 0 ∨ r.length + 1 < lenBy c then none else match cont (begun c (lenBy c)) (r.take (lenBy c - 1)) with
    | none => none
    | some n => if isChar n = true ∧ (cb n).length = lenBy c then some (n, lenBy c) else none
theorem cb_pos (c : Nat) : 1 ≤ (cb c).length ∧ (cb c).length ≤ 4 := by
  unfold cb
  split
  · exact ⟨by simp, by simp⟩
  · split
    · exact ⟨by simp, by simp⟩
    · split
      · exact ⟨by simp, by simp⟩
      · exact ⟨by simp, by simp⟩
theorem lenBy_cb {c : Nat} (h : c < 1114112) : ∃ b r, cb c = b :: r ∧ lenBy b = (cb c).length := by
  unfold cb
  by_cases h1 : c < 128
  · rw [if_pos h1]; exact ⟨_, _, rfl, by unfold lenBy; rw [if_pos h1]; rfl⟩
  · rw [if_neg h1]
    by_cases h2 : c < 2048
    · rw [if_pos h2]; refine ⟨_, _, rfl, ?_⟩; unfold lenBy; rw [if_neg (by omega), if_pos (by omega)]; rfl
    · rw [if_neg h2]
      by_cases h3 : c < 65536
      · rw [if_pos h3]; refine ⟨_, _, rfl, ?_⟩; unfold lenBy; rw [if_neg (by omega), if_neg (by omega), if_pos (by omega)]; rfl
      · rw [if_neg h3]; refine ⟨_, _, rfl, ?_⟩; unfold lenBy; rw [if_neg (by omega), if_neg (by omega), if_neg (by omega), if_pos (by omega)]; rfl
theorem lenBy_le (b : Nat) : lenBy b ≤ 4 := by
  unfold lenBy
  split
  · decide
  · split
    · decide
    · split
      · decide
      · split <;> decide
/-- decoding what was encoded -/
theorem dec_cb {c : Nat} (h : isChar c = true) (r : List Nat) : dec (cb c ++ r) = some (c, (cb c).length) := by
  have hlt := isChar_lt h
  have key : ∀ l : List Nat, cb c = l → dec (l ++ r) = some (c, l.length) := by
    intro l hl
    have hcb := hl
    unfold cb at hl
    by_cases h1 : c < 128
    · rw [if_pos h1] at hl
      subst hl
      have e : lenBy c = 1 := by unfold lenBy; rw [if_pos h1]
      show (if lenBy c = 0 ∨ ([] ++ r).length + 1 < lenBy c then none else _) = _
      rw [e, if_neg (by simp)]
      show (if isChar c = true ∧ (cb c).length = 1 then some (c, 1) else none) = _
      rw [if_pos ⟨h, by rw [hcb]; rfl⟩]
      rfl
    · rw [if_neg h1] at hl
      by_cases h2 : c < 2048
      · rw [if_pos h2] at hl
        subst hl
        have e : lenBy (192 + c / 64) = 2 := by unfold lenBy; rw [if_neg (by omega), if_pos (by omega)]
        show (if lenBy (192 + c / 64) = 0 ∨ ([128 + c % 64] ++ r).length + 1 < lenBy (192 + c / 64) then none else _) = _
        rw [e, if_neg (by simp)]
        show (match (if 128 ≤ 128 + c % 64 ∧ 128 + c % 64 < 192 then cont (64 * (192 + c / 64 - 192) + (128 + c % 64) - 128) [] else none) with | none => none | some n => _) = _
        rw [if_pos (by omega), show 64 * (192 + c / 64 - 192) + (128 + c % 64) - 128 = c from by omega]
        show (if isChar c = true ∧ (cb c).length = 2 then some (c, 2) else none) = _
        rw [if_pos ⟨h, by rw [hcb]; rfl⟩]
        rfl
      · rw [if_neg h2] at hl
        by_cases h3 : c < 65536
        · rw [if_pos h3] at hl
          subst hl
          have e : lenBy (224 + c / 4096) = 3 := by unfold lenBy; rw [if_neg (by omega), if_neg (by omega), if_pos (by omega)]
          show (if lenBy (224 + c / 4096) = 0 ∨ ([128 + c / 64 % 64, 128 + c % 64] ++ r).length + 1 < lenBy (224 + c / 4096) then none else _) = _
          rw [e, if_neg (by simp)]
          show (match (if 128 ≤ 128 + c / 64 % 64 ∧ 128 + c / 64 % 64 < 192 then (if 128 ≤ 128 + c % 64 ∧ 128 + c % 64 < 192 then cont (64 * (64 * (224 + c / 4096 - 224) + (128 + c / 64 % 64) - 128) + (128 + c % 64) - 128) [] else none) else none) with | none => none | some n => _) = _
          rw [if_pos (by omega), if_pos (by omega), show 64 * (64 * (224 + c / 4096 - 224) + (128 + c / 64 % 64) - 128) + (128 + c % 64) - 128 = c from by omega]
          show (if isChar c = true ∧ (cb c).length = 3 then some (c, 3) else none) = _
          rw [if_pos ⟨h, by rw [hcb]; rfl⟩]
          rfl
        · rw [if_neg h3] at hl
          subst hl
          have e : lenBy (240 + c / 262144) = 4 := by unfold lenBy; rw [if_neg (by omega), if_neg (by omega), if_neg (by omega), if_pos (by omega)]
          show (if lenBy (240 + c / 262144) = 0 ∨ ([128 + c / 4096 % 64, 128 + c / 64 % 64, 128 + c % 64] ++ r).length + 1 < lenBy (240 + c / 262144) then none else _) = _
          rw [e, if_neg (by simp)]
          show (match (if 128 ≤ 128 + c / 4096 % 64 ∧ 128 + c / 4096 % 64 < 192 then (if 128 ≤ 128 + c / 64 % 64 ∧ 128 + c / 64 % 64 < 192 then (if 128 ≤ 128 + c % 64 ∧ 128 + c % 64 < 192 then cont (64 * (64 * (64 * (240 + c / 262144 - 240) + (128 + c / 4096 % 64) - 128) + (128 + c / 64 % 64) - 128) + (128 + c % 64) - 128) [] else none) else none) else none) with | none => none | some n => _) = _
          rw [if_pos (by omega), if_pos (by omega), if_pos (by omega), show 64 * (64 * (64 * (240 + c / 262144 - 240) + (128 + c / 4096 % 64) - 128) + (128 + c / 64 % 64) - 128) + (128 + c % 64) - 128 = c from by omega]
          show (if isChar c = true ∧ (cb c).length = 4 then some (c, 4) else none) = _
          rw [if_pos ⟨h, by rw [hcb]; rfl⟩]
          rfl
  exact key _ rfl
theorem cont_some {n v : Nat} : ∀ {l : List Nat}, cont n l = some v → ∀ b ∈ l, 128 ≤ b ∧ b < 192
  | [], _, b, hb => by cases hb
  | a :: r, h, b, hb => by
    unfold cont at h
    split at h
    · rename_i ha
      rcases List.mem_cons.mp hb with e | hb
      · rw [e]; exact ha
      · exact cont_some h b hb
    · cases h
/-- what was decoded is encoded so -/
theorem dec_some {l : List Nat} {v k : Nat} (h : dec l = some (v, k)) : isChar v = true ∧ k = (cb v).length ∧ l = cb v ++ l.drop k ∧ 1 ≤ k ∧ k ≤ 4 := by
  unfold dec at h
  split at h
  · cases h
  · rename_i c r
    split at h
    · cases h
    · rename_i hk
      split at h
      · cases h
      · rename_i n hn
        split at h
        · rename_i hh
          obtain ⟨h1, h2⟩ := hh
          cases h
          have hle := lenBy_le c
          have hk1 : 1 ≤ lenBy c := by omega
          refine ⟨h1, h2.symm, ?_, hk1, hle⟩
          have hlt := isChar_lt h1
          have hs := cont_some hn
          have hlen : lenBy c - 1 ≤ r.length := by omega
          have ek : lenBy c = 1 ∨ lenBy c = 2 ∨ lenBy c = 3 ∨ lenBy c = 4 := by omega
          have lb : lenBy c = lenBy c := rfl
          conv at lb => lhs; unfold lenBy
          rcases ek with e | e | e | e
          · rw [e] at hn h2 ⊢
            have hv : v = c := by
              have : cont (begun c 1) [] = some v := hn
              exact (Option.some.inj this).symm
            subst hv
            have hc : v < 128 := by
              rw [e] at lb
              split at lb
              · assumption
              · split at lb
                · cases lb
                · split at lb
                  · cases lb
                  · split at lb <;> cases lb
            unfold cb
            rw [if_pos hc]
            rfl
          · rw [e] at hn h2 hs hlen ⊢
            match r, hlen with
            | b1 :: r, _ =>
              have hb1 := hs b1 (by simp)
              have hc : 192 ≤ c ∧ c < 224 := by
                rw [e] at lb
                split at lb
                · cases lb
                · split at lb
                  · assumption
                  · split at lb
                    · cases lb
                    · split at lb <;> cases lb
              have hv : 64 * (c - 192) + b1 - 128 = v := by
                have : (if 128 ≤ b1 ∧ b1 < 192 then some (64 * (c - 192) + b1 - 128) else none) = some v := hn
                rw [if_pos hb1] at this
                exact Option.some.inj this
              have hcb : cb v = [c, b1] := by
                unfold cb at h2 ⊢
                split at h2
                · cases h2
                · split at h2
                  · rename_i g1 g2
                    rw [if_neg g1, if_pos g2, show 192 + v / 64 = c from by omega, show 128 + v % 64 = b1 from by omega]
                  · split at h2
                    · cases h2
                    · cases h2
              rw [hcb]
              rfl
          · rw [e] at hn h2 hs hlen ⊢
            match r, hlen with
            | b1 :: b2 :: r, _ =>
              have hb1 := hs b1 (by simp)
              have hb2 := hs b2 (by simp)
              have hc : 224 ≤ c ∧ c < 240 := by
                rw [e] at lb
                split at lb
                · cases lb
                · split at lb
                  · cases lb
                  · split at lb
                    · assumption
                    · split at lb <;> cases lb
              have hv : 64 * (64 * (c - 224) + b1 - 128) + b2 - 128 = v := by
                have : (if 128 ≤ b1 ∧ b1 < 192 then (if 128 ≤ b2 ∧ b2 < 192 then some (64 * (64 * (c - 224) + b1 - 128) + b2 - 128) else none) else none) = some v := hn
                rw [if_pos hb1, if_pos hb2] at this
                exact Option.some.inj this
              have hcb : cb v = [c, b1, b2] := by
                unfold cb at h2 ⊢
                split at h2
                · cases h2
                · split at h2
                  · cases h2
                  · split at h2
                    · rename_i g1 g2 g3
                      rw [if_neg g1, if_neg g2, if_pos g3, show 224 + v / 4096 = c from by omega, show 128 + v / 64 % 64 = b1 from by omega, show 128 + v % 64 = b2 from by omega]
                    · cases h2
              rw [hcb]
              rfl
          · rw [e] at hn h2 hs hlen ⊢
            match r, hlen with
            | b1 :: b2 :: b3 :: r, _ =>
              have hb1 := hs b1 (by simp)
              have hb2 := hs b2 (by simp)
              have hb3 := hs b3 (by simp)
              have hc : 240 ≤ c ∧ c < 248 := by
                rw [e] at lb
                split at lb
                · cases lb
                · split at lb
                  · cases lb
                  · split at lb
                    · cases lb
                    · split at lb
                      · assumption
                      · cases lb
              have hv : 64 * (64 * (64 * (c - 240) + b1 - 128) + b2 - 128) + b3 - 128 = v := by
                have : (if 128 ≤ b1 ∧ b1 < 192 then (if 128 ≤ b2 ∧ b2 < 192 then (if 128 ≤ b3 ∧ b3 < 192 then some (64 * (64 * (64 * (c - 240) + b1 - 128) + b2 - 128) + b3 - 128) else none) else none) else none) = some v := hn
                rw [if_pos hb1, if_pos hb2, if_pos hb3] at this
                exact Option.some.inj this
              have hcb : cb v = [c, b1, b2, b3] := by
                unfold cb at h2 ⊢
                split at h2
                · cases h2
                · split at h2
                  · cases h2
                  · split at h2
                    · cases h2
                    · rename_i g1 g2 g3
                      rw [if_neg g1, if_neg g2, if_neg g3, show 240 + v / 262144 = c from by omega, show 128 + v / 4096 % 64 = b1 from by omega, show 128 + v / 64 % 64 = b2 from by omega, show 128 + v % 64 = b3 from by omega]
              rw [hcb]
              rfl
        · cases h
end Lx
/-! ## Lx2 -/
/-! Lx2: the first character of bytes, a text from bytes: the program's way is the specification's. -/
namespace Lx
open Sy

theorem utf8_len {c : Nat} : (utf8 c).length = (cb c).length := by rw [utf8_cb, List.length_map]
theorem getD_bn : ∀ (b : Bytes) (i : Nat), (b.getD i 0).toNat = (bn b).getD i 0
  | [], i => by simp [bn]
  | c :: r, 0 => by simp [bn]
  | c :: r, i + 1 => by
    have := getD_bn r i
    simpa [bn] using this
def valN (n : Nat) (l : List Nat) : Nat :=
  if n = 1 then l.getD 0 0 else if n = 2 then (l.getD 0 0 - 0xC0) * 64 + (l.getD 1 0 - 0x80) else if n = 3 then (l.getD 0 0 - 0xE0) * 4096 + (l.getD 1 0 - 0x80) * 64 + (l.getD 2 0 - 0x80) else (l.getD 0 0 - 0xF0) * 262144 + (l.getD 1 0 - 0x80) * 4096 + (l.getD 2 0 - 0x80) * 64 + (l.getD 3 0 - 0x80)
theorem valueOf_bn (n : Nat) (b : Bytes) : valueOf n b = valN n (bn b) := by
  unfold valueOf valN
  simp only [getD_bn]
theorem valN_cb {c : Nat} (h : isChar c = true) (r : List Nat) : valN (cb c).length (cb c ++ r) = c := by
  have hlt := isChar_lt h
  unfold cb
  by_cases h1 : c < 128
  · rw [if_pos h1]; rfl
  · rw [if_neg h1]
    by_cases h2 : c < 2048
    · rw [if_pos h2]
      show (192 + c / 64 - 192) * 64 + (128 + c % 64 - 128) = c
      omega
    · rw [if_neg h2]
      by_cases h3 : c < 65536
      · rw [if_pos h3]
        show (224 + c / 4096 - 224) * 4096 + (128 + c / 64 % 64 - 128) * 64 + (128 + c % 64 - 128) = c
        omega
      · rw [if_neg h3]
        show (240 + c / 262144 - 240) * 262144 + (128 + c / 4096 % 64 - 128) * 4096 + (128 + c / 64 % 64 - 128) * 64 + (128 + c % 64 - 128) = c
        omega
/-- the test that charOf makes of a length -/
def tst (b : Bytes) (n : Nat) : Bool := decide (n ≤ b.length) && (isChar (valueOf n b) && utf8 (valueOf n b) == b.take n)
theorem tst_spec {b : Bytes} {n : Nat} (h : tst b n = true) : n ≤ b.length ∧ isChar (valueOf n b) = true ∧ utf8 (valueOf n b) = b.take n := by
  unfold tst at h
  rw [Bool.and_eq_true, Bool.and_eq_true] at h
  exact ⟨of_decide_eq_true h.1, h.2.1, eq_of_beq h.2.2⟩
theorem charOf_eq (b : Bytes) : charOf b = ([1, 2, 3, 4].find? (tst b)).map fun n => (valueOf n b, b.drop n) := rfl
theorem charOf_some {b : Bytes} {v : Nat} {r : Bytes} (h : charOf b = some (v, r)) : isChar v = true ∧ b = utf8 v ++ r := by
  rw [charOf_eq] at h
  cases e : [1, 2, 3, 4].find? (tst b) with
  | none => rw [e] at h; cases h
  | some n =>
    rw [e] at h
    have h1 := List.find?_some e
    obtain ⟨_, h2, h3⟩ := tst_spec h1
    cases h
    exact ⟨h2, by rw [h3, List.take_append_drop]⟩
theorem tst_cb {v : Nat} (h : isChar v = true) (r : Bytes) : tst (utf8 v ++ r) (cb v).length = true := by
  have e : valueOf (cb v).length (utf8 v ++ r) = v := by
    rw [valueOf_bn, bn_app, bn_utf8 h]
    exact valN_cb h _
  unfold tst
  rw [e, h]
  have e2 : (utf8 v ++ r).take (cb v).length = utf8 v := by
    rw [← utf8_len, List.take_left']
    rfl
  rw [e2, beq_self_eq_true, Bool.and_true, Bool.and_true]
  refine decide_eq_true ?_
  rw [List.length_append, utf8_len]
  omega
theorem tst_len {v : Nat} (h : isChar v = true) {r : Bytes} {n : Nat} (hn : tst (utf8 v ++ r) n = true) (h1 : 1 ≤ n) : n = (cb v).length := by
  obtain ⟨a, b, c⟩ := tst_spec hn
  generalize valueOf n (utf8 v ++ r) = u at b c
  obtain ⟨x, xs, e1, l1⟩ := lenBy_cb (isChar_lt h)
  obtain ⟨y, ys, e2, l2⟩ := lenBy_cb (isChar_lt b)
  have hb : bn (utf8 u) = (cb v ++ bn r).take n := by
    rw [c]
    unfold bn
    rw [List.map_take, List.map_append]
    congr 2
    exact bn_utf8 h
  rw [bn_utf8 b, e2, e1] at hb
  have hl : n = (cb u).length := by
    have := congrArg List.length c
    rw [utf8_len, List.length_take] at this
    omega
  obtain ⟨m, rfl⟩ : ∃ m, n = m + 1 := ⟨n - 1, by omega⟩
  have hxy : y = x := by
    have : y :: ys = x :: (xs ++ bn r).take m := hb
    exact (List.cons.inj this).1
  rw [hxy, l1] at l2
  omega
theorem find_at {p : Nat → Bool} {n : Nat} (h : p n = true) (hu : ∀ m, 1 ≤ m → p m = true → m = n) (h1 : 1 ≤ n) (h4 : n ≤ 4) : [1, 2, 3, 4].find? p = some n := by
  have e : ∀ m, 1 ≤ m → m ≠ n → p m = false := fun m hm hne => by
    cases q : p m with
    | false => rfl
    | true => exact absurd (hu m hm q) hne
  rcases (show n = 1 ∨ n = 2 ∨ n = 3 ∨ n = 4 by omega) with rfl | rfl | rfl | rfl
  · simp [List.find?, h]
  · simp [List.find?, h, e 1 (by decide) (by decide)]
  · simp [List.find?, h, e 1 (by decide) (by decide), e 2 (by decide) (by decide)]
  · simp [List.find?, h, e 1 (by decide) (by decide), e 2 (by decide) (by decide), e 3 (by decide) (by decide)]
theorem charOf_utf8 {v : Nat} (h : isChar v = true) (r : Bytes) : charOf (utf8 v ++ r) = some (v, r) := by
  rw [charOf_eq, find_at (tst_cb h r) (fun m hm q => tst_len h q hm) (cb_pos v).1 (cb_pos v).2]
  have e : valueOf (cb v).length (utf8 v ++ r) = v := by
    rw [valueOf_bn, bn_app, bn_utf8 h]
    exact valN_cb h _
  show some (valueOf (cb v).length (utf8 v ++ r), (utf8 v ++ r).drop (cb v).length) = _
  rw [e, ← utf8_len, List.drop_left']
  rfl
/-- **the program's character_at is the specification's charOf** -/
theorem charOf_dec (b : Bytes) : charOf b = (dec (bn b)).map fun p => (p.1, b.drop p.2) := by
  cases e : dec (bn b) with
  | none =>
    cases f : charOf b with
    | none => rfl
    | some p =>
      obtain ⟨v, r⟩ := p
      obtain ⟨h1, h2⟩ := charOf_some f
      rw [h2, bn_app, bn_utf8 h1, dec_cb h1] at e
      cases e
  | some p =>
    obtain ⟨v, k⟩ := p
    obtain ⟨h1, h2, h3, _, _⟩ := dec_some e
    have hb : b = utf8 v ++ b.drop k := by
      apply bn_inj
      rw [bn_app, bn_utf8 h1]
      unfold bn at h3 ⊢
      rw [List.map_drop]
      exact h3
    show charOf b = some (v, b.drop k)
    rw [hb]
    rw [charOf_utf8 h1]
    congr 2
    rw [h2, ← utf8_len, List.drop_left']
    rfl
/-! ### texts -/
theorem charsFrom_fuel : ∀ (n m : Nat) (b : Bytes), b.length ≤ n → b.length ≤ m → charsFrom n b = charsFrom m b
  | n, m, [], _, _ => by cases n <;> cases m <;> rfl
  | 0, m, _ :: _, h, _ => by simp at h
  | n + 1, 0, _ :: _, _, h => by simp at h
  | n + 1, m + 1, x :: b, h1, h2 => by
    show (match charOf (x :: b) with | some (c, r) => (charsFrom n r).map _ | none => none) = (match charOf (x :: b) with | some (c, r) => (charsFrom m r).map _ | none => none)
    cases e : charOf (x :: b) with
    | none => rfl
    | some p =>
      obtain ⟨c, r⟩ := p
      obtain ⟨h3, h4⟩ := charOf_some e
      have hl := congrArg List.length h4
      rw [List.length_append, utf8_len] at hl
      have hp := (cb_pos c).1
      simp only
      rw [charsFrom_fuel n m r (by simp at h1 hl; omega) (by simp at h2 hl; omega)]
theorem chars_cons {b : Bytes} (h : b ≠ []) : chars b = match charOf b with
    | some (c, r) => (chars r).map fun t => c :: t
    | none => none := by
  match b, h with
  | x :: b, _ =>
    show (match charOf (x :: b) with | some (c, r) => (charsFrom b.length r).map _ | none => none) = _
    cases e : charOf (x :: b) with
    | none => rfl
    | some p =>
      obtain ⟨c, r⟩ := p
      obtain ⟨h3, h4⟩ := charOf_some e
      have hl := congrArg List.length h4
      rw [List.length_append, utf8_len] at hl
      have hp := (cb_pos c).1
      simp only
      unfold chars
      rw [charsFrom_fuel b.length r.length r (by simp at hl; omega) (Nat.le_refl _)]
theorem chars_nil : chars [] = some [] := rfl
theorem utf8_ne (c : Nat) (r : Bytes) : utf8 c ++ r ≠ [] := by
  intro e
  have := congrArg List.length e
  rw [List.length_append, utf8_len] at this
  have hp := (cb_pos c).1
  rw [List.length_nil] at this
  omega
theorem chars_utf8 {v : Nat} (h : isChar v = true) (r : Bytes) : chars (utf8 v ++ r) = (chars r).map fun t => v :: t := by
  rw [chars_cons (utf8_ne v r), charOf_utf8 h]
theorem chars_utf8s : ∀ (t : Text), isText t = true → chars (utf8s t) = some t
  | [], _ => rfl
  | c :: r, h => by
    unfold isText at h
    rw [List.all_cons, Bool.and_eq_true] at h
    show chars (utf8 c ++ utf8s r) = _
    rw [chars_utf8 h.1, chars_utf8s r h.2]
    rfl
theorem chars_some : ∀ (n : Nat) (b : Bytes), b.length ≤ n → ∀ t, chars b = some t → isText t = true ∧ b = utf8s t
  | n, [], _, t, h => by
    cases h
    exact ⟨rfl, rfl⟩
  | 0, _ :: _, hn, _, _ => by simp at hn
  | n + 1, x :: b, hn, t, h => by
    rw [chars_cons (by simp)] at h
    cases e : charOf (x :: b) with
    | none => rw [e] at h; cases h
    | some p =>
      obtain ⟨c, r⟩ := p
      rw [e] at h
      obtain ⟨h3, h4⟩ := charOf_some e
      have hl := congrArg List.length h4
      rw [List.length_append, utf8_len] at hl
      have hp := (cb_pos c).1
      cases f : chars r with
      | none => simp only [f] at h; cases h
      | some t' =>
        simp only [f] at h
        cases h
        obtain ⟨h5, h6⟩ := chars_some n r (by simp at hn hl; omega) t' f
        refine ⟨?_, ?_⟩
        · unfold isText at h5 ⊢
          rw [List.all_cons, h3, h5]
          rfl
        · rw [h4]
          show utf8 c ++ r = utf8 c ++ utf8s t'
          rw [← h6]
/-- **bytes are a text's just if they're its bytes** -/
theorem chars_iff {b : Bytes} {t : Text} : chars b = some t ↔ isText t = true ∧ b = utf8s t :=
  ⟨chars_some b.length b (Nat.le_refl _) t, fun h => by rw [h.2]; exact chars_utf8s t h.1⟩
/-- the program's characters_of, over numbers -/
def chN (l : List Nat) : Option (List Nat) := chars (l.map UInt8.ofNat)
theorem chN_bn (b : Bytes) : chN (bn b) = chars b := by
  unfold chN
  congr 1
  apply bn_inj
  exact bn_ofNat (bn_lt b)
theorem chN_nil : chN [] = some [] := rfl
theorem chN_step {l : List Nat} (hl : ∀ x ∈ l, x < 256) (hne : l ≠ []) : chN l = match dec l with
    | some (c, k) => (chN (l.drop k)).map fun t => c :: t
    | none => none := by
  obtain ⟨b, rfl⟩ : ∃ b : Bytes, l = bn b := ⟨l.map UInt8.ofNat, (bn_ofNat hl).symm⟩
  rw [chN_bn, chars_cons (by intro e; rw [e] at hne; exact hne rfl), charOf_dec]
  cases e : dec (bn b) with
  | none => rfl
  | some p =>
    obtain ⟨c, k⟩ := p
    simp only [Option.map_some]
    have : (bn b).drop k = bn (b.drop k) := by unfold bn; rw [List.map_drop]
    rw [this, chN_bn]
end Lx
/-! ## Lx3 -/
/-! Lx3: the order of words, words put in, sorted lists. -/
namespace Lx
open Sy
theorem bf_irrefl : ∀ a : Text, before a a = false
  | [] => rfl
  | x :: a => by
    show (decide (x < x) || (x == x && before a a)) = false
    rw [bf_irrefl a, Bool.and_false, Bool.or_false]
    exact decide_eq_false (Nat.lt_irrefl x)
theorem bf_cons {x y : Nat} {a b : Text} : before (x :: a) (y :: b) = true ↔ x < y ∨ (x = y ∧ before a b = true) := by
  show (decide (x < y) || (x == y && before a b)) = true ↔ _
  rw [Bool.or_eq_true, Bool.and_eq_true, decide_eq_true_eq, beq_iff_eq]
theorem bf_trans : ∀ {a b c : Text}, before a b = true → before b c = true → before a c = true
  | [], [], c, h, _ => absurd h (by decide)
  | [], y :: b, [], _, h => by cases h
  | [], y :: b, z :: c, _, _ => rfl
  | x :: a, [], c, h, _ => by cases h
  | x :: a, y :: b, [], _, h => by cases h
  | x :: a, y :: b, z :: c, h1, h2 => by
    rw [bf_cons] at h1 h2 ⊢
    rcases h1 with h1 | ⟨h1, g1⟩ <;> rcases h2 with h2 | ⟨h2, g2⟩
    · exact .inl (by omega)
    · exact .inl (by omega)
    · exact .inl (by omega)
    · exact .inr ⟨by omega, bf_trans g1 g2⟩
theorem bf_tri : ∀ (a b : Text), before a b = true ∨ a = b ∨ before b a = true
  | [], [] => .inr (.inl rfl)
  | [], _ :: _ => .inl rfl
  | _ :: _, [] => .inr (.inr rfl)
  | x :: a, y :: b => by
    rw [bf_cons, bf_cons]
    rcases Nat.lt_trichotomy x y with h | h | h
    · exact .inl (.inl h)
    · rcases bf_tri a b with g | g | g
      · exact .inl (.inr ⟨h, g⟩)
      · exact .inr (.inl (by rw [h, g]))
      · exact .inr (.inr (.inr ⟨h.symm, g⟩))
    · exact .inr (.inr (.inl h))
theorem bf_asym {a b : Text} (h : before a b = true) : before b a = false := by
  cases e : before b a with
  | false => rfl
  | true =>
    have := bf_trans h e
    rw [bf_irrefl] at this
    cases this
theorem bf_list : ∀ (l m : List Nat), decide ((l.map fun (n : Nat) => (n : Int)) < (m.map fun (n : Nat) => (n : Int))) = before l m
  | [], [] => by simp [before]
  | [], _ :: _ => by simp [before]
  | _ :: _, [] => by simp [before]
  | x :: l, y :: m => by
    rw [Bool.eq_iff_iff, bf_cons, decide_eq_true_eq, List.map_cons, List.map_cons, List.cons_lt_cons_iff, ← bf_list l m, decide_eq_true_eq]
    constructor
    · rintro (h | ⟨h, g⟩)
      · exact .inl (by omega)
      · exact .inr ⟨by omega, g⟩
    · rintro (h | ⟨h, g⟩)
      · exact .inl (by omega)
      · exact .inr ⟨by omega, g⟩
/-! ### words -/
theorem wb_iff {a b : Word} : a.before b = true ↔ before a.reading b.reading = true ∨ (a.reading = b.reading ∧ (a.cost < b.cost ∨ (a.cost = b.cost ∧ before a.text b.text = true))) := by
  unfold Word.before
  simp only [Bool.or_eq_true, Bool.and_eq_true, decide_eq_true_eq, beq_iff_eq]
theorem wb_trans {a b c : Word} (h1 : a.before b = true) (h2 : b.before c = true) : a.before c = true := by
  rw [wb_iff] at *
  rcases h1 with h1 | ⟨e1, h1⟩ <;> rcases h2 with h2 | ⟨e2, h2⟩
  · exact .inl (bf_trans h1 h2)
  · exact .inl (by rw [← e2]; exact h1)
  · exact .inl (by rw [e1]; exact h2)
  · refine .inr ⟨e1.trans e2, ?_⟩
    rcases h1 with h1 | ⟨c1, h1⟩ <;> rcases h2 with h2 | ⟨c2, h2⟩
    · exact .inl (by omega)
    · exact .inl (by omega)
    · exact .inl (by omega)
    · exact .inr ⟨by omega, bf_trans h1 h2⟩
theorem wb_irrefl (a : Word) : a.before a = false := by
  cases e : a.before a with
  | false => rfl
  | true =>
    rw [wb_iff, bf_irrefl, bf_irrefl] at e
    rcases e with e | ⟨_, e | ⟨_, e⟩⟩
    · cases e
    · omega
    · cases e
theorem same_iff {a b : Word} : a.same b = true ↔ a.reading = b.reading ∧ a.text = b.text := by
  unfold Word.same
  rw [Bool.and_eq_true, beq_iff_eq, beq_iff_eq]
theorem same_comm (a b : Word) : a.same b = b.same a := by
  rw [Bool.eq_iff_iff, same_iff, same_iff]
  exact ⟨fun h => ⟨h.1.symm, h.2.symm⟩, fun h => ⟨h.1.symm, h.2.symm⟩⟩
theorem wb_tri {a b : Word} (h : a.same b = false) : a.before b = true ∨ b.before a = true := by
  rw [wb_iff, wb_iff]
  rcases bf_tri a.reading b.reading with g | g | g
  · exact .inl (.inl g)
  · rcases Nat.lt_trichotomy a.cost b.cost with c | c | c
    · exact .inl (.inr ⟨g, .inl c⟩)
    · rcases bf_tri a.text b.text with t | t | t
      · exact .inl (.inr ⟨g, .inr ⟨c, t⟩⟩)
      · rw [same_iff.mpr ⟨g, t⟩] at h
        cases h
      · exact .inr (.inr ⟨g.symm, .inr ⟨c.symm, t⟩⟩)
    · exact .inr (.inr ⟨g.symm, .inl c⟩)
  · exact .inr (.inl g)
/-- in order, no two of one name -/
def Srt (L : List Word) : Prop := L.Pairwise fun a b => a.before b = true
def Dst (L : List Word) : Prop := L.Pairwise fun a b => a.same b = false
theorem Dst.perm {L M : List Word} (h : Dst L) (p : M.Perm L) : Dst M := List.Pairwise.perm (show L.Pairwise _ from h) p.symm fun {x y} e => by rw [same_comm]; exact e
theorem put_perm (w : Word) : ∀ L : List Word, (putWord w L).Perm (w :: L)
  | [] => List.Perm.refl _
  | q :: L => by
    unfold putWord
    split
    · exact List.Perm.refl _
    · exact ((put_perm w L).cons q).trans (List.Perm.swap w q L)
theorem put_srt {w : Word} : ∀ {L : List Word}, Srt L → (∀ q ∈ L, q.same w = false) → Srt (putWord w L)
  | [], _, _ => List.pairwise_singleton _ _
  | q :: L, h, hd => by
    unfold putWord
    obtain ⟨h1, h2⟩ := List.pairwise_cons.mp h
    split
    · rename_i e
      refine List.pairwise_cons.mpr ⟨fun x hx => ?_, h⟩
      rcases List.mem_cons.mp hx with rfl | hx
      · exact e
      · exact wb_trans e (h1 x hx)
    · rename_i e
      refine List.pairwise_cons.mpr ⟨fun x hx => ?_, put_srt h2 fun q' hq => hd q' (List.mem_cons_of_mem _ hq)⟩
      rcases List.mem_cons.mp ((put_perm w L).mem_iff.mp hx) with rfl | hx
      · rcases wb_tri (hd q List.mem_cons_self) with z | z
        · exact z
        · exact absurd z e
      · exact h1 x hx
theorem put_len (w : Word) (L : List Word) : (putWord w L).length = L.length + 1 := (put_perm w L).length_eq
theorem put_dst {w : Word} {L : List Word} (h : Dst L) (hd : ∀ q ∈ L, q.same w = false) : Dst (putWord w L) :=
  Dst.perm (List.pairwise_cons.mpr ⟨fun x hx => by rw [same_comm]; exact hd x hx, h⟩) (put_perm w L)
/-! ### the order by which Python sorts, and the keys' -/
def wlt (a b : Word) : Bool := before a.reading b.reading || (a.reading == b.reading && (decide (a.cost < b.cost) || (a.cost == b.cost && (before a.text b.text || (a.text == b.text && (decide (a.left < b.left) || (a.left == b.left && decide (a.right < b.right))))))))
def wle (a b : Word) : Bool := !wlt b a
theorem wlt_iff {a b : Word} : wlt a b = true ↔ before a.reading b.reading = true ∨ (a.reading = b.reading ∧ (a.cost < b.cost ∨ (a.cost = b.cost ∧ (before a.text b.text = true ∨ (a.text = b.text ∧ (a.left < b.left ∨ (a.left = b.left ∧ a.right < b.right))))))) := by
  unfold wlt
  simp only [Bool.or_eq_true, Bool.and_eq_true, decide_eq_true_eq, beq_iff_eq]
theorem wle_of {a b : Word} (h : a.before b = true) : wle a b = true := by
  unfold wle
  cases e : wlt b a with
  | false => rfl
  | true =>
    rw [wlt_iff] at e
    rw [wb_iff] at h
    exfalso
    rcases h with h | ⟨e1, h⟩
    · rcases e with e | ⟨e2, _⟩
      · rw [bf_asym h] at e; cases e
      · rw [e2, bf_irrefl] at h; cases h
    · rcases e with e | ⟨_, e⟩
      · rw [e1, bf_irrefl] at e; cases e
      · rcases h with h | ⟨c1, h⟩
        · rcases e with e | ⟨e2, _⟩ <;> omega
        · rcases e with e | ⟨_, e | ⟨e2, _⟩⟩
          · omega
          · rw [bf_asym h] at e; cases e
          · rw [e2, bf_irrefl] at h; cases h
theorem wle_anti {a b : Word} (h1 : wle a b = true) (h2 : wle b a = true) : a = b := by
  unfold wle at h1 h2
  rw [Bool.not_eq_true'] at h1 h2
  have n1 := fun q => Bool.eq_false_iff.mp h1 (wlt_iff.mpr q)
  have n2 := fun q => Bool.eq_false_iff.mp h2 (wlt_iff.mpr q)
  have er : a.reading = b.reading := by
    rcases bf_tri a.reading b.reading with g | g | g
    · exact absurd (.inl g) n2
    · exact g
    · exact absurd (.inl g) n1
  have ec : a.cost = b.cost := by
    rcases Nat.lt_trichotomy a.cost b.cost with g | g | g
    · exact absurd (.inr ⟨er, .inl g⟩) n2
    · exact g
    · exact absurd (.inr ⟨er.symm, .inl g⟩) n1
  have et : a.text = b.text := by
    rcases bf_tri a.text b.text with g | g | g
    · exact absurd (.inr ⟨er, .inr ⟨ec, .inl g⟩⟩) n2
    · exact g
    · exact absurd (.inr ⟨er.symm, .inr ⟨ec.symm, .inl g⟩⟩) n1
  have el : a.left = b.left := by
    rcases Nat.lt_trichotomy a.left b.left with g | g | g
    · exact absurd (.inr ⟨er, .inr ⟨ec, .inr ⟨et, .inl g⟩⟩⟩) n2
    · exact g
    · exact absurd (.inr ⟨er.symm, .inr ⟨ec.symm, .inr ⟨et.symm, .inl g⟩⟩⟩) n1
  have eri : a.right = b.right := by
    rcases Nat.lt_trichotomy a.right b.right with g | g | g
    · exact absurd (.inr ⟨er, .inr ⟨ec, .inr ⟨et, .inr ⟨el, g⟩⟩⟩⟩) n2
    · exact g
    · exact absurd (.inr ⟨er.symm, .inr ⟨ec.symm, .inr ⟨et.symm, .inr ⟨el.symm, g⟩⟩⟩⟩) n1
  cases a; cases b
  simp only at er ec et el eri
  rw [er, ec, et, el, eri]
/-- the keys' order -/
def klt (a b : Word) : Bool := decide (a.cost < b.cost) || (a.cost == b.cost && (before a.reading b.reading || (a.reading == b.reading && before a.text b.text)))
def kle (a b : Word) : Bool := !klt b a
theorem klt_iff {a b : Word} : klt a b = true ↔ a.cost < b.cost ∨ (a.cost = b.cost ∧ (before a.reading b.reading = true ∨ (a.reading = b.reading ∧ before a.text b.text = true))) := by
  unfold klt
  simp only [Bool.or_eq_true, Bool.and_eq_true, decide_eq_true_eq, beq_iff_eq]
theorem kle_anti {a b : Word} (h1 : kle a b = true) (h2 : kle b a = true) : a.same b = true := by
  unfold kle at h1 h2
  rw [Bool.not_eq_true'] at h1 h2
  have n1 := fun q => Bool.eq_false_iff.mp h1 (klt_iff.mpr q)
  have n2 := fun q => Bool.eq_false_iff.mp h2 (klt_iff.mpr q)
  have ec : a.cost = b.cost := by
    rcases Nat.lt_trichotomy a.cost b.cost with g | g | g
    · exact absurd (.inl g) n2
    · exact g
    · exact absurd (.inl g) n1
  have er : a.reading = b.reading := by
    rcases bf_tri a.reading b.reading with g | g | g
    · exact absurd (.inr ⟨ec, .inl g⟩) n2
    · exact g
    · exact absurd (.inr ⟨ec.symm, .inl g⟩) n1
  have et : a.text = b.text := by
    rcases bf_tri a.text b.text with g | g | g
    · exact absurd (.inr ⟨ec, .inr ⟨er, g⟩⟩) n2
    · exact g
    · exact absurd (.inr ⟨ec.symm, .inr ⟨er.symm, g⟩⟩) n1
  exact same_iff.mpr ⟨er, et⟩
/-- THE sorted list -/
theorem wsort_eq {ws M : List Word} (hs : (ws.mergeSort wle).Pairwise fun a b => wle a b = true) (p : M.Perm ws) (h : Srt M) : ws.mergeSort wle = M :=
  List.Perm.eq_of_pairwise (le := fun a b => wle a b = true) (fun a b _ _ h1 h2 => wle_anti h1 h2) hs (h.imp fun e => wle_of e) ((List.mergeSort_perm ws wle).trans p.symm)
theorem Dst.eq {L : List Word} (h : Dst L) {a b : Word} (ha : a ∈ L) (hb : b ∈ L) (e : a.same b = true) : a = b := by
  induction L with
  | nil => cases ha
  | cons q L ih =>
    obtain ⟨h1, h2⟩ := List.pairwise_cons.mp h
    rcases List.mem_cons.mp ha with ea | ha <;> rcases List.mem_cons.mp hb with eb | hb
    · rw [ea, eb]
    · rw [ea, h1 b hb] at e; cases e
    · rw [eb, same_comm, h1 a ha] at e; cases e
    · exact ih h2 ha hb
theorem ksort_eq {ws M : List Word} (hs : (ws.mergeSort kle).Pairwise fun a b => kle a b = true) (p : M.Perm ws) (d : Dst ws) (h : M.Pairwise fun a b => kle a b = true) : ws.mergeSort kle = M :=
  List.Perm.eq_of_pairwise (le := fun a b => kle a b = true) (fun a b ha hb h1 h2 => d.eq ((List.mergeSort_perm ws kle).mem_iff.mp ha) (p.mem_iff.mp hb) (kle_anti h1 h2)) hs h ((List.mergeSort_perm ws kle).trans p.symm)
end Lx
/-! ## W0 -/
/-! W0: the text by places, the facts of the top, what lies in the heap, small rules. -/
namespace Sx
open PySem PySem.Spec PyProof.Rows L2

def top (i : Nat) : Stmt := PySem.Challenge.pw_soundlex_s01_answers.main.body.getD i (.Pass ⟨0, 0, 0, 0⟩)

/-- a module's name that holds a whole number -/
def GI (mg : PySem.Str → Option Value) (x : PySem.Str) (n : Int) : Prop := ∃ t, mg x = some (.int n t)
theorem pe_gi {X : Cx} {x : PySem.Str} {n : Int} {pos : Pos} (hg : Gl X x) (h : GI X.mg x n) (hd : (x == ("__debug__" : PySem.Str)) = false := by decide) : PE X (.Name x pos) (tC (.int n)) := by
  obtain ⟨t, h⟩ := h
  exact pe_glob hg h ⟨t, rfl⟩ hd

structure Txt (mg : PySem.Str → Option Value) : Prop where
  limit : GI mg "LIMIT" 1114112
  fbar : GI mg "FIRST_BARRED" 55296
  lbar : GI mg "LAST_BARRED" 57343
  mchar : GI mg "MOST_CHARACTERS" 32
  gsort : GI mg "GREATEST_SORT" 255
  gcost : GI mg "GREATEST_COST" 65535
  mwl : GI mg "MOST_WORDS_lexicons" 128
  blank : GI mg "BLANK" 32
  feed : GI mg "FEED" 10
  zero : GI mg "ZERO" 48
  great : GI mg "TOO_GREAT" 1000000
  mwr : GI mg "MOST_WORDS_reading" 128
  mby : GI mg "MOST_BYTES" 65536
  mrow : GI mg "MOST_ROW" 64
  len : mg "len" = none
  range : mg "range" = none
  tuple : mg "tuple" = none
  list : mg "list" = none
  sorted : mg "sorted" = none
  min : mg "min" = none

section
variable {P : Program} {w : World} {K : PySem.W.Frag} {mg : PySem.Str → Option Value} {base : Heap}
/-- a def of the module that may be called by its name: where it stands -/
structure DefAt (K : PySem.W.Frag) (mg : PySem.Str → Option Value) (x : PySem.Str) (st : Stmt) (ps : List PySem.Str) : Prop where
  ex : ∃ f fd, L2.Fun K x x st f fd ∧ mg x = some (.ref f) ∧ Binds K fd ps []
theorem cal_of {x : PySem.Str} {st : Stmt} {N ps : List PySem.Str} {k : Nat} {sp : Sp} (D : DefAt K mg x st ps) (S : FnScope N ps (defScope st)) (len : ∀ vs H Q E, sp vs H Q E → vs.length = ps.length)
    (hbody : ∀ (f : Addr) (cdv : Value) (A : Around) (outer : List Env) (s : Shared) (H : Hp) (vs : List V) (Q : VK) (E : XK), Room k (A.deeper (envOfC x (defScope st) s.heap.objs.size f cdv)) → sp vs H Q E →
      ∃ t, PSs (cxOf CX0 P w K mg base N x (defScope st) f cdv A outer s H E).nox (defBody st) t ∧ t { nx := fun _ H' => Q .non H', rt := Q } (start N vs) H) : C8.Cal P w K mg base (k + 1) x sp [] := by
  obtain ⟨f, fd, F, hm, b⟩ := D.ex
  exact ⟨f, fd, ps, [], F.ok S len (hbody f), hm, F.kp, b, .nil⟩
structure MetAt (K : PySem.W.Frag) (C : Addr) (m qual : PySem.Str) (st : Stmt) (ps : List PySem.Str) : Prop where
  ex : ∃ f fd, L2.Fun K m qual st f fd ∧ Cls K C ∧ Meth K C m f ∧ Binds K fd ps []
theorem met_of {C : Addr} {m qual : PySem.Str} {st : Stmt} {N ps : List PySem.Str} {k : Nat} {sp : Sp} (D : MetAt K C m qual st ps) (S : FnScope N ps (defScope st)) (len : ∀ vs H Q E, sp vs H Q E → vs.length = ps.length)
    (hbody : ∀ (f : Addr) (cdv : Value) (A : Around) (outer : List Env) (s : Shared) (H : Hp) (vs : List V) (Q : VK) (E : XK), Room k (A.deeper (envOfC qual (defScope st) s.heap.objs.size f cdv)) → sp vs H Q E →
      ∃ t, PSs (cxOf CX0 P w K mg base N qual (defScope st) f cdv A outer s H E).nox (defBody st) t ∧ t { nx := fun _ H' => Q .non H', rt := Q } (start N vs) H) : C8.Met P w K mg base (k + 1) C m sp [] := by
  obtain ⟨f, fd, F, c, me, b⟩ := D.ex
  exact ⟨f, fd, ps, [], c, me, F.ok S len (hbody f), b, .nil⟩
structure MakAt (K : PySem.W.Frag) (mg : PySem.Str → Option Value) (x : PySem.Str) (C : Addr) (qual : PySem.Str) (st : Stmt) (ps : List PySem.Str) : Prop where
  ex : ∃ f fd, L2.Fun K "__init__" qual st f fd ∧ Mk K C f ∧ mg x = some (.ref C) ∧ Binds K fd ps []
theorem mak_of {x : PySem.Str} {C : Addr} {qual : PySem.Str} {st : Stmt} {N ps : List PySem.Str} {k : Nat} {sp : Sp} (D : MakAt K mg x C qual st ps) (S : FnScope N ps (defScope st)) (len : ∀ vs H Q E, sp vs H Q E → vs.length = ps.length)
    (hbody : ∀ (f : Addr) (cdv : Value) (A : Around) (outer : List Env) (s : Shared) (H : Hp) (vs : List V) (Q : VK) (E : XK), Room k (A.deeper (envOfC qual (defScope st) s.heap.objs.size f cdv)) → sp vs H Q E →
      ∃ t, PSs (cxOf CX0 P w K mg base N qual (defScope st) f cdv A outer s H E).nox (defBody st) t ∧ t { nx := fun _ H' => Q .non H', rt := Q } (start N vs) H) : C8.Mak P w K mg base (k + 1) x C sp [] := by
  obtain ⟨f, fd, F, M, hm, b⟩ := D.ex
  exact ⟨f, fd, ps, [], M, F.ok S len (hbody f), hm, b, .nil⟩
end

/-! ### values -/
/-- whole numbers of 0 or more, as values -/
def vN (l : List Nat) : List V := l.map fun (n : Nat) => V.int (n : Int)
theorem vN_len (l : List Nat) : (vN l).length = l.length := List.length_map _
theorem vN_get {l : List Nat} {i : Nat} {n : Nat} (h : l[i]? = some n) : (vN l)[i]? = some (V.int (n : Int)) := by
  unfold vN
  rw [List.getElem?_map, h]
  rfl
theorem vN_at {l : List Nat} {i : Nat} {y : V} (h : (vN l)[i]? = some y) : ∃ n, l[i]? = some n ∧ y = V.int (n : Int) := by
  unfold vN at h
  rw [List.getElem?_map] at h
  cases e : l[i]? with
  | none => rw [e] at h; cases h
  | some n => rw [e] at h; exact ⟨n, rfl, (Option.some.inj h).symm⟩
theorem vN_app (a b : List Nat) : vN (a ++ b) = vN a ++ vN b := List.map_append
theorem vN_ints (l : List Nat) : vN l = (l.map fun (n : Nat) => (n : Int)).map V.int := by unfold vN; rw [List.map_map]; rfl
theorem if_true_of {c : Bool} {A B : Prop} (hc : c = true) (h : A) : if c = true then A else B := by
  rw [if_pos hc]
  exact h
theorem if_false_of {c : Bool} {A B : Prop} (hc : c = false) (h : B) : if c = true then A else B := by
  rw [hc, if_neg Bool.false_ne_true]
  exact h
theorem ifb {c : Bool} {A B : Prop} (h1 : c = true → A) (h2 : c = false → B) : if c = true then A else B := by
  cases c with
  | true => exact if_true_of rfl (h1 rfl)
  | false => exact if_false_of rfl (h2 rfl)
end Sx
namespace Sx
open PySem PySem.Spec PyProof.Rows L2
/-! ### loops over what stands still -/
section
variable {K : PySem.W.Frag} {tb : TS} {D : Ends} {σ : L2.St} {H : Hp} {a : Addr}
theorem sforL {i j : Nat} {xs : List V} (hv : σ[i]? = some (some (.ref a))) (hx : SqL K H a xs) (Pv : Nat → L2.St → Hp → Prop) (h0 : Pv 0 σ H) (hl : ∀ i σ H, i ≤ xs.length → Pv i σ H → SqL K H a xs)
    (hs : ∀ i x σ H, xs[i]? = some x → Pv i σ H → tb { D with nx := Pv (i + 1), ct := Pv (i + 1), bk := D.nx } (σ.set j (some x)) H) (hd : ∀ σ H, Pv xs.length σ H → D.nx σ H) : tFor (iList K (tVar i)) (gName j) tb D σ H :=
  ⟨_, hv, a, rfl, ⟨xs, hx⟩, for_list Pv h0 hl hs hd⟩
theorem sforN {i j : Nat} {l : List Nat} (hv : σ[i]? = some (some (.ref a))) (hx : SqL K H a (vN l)) (Pv : Nat → L2.St → Hp → Prop) (h0 : Pv 0 σ H) (hl : ∀ i σ H, i ≤ l.length → Pv i σ H → SqL K H a (vN l))
    (hs : ∀ (i n : Nat) σ H, l[i]? = some n → Pv i σ H → tb { D with nx := Pv (i + 1), ct := Pv (i + 1), bk := D.nx } (σ.set j (some (V.int (n : Int)))) H) (hd : ∀ σ H, Pv l.length σ H → D.nx σ H) : tFor (iList K (tVar i)) (gName j) tb D σ H := by
  refine sforL hv hx Pv h0 (fun i σ H hi p => hl i σ H (by rw [vN_len] at hi; exact hi) p) (fun i x σ H hi p => ?_) (fun σ H p => hd σ H (by rw [vN_len] at p; exact p))
  obtain ⟨n, hn, rfl⟩ := vN_at hi
  exact hs i n σ H hn p
theorem sforT {i j : Nat} {l : List Nat} (hv : σ[i]? = some (some (.ref a))) (hx : SqT K H a (vN l)) (Pv : Nat → L2.St → Hp → Prop) (h0 : Pv 0 σ H) (hl : ∀ i σ H, i ≤ l.length → Pv i σ H → SqT K H a (vN l))
    (hs : ∀ (i n : Nat) σ H, l[i]? = some n → Pv i σ H → tb { D with nx := Pv (i + 1), ct := Pv (i + 1), bk := D.nx } (σ.set j (some (V.int (n : Int)))) H) (hd : ∀ σ H, Pv l.length σ H → D.nx σ H) : tFor (iTup K (tVar i)) (gName j) tb D σ H := by
  refine ⟨_, hv, a, rfl, ⟨_, hx⟩, for_tup (xs := vN l) Pv h0 (fun i σ H hi p => hl i σ H (by rw [vN_len] at hi; exact hi) p) (fun i x σ H hi p => ?_) (fun σ H p => hd σ H (by rw [vN_len] at p; exact p))⟩
  obtain ⟨n, hn, rfl⟩ := vN_at hi
  exact hs i n σ H hn p
end
theorem take_more {α : Type} : ∀ {l : List α} {i : Nat} {x : α}, l[i]? = some x → l.take (i + 1) = l.take i ++ [x]
  | [], i, x, h => by simp at h
  | a :: l, 0, x, h => by
    have e : a = x := Option.some.inj h
    subst e
    rfl
  | a :: l, i + 1, x, h => by
    have ih := take_more (l := l) (i := i) (x := x) h
    show a :: l.take (i + 1) = a :: l.take i ++ [x]
    rw [ih]
    rfl
/-- a new list that is handed back, all that stood standing -/
def RNew (xs : List V) (H : Hp) (Q : VK) : Prop := ∀ p H', H p = none → Same H H' → H' p = some (.lst xs) → Q (.ref p) H'
theorem Same.new {H : Hp} {p : Addr} {o : HO} (h : H p = none) : Same H (upd H p o) := fun b u e => by
  rw [upd_ne (ne_of_none e h)]
  exact e
/-- .. and what is new in between may be changed -/
theorem Same.mut {H H' : Hp} {p : Addr} {o : HO} (e : Same H H') (h : H p = none) : Same H (upd H' p o) := fun b u q => by
  rw [upd_ne (ne_of_none q h)]
  exact e b u q
theorem Same.tup {K : PySem.W.Frag} {H H' : Hp} {a : Addr} {xs : List V} (e : Same H H') (h : SqT K H a xs) : SqT K H' a xs := by
  rcases h with (h | ⟨o, h⟩) | h
  · exact .inl (.inl (e _ _ h))
  · exact .inl (.inr ⟨o, e _ _ h⟩)
  · exact .inr h
theorem RNew.at {xs : List V} {H : Hp} {Q : VK} (k : RNew xs H Q) {p : Addr} (h : H p = none) : Q (.ref p) (upd H p (.lst xs)) := k p _ h (Same.new h) upd_same
theorem ty_list {K : PySem.W.Frag} {H : Hp} {l : Addr} {xs : List V} (h : H l = some (.lst xs)) : tyV K "list" (.ref l) H := Or.inl ⟨rfl, _, SqL.of h⟩
end Sx
namespace Sx
theorem ite_and {P Q R : Prop} [Decidable P] : (if P then Q else R) ↔ ((P → Q) ∧ (¬ P → R)) := by
  by_cases h : P
  · rw [if_pos h]
    exact ⟨fun q => ⟨fun _ => q, fun n => absurd h n⟩, fun q => q.1 h⟩
  · rw [if_neg h]
    exact ⟨fun q => ⟨fun n => absurd n h, fun _ => q⟩, fun q => q.2 h⟩
end Sx
namespace Sx
open PySem PySem.Spec PyProof.Rows L2
theorem szl {n : Nat} (h : n ≤ 16000000) : n ≤ sizeLine := Nat.le_trans h (by decide)
theorem szt {n : Nat} (h : n ≤ 16000000) : n < sizeLine := Nat.lt_of_le_of_lt h (by decide)
theorem cut_nat (l : List Nat) (i j : Nat) : cutV (vN l) (some (i : Int)) (some (j : Int)) = vN ((l.take j).drop i) := by
  unfold cutV
  rw [HT.sIx_nat, HT.sIx_nat, vN_len]
  unfold vN
  rw [← List.map_drop, ← List.map_take]
  congr 1
  rw [List.drop_take]
  rcases Nat.le_total i l.length with h | h
  · rw [Nat.min_eq_left h]
    rcases Nat.le_total j l.length with h2 | h2
    · rw [Nat.min_eq_left h2]
    · rw [Nat.min_eq_right h2, List.take_of_length_le (by rw [List.length_drop]; omega), List.take_of_length_le (by rw [List.length_drop]; omega)]
  · rw [Nat.min_eq_right h, List.drop_length, List.drop_eq_nil_of_le h, List.take_nil, List.take_nil]
theorem cut_to (l : List Nat) (j : Nat) : cutV (vN l) none (some (j : Int)) = vN (l.take j) := by
  have e : cutV (vN l) none (some (j : Int)) = cutV (vN l) (some ((0 : Nat) : Int)) (some (j : Int)) := by
    unfold cutV
    rw [HT.sIx_none, HT.sIx_nat _ _ 0, Nat.zero_min]
  rw [e, cut_nat, List.drop_zero]
theorem cut_from (l : List Nat) (i : Nat) : cutV (vN l) (some (i : Int)) none = vN (l.drop i) := by
  have e : cutV (vN l) (some (i : Int)) none = cutV (vN l) (some (i : Int)) (some (l.length : Int)) := by
    unfold cutV
    rw [HT.sIx_none, HT.sIx_nat _ _ l.length, vN_len, Nat.min_self]
  rw [e, cut_nat, List.take_length]
end Sx
namespace Sx
open PySem PySem.Spec PyProof.Rows L2
theorem cxK {CX : CXT} {P : Program} {w : World} {K : PySem.W.Frag} {mg : PySem.Str → Option Value} {base : Heap} {N : List PySem.Str} {qual : PySem.Str} {scope : Scope} {f : Addr} {cd : Value} {A : Around} {outer : List Env} {s : Shared} {H : Hp} {E : XK} :
    (cxOf CX P w K mg base N qual scope f cd A outer s H E).K = K := rfl
theorem scal_ii {a b : Int} : scal (.int a) (.int b) = true := rfl
theorem sforSl {K : PySem.W.Frag} {tb : TS} {D : Ends} {σ : L2.St} {H : Hp} {a : Addr} {j : Nat} {l m : List Nat} {te : TE} {tl th : TO} {lo hi : Option Int} (he : ∀ R, R (.ref a) H → te σ H R) (h1 : ∀ R, R lo H → tl σ H R) (h2 : ∀ R, R hi H → th σ H R) (hx : SqL K H a (vN l))
    (hm : cutV (vN l) lo hi = vN m) (h0 : ∀ p, H p = none → ∃ Pv : Nat → L2.St → Hp → Prop, Pv 0 σ (upd H p (.lst (vN m))) ∧ (∀ i σ H', i ≤ m.length → Pv i σ H' → H' p = some (.lst (vN m))) ∧
      (∀ (i n : Nat) σ H, m[i]? = some n → Pv i σ H → tb { D with nx := Pv (i + 1), ct := Pv (i + 1), bk := D.nx } (σ.set j (some (V.int (n : Int)))) H) ∧ (∀ σ H, Pv m.length σ H → D.nx σ H)) : tFor (iList K (tSl (rSlL K) te tl th)) (gName j) tb D σ H := by
  refine he _ (h1 _ (h2 _ ⟨a, vN l, rfl, hx, fun p hp => ?_⟩))
  obtain ⟨Pv, h0, h3, h4, h5⟩ := h0 p hp
  rw [hm]
  refine ⟨p, rfl, ⟨_, SqL.of upd_same⟩, for_list (xs := vN m) Pv h0 (fun i σ H hi q => SqL.of (h3 i σ H (by rw [vN_len] at hi; exact hi) q)) (fun i x σ H hi q => ?_) (fun σ H q => h5 σ H (by rw [vN_len] at q; exact q))⟩
  obtain ⟨n, hn, rfl⟩ := vN_at hi
  exact h4 i n σ H hn q
end Sx
/-! ## W1 -/
open PySem PySem.Spec PyProof.Rows L2 in
local macro_rules | `(tactic| walk_at "sx") => `(tactic| simp only [tRet, tRetN, tNext, tSeq, tIfS, tTest, tB, tNot, tAnd, tOr, tAndV, tOrV, tNotV, tChain, tC, tVar, tOp, tUn, rI0, rI, rU, CDiv, CDivN, rEq, rNe, Sx.scal_ii, Sx.cxK, tAsg, gName, tDrop, tCall, tCons, tNil, tLst, tTup, tCB, tPart, tNoPart, tSl, rSlL, rSlA, rIxL, rIxT, tThen, kTup, rCat, tBM, rAppend, rExtend, tAug, ipI, gUnl, gTup, gCons, gNil, tBreak, tCont,
      L2.start, List.map_cons, List.map_nil, List.length_cons, List.length_nil, List.replicate, List.append_nil, Nat.sub_self, Nat.reduceAdd, Nat.reduceSub, List.cons_append, List.nil_append, List.set_cons_zero, List.set_cons_succ,
      List.getElem?_cons_zero, List.getElem?_cons_succ, List.getElem?_nil, Option.some.injEq, V.int.injEq, V.bl.injEq, V.ref.injEq, List.cons.injEq, and_true, true_and, exists_eq_left', exists_eq_left, exists_and_left, exists_and_right, exists_eq', exists_eq, Sx.ite_and, Option.isNone_none, Option.isNone_some, eq_self, false_implies, true_implies, implies_true, forall_const, decide_eq_true_eq, Bool.not_eq_true, Bool.not_eq_false, Bool.not_eq_true', Bool.not_eq_false', Bool.not_true, Bool.not_false, Bool.not_eq_true', decide_eq_false_iff_not, Bool.false_eq_true, if_false, if_true, exists_const, reduceCtorEq, false_and, and_false, exists_false, false_or, or_false])
namespace Lx
open Sy
theorem isch_fin {n : Nat} {p : Bool → Prop} (k : p (isChar n)) : (0 ≤ (n : Int) → ((n : Int) < 1114112 → (55296 ≤ (n : Int) → p (!decide ((n : Int) ≤ 57343))) ∧ (¬ 55296 ≤ (n : Int) → p true)) ∧ (¬ (n : Int) < 1114112 → p false)) ∧ (¬ 0 ≤ (n : Int) → p false) := by
  unfold isChar at k
  refine ⟨fun _ => ⟨fun h1 => ⟨fun h2 => ?_, fun h2 => ?_⟩, fun h1 => ?_⟩, fun h => absurd (by omega) h⟩
  · have e : decide (n < 0xE000) = decide ((n : Int) ≤ 57343) := decide_eq_decide.mpr (by omega)
    have e1 : decide (n < 0x110000) = true := decide_eq_true (by omega)
    have e2 : decide (0xD800 ≤ n) = true := decide_eq_true (by omega)
    rw [e, e1, e2] at k
    exact k
  · have e1 : decide (n < 0x110000) = true := decide_eq_true (by omega)
    have e2 : decide (0xD800 ≤ n) = false := decide_eq_false (by omega)
    rw [e1, e2] at k
    exact k
  · have e1 : decide (n < 0x110000) = false := decide_eq_false (by omega)
    rw [e1] at k
    exact k
theorem sign_fin {n : Nat} {p : Bool → Prop} (k : p (isSign n)) : (isChar n = true → ((32 : Int) < (n : Int) → p (!decide ((n : Int) = 127))) ∧ (¬ (32 : Int) < (n : Int) → p false)) ∧ (isChar n = false → p false) := by
  unfold isSign at k
  refine ⟨fun h => ⟨fun h1 => ?_, fun h1 => ?_⟩, fun h => ?_⟩
  · have e : (n != 0x7F) = !decide ((n : Int) = 127) := by
      rw [bne, Bool.beq_eq_decide_eq]
      congr 1
      exact decide_eq_decide.mpr (by omega)
    have e1 : decide (0x20 < n) = true := decide_eq_true (by omega)
    rw [e, e1, h] at k
    exact k
  · have e1 : decide (0x20 < n) = false := decide_eq_false (by omega)
    rw [e1, h] at k
    exact k
  · rw [h] at k
    exact k
theorem all_take_end {p : Nat → Bool} {l : List Nat} (h : (l.take l.length).all p = true) : l.all p = true := by
  rw [List.take_length] at h
  exact h
theorem all_more {p : Nat → Bool} {l : List Nat} {i n : Nat} (hi : l[i]? = some n) (h : (l.take i).all p = true) (hn : p n = true) : (l.take (i + 1)).all p = true := by
  rw [Sx.take_more hi, List.all_append, h]
  show p n && true = true
  rw [hn]
  rfl
theorem all_not {p : Nat → Bool} {l : List Nat} {i n : Nat} (hi : l[i]? = some n) (hn : p n = false) : l.all p = false := by
  rw [List.all_eq_false]
  exact ⟨n, List.mem_of_getElem? hi, by rw [hn]; decide⟩
theorem cb1 {n : Nat} (h : (n : Int) < 128) : cb n = [n] := by
  unfold cb
  rw [if_pos (by omega)]
theorem cb2 {n : Nat} (h1 : ¬ (n : Int) < 128) (h2 : (n : Int) < 2048) : cb n = [192 + n / 64, 128 + n % 64] := by
  unfold cb
  rw [if_neg (by omega), if_pos (by omega)]
theorem cb3 {n : Nat} (h1 : ¬ (n : Int) < 128) (h2 : ¬ (n : Int) < 2048) (h3 : (n : Int) < 65536) : cb n = [224 + n / 4096, 128 + n / 64 % 64, 128 + n % 64] := by
  unfold cb
  rw [if_neg (by omega), if_neg (by omega), if_pos (by omega)]
theorem cb4 {n : Nat} (h1 : ¬ (n : Int) < 128) (h2 : ¬ (n : Int) < 2048) (h3 : ¬ (n : Int) < 65536) : cb n = [240 + n / 262144, 128 + n / 4096 % 64, 128 + n / 64 % 64, 128 + n % 64] := by
  unfold cb
  rw [if_neg (by omega), if_neg (by omega), if_neg (by omega)]
theorem cbs_len (l : List Nat) : (cbs l).length ≤ 4 * l.length := by
  induction l with
  | nil => exact Nat.le_refl _
  | cons a r ih =>
    have h := (cb_pos a).2
    show (cb a ++ cbs r).length ≤ 4 * (r.length + 1)
    rw [List.length_append]
    omega
theorem cbs_app (a b : List Nat) : cbs (a ++ b) = cbs a ++ cbs b := List.flatMap_append
theorem cbs_more {l : List Nat} {i n : Nat} (hi : l[i]? = some n) : cbs (l.take (i + 1)) = cbs (l.take i) ++ cb n := by
  rw [Sx.take_more hi, cbs_app]
  show cbs (l.take i) ++ (cb n ++ []) = _
  rw [List.append_nil]
theorem len1 {n : Nat} (h : n < 128) : lenBy n = 1 := by
  unfold lenBy
  rw [if_pos h]
theorem len2 {n : Nat} (h : 192 ≤ n ∧ n < 224) : lenBy n = 2 := by
  unfold lenBy
  rw [if_neg (by omega), if_pos h]
theorem len3 {n : Nat} (h : 224 ≤ n ∧ n < 240) : lenBy n = 3 := by
  unfold lenBy
  rw [if_neg (by omega), if_neg (by omega), if_pos h]
theorem len4 {n : Nat} (h : 240 ≤ n ∧ n < 248) : lenBy n = 4 := by
  unfold lenBy
  rw [if_neg (by omega), if_neg (by omega), if_neg (by omega), if_pos h]
theorem len0 {n : Nat} (h : ¬ n < 128 ∧ ¬ (192 ≤ n ∧ n < 248)) : lenBy n = 0 := by
  unfold lenBy
  rw [if_neg (by omega), if_neg (by omega), if_neg (by omega), if_neg (by omega)]
theorem begun_int {b : Nat} (h : 1 ≤ lenBy b) : (lenBy b = 1 → (b : Int) = (begun b (lenBy b) : Nat)) ∧ (lenBy b = 2 → (b : Int) - 192 = (begun b (lenBy b) : Nat)) ∧ (lenBy b = 3 → (b : Int) - 224 = (begun b (lenBy b) : Nat)) ∧ (lenBy b ≠ 1 → lenBy b ≠ 2 → lenBy b ≠ 3 → (b : Int) - 240 = (begun b (lenBy b) : Nat)) := by
  unfold begun lenBy at *
  split at h
  · rename_i g
    rw [if_pos g]
    refine ⟨fun _ => rfl, fun e => by omega, fun e => by omega, fun e => absurd rfl e⟩
  · split at h
    · rename_i g1 g2
      rw [if_neg g1, if_pos g2]
      refine ⟨fun e => by omega, fun e => ?_, fun e => by omega, fun _ e => absurd rfl e⟩
      rw [if_neg (by decide), if_pos rfl]
      omega
    · split at h
      · rename_i g1 g2 g3
        rw [if_neg g1, if_neg g2, if_pos g3]
        refine ⟨fun e => by omega, fun e => by omega, fun e => ?_, fun _ _ e => absurd rfl e⟩
        rw [if_neg (by decide), if_neg (by decide), if_pos rfl]
        omega
      · split at h
        · rename_i g1 g2 g3 g4
          rw [if_neg g1, if_neg g2, if_neg g3, if_pos g4]
          refine ⟨fun e => by omega, fun e => by omega, fun e => by omega, fun _ _ _ => ?_⟩
          rw [if_neg (by decide), if_neg (by decide), if_neg (by decide)]
          omega
        · omega
theorem drop_at {l : List Nat} {i c : Nat} (h : l[i]? = some c) : l.drop i = c :: l.drop (i + 1) := by
  obtain ⟨h1, h2⟩ := List.getElem?_eq_some_iff.mp h
  rw [List.drop_eq_getElem_cons h1, h2]
theorem dec_none1 {l : List Nat} {i c : Nat} (h : l[i]? = some c) (k : lenBy c = 0 ∨ l.length < i + lenBy c) : dec (l.drop i) = none := by
  rw [drop_at h]
  show (if lenBy c = 0 ∨ (l.drop (i + 1)).length + 1 < lenBy c then none else _) = none
  obtain ⟨h1, _⟩ := List.getElem?_eq_some_iff.mp h
  rw [if_pos]
  rw [List.length_drop]
  omega
theorem dec_mid {l : List Nat} {i c : Nat} (h : l[i]? = some c) (k0 : lenBy c ≠ 0) (k : i + lenBy c ≤ l.length) : dec (l.drop i) = match cont (begun c (lenBy c)) ((l.take (i + lenBy c)).drop (i + 1)) with
    | none => none
    | some n => if isChar n = true ∧ (cb n).length = lenBy c then some (n, lenBy c) else none := by
  rw [drop_at h]
  show (if lenBy c = 0 ∨ (l.drop (i + 1)).length + 1 < lenBy c then none else _) = _
  rw [if_neg (by rw [List.length_drop]; omega), List.drop_take, show i + lenBy c - (i + 1) = lenBy c - 1 by omega]
  all_goals rfl
theorem cont_app : ∀ (x : List Nat) (n b : Nat), cont n (x ++ [b]) = (cont n x).bind fun v => if 128 ≤ b ∧ b < 192 then some (64 * v + b - 128) else none
  | [], n, b => rfl
  | a :: x, n, b => by
    show (if 128 ≤ a ∧ a < 192 then cont (64 * n + a - 128) (x ++ [b]) else none) = (if 128 ≤ a ∧ a < 192 then cont (64 * n + a - 128) x else none).bind _
    by_cases h : 128 ≤ a ∧ a < 192
    · rw [if_pos h, if_pos h]
      exact cont_app x _ b
    · rw [if_neg h, if_neg h]
      rfl
theorem cont_more {m : List Nat} {n j v b : Nat} (h : cont n (m.take j) = some v) (hb : m[j]? = some b) (hr : 128 ≤ b ∧ b < 192) : cont n (m.take (j + 1)) = some (64 * v + b - 128) := by
  rw [Sx.take_more hb, cont_app, h]
  exact if_pos hr
theorem cont_none {m : List Nat} {n j b : Nat} (hb : m[j]? = some b) (hr : ¬ (128 ≤ b ∧ b < 192)) : cont n m = none := by
  cases e : cont n m with
  | none => rfl
  | some v => exact absurd (cont_some e b (List.mem_of_getElem? hb)) hr
theorem chN_at {l : List Nat} {i : Nat} (hb : ∀ x ∈ l, x < 256) (hi : i < l.length) : (dec (l.drop i) = none → chN (l.drop i) = none) ∧ ∀ v k, dec (l.drop i) = some (v, k) → 1 ≤ k ∧ i + k ≤ l.length ∧ chN (l.drop i) = (chN (l.drop (i + k))).map fun t => v :: t := by
  have hne : l.drop i ≠ [] := by
    intro e
    have := congrArg List.length e
    rw [List.length_drop, List.length_nil] at this
    omega
  have h := chN_step (fun x hx => hb x (List.mem_of_mem_drop hx)) hne
  refine ⟨fun e => by rw [h, e], fun v k e => ?_⟩
  obtain ⟨_, h2, h3, h4, _⟩ := dec_some e
  have hl := congrArg List.length h3
  rw [List.length_append, List.length_drop, List.length_drop, List.length_drop] at hl
  refine ⟨h4, by omega, ?_⟩
  rw [h, e]
  show Option.map (fun t => v :: t) (chN ((l.drop i).drop k)) = _
  rw [List.drop_drop]
end Lx
namespace Sx
open PySem PySem.Spec PyProof.Rows L2
section
variable {P : Program} {w : World} {K : PySem.W.Frag} {mg : PySem.Str → Option Value} {base : Heap}
/-! is_character -/
abbrev s_isch : Stmt := top 4
theorem sc_isch : FnScope ["number"] ["number"] (defScope s_isch) := ⟨rfl, rfl, rfl, by decide +kernel, rfl, by decide +kernel, by decide +kernel⟩
def sp_isch : Sp := fun vs H Q _ => ∃ n : Nat, vs = [.int (n : Int)] ∧ Q (.bl (Sy.isChar n)) H
theorem ok_isch (D : DefAt K mg "is_character" s_isch ["number"]) (T : Txt mg) : C8.Cal P w K mg base 1 "is_character" sp_isch [] := by
  refine cal_of D sc_isch (fun vs H Q E h => ?_) (fun f cdv A outer s H vs Q E hr h => ?_)
  · obtain ⟨n, rfl, _⟩ := h
    rfl
  · obtain ⟨n, rfl, k⟩ := h
    refine ⟨_, pss_one (ps_ret (pe_and (pe_chain op_le op_lt pe_int (pv 0) (pe_gi rfl T.limit)) (pe_one (pe_not (pe_chain op_le op_le (pe_gi rfl T.fbar) (pv 0) (pe_gi rfl T.lbar)))))), ?_⟩
    walk_at "sx"
    exact Lx.isch_fin (p := fun b => Q (.bl b) H) k
/-! are_characters -/
abbrev s_arech : Stmt := top 5
theorem sc_arech : FnScope ["row", "number"] ["row"] (defScope s_arech) := ⟨rfl, rfl, rfl, by decide +kernel, rfl, by decide +kernel, by decide +kernel⟩
def sp_allN (K : PySem.W.Frag) (p : Nat → Bool) : Sp := fun vs H Q _ => ∃ (a : Addr) (l : List Nat), vs = [.ref a] ∧ SqL K H a (vN l) ∧ Q (.bl (l.all p)) H
theorem ok_arech (D : DefAt K mg "are_characters" s_arech ["row"]) (G : C8.Cal P w K mg base 1 "is_character" sp_isch []) : C8.Cal P w K mg base 2 "are_characters" (sp_allN K Sy.isChar) [] := by
  refine cal_of D sc_arech (fun vs H Q E h => ?_) (fun f cdv A outer s H vs Q E hr h => ?_)
  · obtain ⟨a, l, rfl, _⟩ := h
    rfl
  · obtain ⟨a, l, rfl, hl, k⟩ := h
    refine ⟨_, pss_cons (ps_for PassesOwn.never rfl (pi_list (pv 0)) (pg_name (i := 1) sc_arech.nd rfl (.inl rfl)) (pss_one (ps_if (pt_not (pt_val (C8.pe_c G hr (by decide) rfl (pa_cons (pv 1) pa_nil)))) (pss_one (ps_ret pe_bl)) pss_nil))) (pss_one (ps_ret pe_bl)), ?_⟩
    refine sforN (l := l) rfl hl (fun i σ H' => H' = H ∧ (∃ v, σ = [some (.ref a), v]) ∧ (l.take i).all Sy.isChar = true) ⟨rfl, ⟨_, rfl⟩, rfl⟩ (fun i σ H' _ p => by rw [p.1]; exact hl) ?_ ?_
    · rintro i n σ H' hi ⟨rfl, ⟨v, rfl⟩, ha⟩
      walk_at "sx"
      refine ⟨n, rfl, _, rfl, fun h => ?_, fun h => ⟨rfl, Lx.all_more hi ha h⟩⟩
      rw [Lx.all_not hi h] at k
      exact k
    · rintro σ H' ⟨rfl, ⟨v, rfl⟩, ha⟩
      walk_at "sx"
      rw [Lx.all_take_end ha] at k
      exact k
/-! may_stand -/
abbrev s_may : Stmt := top 6
theorem sc_may : FnScope ["number"] ["number"] (defScope s_may) := ⟨rfl, rfl, rfl, by decide +kernel, rfl, by decide +kernel, by decide +kernel⟩
def sp_may : Sp := fun vs H Q _ => ∃ n : Nat, vs = [.int (n : Int)] ∧ Q (.bl (Sy.isSign n)) H
theorem ok_may (D : DefAt K mg "may_stand" s_may ["number"]) (G : C8.Cal P w K mg base 1 "is_character" sp_isch []) : C8.Cal P w K mg base 2 "may_stand" sp_may [] := by
  refine cal_of D sc_may (fun vs H Q E h => ?_) (fun f cdv A outer s H vs Q E hr h => ?_)
  · obtain ⟨n, rfl, _⟩ := h
    rfl
  · obtain ⟨n, rfl, k⟩ := h
    refine ⟨_, pss_one (ps_ret (pe_and (C8.pe_c G hr (by decide) rfl (pa_cons (pv 0) pa_nil)) (pe_and (pe_cmpR op_gt (pv 0) pe_int (nomark _)) (pe_one (pe_cmpR op_ne (pv 0) pe_int (nomark _)))))), ?_⟩
    walk_at "sx"
    refine ⟨n, rfl, Sy.isChar n, rfl, ?_⟩
    exact Lx.sign_fin (p := fun b => Q (.bl b) H) k
/-! all_may_stand -/
abbrev s_allmay : Stmt := top 7
theorem sc_allmay : FnScope ["row", "number"] ["row"] (defScope s_allmay) := ⟨rfl, rfl, rfl, by decide +kernel, rfl, by decide +kernel, by decide +kernel⟩
theorem ok_allmay (D : DefAt K mg "all_may_stand" s_allmay ["row"]) (G : C8.Cal P w K mg base 2 "may_stand" sp_may []) : C8.Cal P w K mg base 3 "all_may_stand" (sp_allN K Sy.isSign) [] := by
  refine cal_of D sc_allmay (fun vs H Q E h => ?_) (fun f cdv A outer s H vs Q E hr h => ?_)
  · obtain ⟨a, l, rfl, _⟩ := h
    rfl
  · obtain ⟨a, l, rfl, hl, k⟩ := h
    refine ⟨_, pss_cons (ps_for PassesOwn.never rfl (pi_list (pv 0)) (pg_name (i := 1) sc_allmay.nd rfl (.inl rfl)) (pss_one (ps_if (pt_not (pt_val (C8.pe_c G hr (by decide) rfl (pa_cons (pv 1) pa_nil)))) (pss_one (ps_ret pe_bl)) pss_nil))) (pss_one (ps_ret pe_bl)), ?_⟩
    refine sforN (l := l) rfl hl (fun i σ H' => H' = H ∧ (∃ v, σ = [some (.ref a), v]) ∧ (l.take i).all Sy.isSign = true) ⟨rfl, ⟨_, rfl⟩, rfl⟩ (fun i σ H' _ p => by rw [p.1]; exact hl) ?_ ?_
    · rintro i n σ H' hi ⟨rfl, ⟨v, rfl⟩, ha⟩
      walk_at "sx"
      refine ⟨n, rfl, _, rfl, fun h => ?_, fun h => ⟨rfl, Lx.all_more hi ha h⟩⟩
      rw [Lx.all_not hi h] at k
      exact k
    · rintro σ H' ⟨rfl, ⟨v, rfl⟩, ha⟩
      walk_at "sx"
      rw [Lx.all_take_end ha] at k
      exact k
/-! character_bytes -/
abbrev s_chb : Stmt := top 8
theorem sc_chb : FnScope ["number"] ["number"] (defScope s_chb) := ⟨rfl, rfl, rfl, by decide +kernel, rfl, by decide +kernel, by decide +kernel⟩
def sp_chb : Sp := fun vs H Q _ => ∃ n : Nat, vs = [.int (n : Int)] ∧ ∀ p, H p = none → Q (.ref p) (upd H p (.lst (vN (Lx.cb n))))
theorem ok_chb (D : DefAt K mg "character_bytes" s_chb ["number"]) : C8.Cal P w K mg base 1 "character_bytes" sp_chb [] := by
  refine cal_of D sc_chb (fun vs H Q E h => ?_) (fun f cdv A outer s H vs Q E hr h => ?_)
  · obtain ⟨n, rfl, _⟩ := h
    rfl
  · obtain ⟨n, rfl, k⟩ := h
    refine ⟨_, pss_cons (ps_if (pt_cmpR op_lt (pv 0) pe_int (nomark _)) (pss_one (ps_ret (pe_lst (pa_cons (pv 0) pa_nil)))) pss_nil)
      (pss_cons (ps_if (pt_cmpR op_lt (pv 0) pe_int (nomark _)) (pss_one (ps_ret (pe_lst (pa_cons (pe_op op_add pe_int (pe_op op_fdiv (pv 0) pe_int)) (pa_cons (pe_op op_add pe_int (pe_op op_mod (pv 0) pe_int)) pa_nil))))) pss_nil)
      (pss_cons (ps_if (pt_cmpR op_lt (pv 0) pe_int (nomark _)) (pss_one (ps_ret (pe_lst (pa_cons (pe_op op_add pe_int (pe_op op_fdiv (pv 0) pe_int)) (pa_cons (pe_op op_add pe_int (pe_op op_mod (pe_op op_fdiv (pv 0) pe_int) pe_int)) (pa_cons (pe_op op_add pe_int (pe_op op_mod (pv 0) pe_int)) pa_nil)))))) pss_nil)
      (pss_one (ps_ret (pe_lst (pa_cons (pe_op op_add pe_int (pe_op op_fdiv (pv 0) pe_int)) (pa_cons (pe_op op_add pe_int (pe_op op_mod (pe_op op_fdiv (pv 0) pe_int) pe_int)) (pa_cons (pe_op op_add pe_int (pe_op op_mod (pe_op op_fdiv (pv 0) pe_int) pe_int)) (pa_cons (pe_op op_add pe_int (pe_op op_mod (pv 0) pe_int)) pa_nil))))))))), ?_⟩
    walk_at "sx"
    refine ⟨fun h1 => ⟨by decide, fun p hp => ?_⟩, fun h1 => ⟨fun h2 => ⟨by decide, by decide, by decide, fun p hp => ?_⟩, fun h2 => ⟨fun h3 => ⟨by decide, by decide, by decide, by decide, by decide, fun p hp => ?_⟩, fun h3 => ⟨by decide, by decide, by decide, by decide, by decide, by decide, by decide, fun p hp => ?_⟩⟩⟩⟩
    · have := k p hp
      rw [Lx.cb1 h1] at this
      exact this
    · have := k p hp
      rw [Lx.cb2 h1 h2] at this
      exact this
    · have := k p hp
      rw [Lx.cb3 h1 h2 h3] at this
      exact this
    · have := k p hp
      rw [Lx.cb4 h1 h2 h3] at this
      exact this
/-! row_bytes -/
abbrev s_rowb : Stmt := top 9
theorem sc_rowb : FnScope ["row", "found", "number"] ["row"] (defScope s_rowb) := ⟨rfl, rfl, rfl, by decide +kernel, rfl, by decide +kernel, by decide +kernel⟩
def sp_rowb (K : PySem.W.Frag) : Sp := fun vs H Q _ => ∃ (a : Addr) (l : List Nat), vs = [.ref a] ∧ SqT K H a (vN l) ∧ l.length ≤ 1000 ∧ RNew (vN (Lx.cbs l)) H Q
theorem ok_rowb (D : DefAt K mg "row_bytes" s_rowb ["row"]) (G : C8.Cal P w K mg base 1 "character_bytes" sp_chb []) : C8.Cal P w K mg base 2 "row_bytes" (sp_rowb K) [] := by
  refine cal_of D sc_rowb (fun vs H Q E h => ?_) (fun f cdv A outer s H vs Q E hr h => ?_)
  · obtain ⟨a, l, rfl, _⟩ := h
    rfl
  · obtain ⟨a, l, rfl, hl, hz, k⟩ := h
    refine ⟨_, pss_cons (ps_set (i := 1) sc_rowb.nd rfl (.inl rfl) (pe_lst pa_nil))
      (pss_cons (ps_for PassesOwn.never rfl (pi_tup (pv 0)) (pg_name (i := 2) sc_rowb.nd rfl (.inl rfl)) (pss_one (ps_expr (pe_bm PySem.F.plainAttrs_list PySem.F.slot_list_extend PySem.F.type_list_extend mt_extend (pv 1) (pa_cons (C8.pe_c G hr (by decide) rfl (pa_cons (pv 2) pa_nil)) pa_nil)))))
      (pss_one (ps_ret (pv 1)))), ?_⟩
    walk_at "sx"
    refine ⟨Nat.zero_le _, fun p hp => ?_⟩
    refine sforT (l := l) rfl (Same.tup (Same.new hp) hl) (fun i σ H' => (∃ v, σ = [some (.ref a), some (.ref p), v]) ∧ Same H H' ∧ H' p = some (.lst (vN (Lx.cbs (l.take i))))) ⟨⟨_, rfl⟩, Same.new hp, upd_same⟩ (fun i σ H' _ p => Same.tup p.2.1 hl) ?_ ?_
    · rintro i n σ H' hi ⟨⟨v, rfl⟩, sm, hf⟩
      walk_at "sx"
      refine ⟨ty_list hf, n, rfl, fun q hq => ?_⟩
      have hpq : p ≠ q := ne_of_none hf hq
      walk_at "sx"
      refine ⟨_, by rw [upd_ne hpq]; exact hf, _, upd_same, ?_, Same.mut (Same.trans sm (Same.new hq)) hp, ?_⟩
      · rw [vN_len, vN_len]
        have h1 := Lx.cbs_len (l.take i)
        have h2 := (Lx.cb_pos n).2
        rw [List.length_take] at h1
        exact szl (by omega)
      · rw [upd_same, Lx.cbs_more hi, vN_app]
    · rintro σ H' ⟨⟨v, rfl⟩, sm, hf⟩
      walk_at "sx"
      rw [List.take_length] at hf
      exact k p H' hp sm hf
/-! length_by -/
abbrev s_lenby : Stmt := top 10
theorem sc_lenby : FnScope ["byte"] ["byte"] (defScope s_lenby) := ⟨rfl, rfl, rfl, by decide +kernel, rfl, by decide +kernel, by decide +kernel⟩
def sp_lenby : Sp := fun vs H Q _ => ∃ n : Nat, vs = [.int (n : Int)] ∧ Q (.int (Lx.lenBy n : Nat)) H
theorem ok_lenby (D : DefAt K mg "length_by" s_lenby ["byte"]) : C8.Cal P w K mg base 1 "length_by" sp_lenby [] := by
  refine cal_of D sc_lenby (fun vs H Q E h => ?_) (fun f cdv A outer s H vs Q E hr h => ?_)
  · obtain ⟨n, rfl, _⟩ := h
    rfl
  · obtain ⟨n, rfl, k⟩ := h
    refine ⟨_, pss_cons (ps_if (pt_cmpR op_lt (pv 0) pe_int (nomark _)) (pss_one (ps_ret pe_int)) pss_nil)
      (pss_cons (ps_if (pt_chain op_le op_lt pe_int (pv 0) pe_int) (pss_one (ps_ret pe_int)) pss_nil)
      (pss_cons (ps_if (pt_chain op_le op_lt pe_int (pv 0) pe_int) (pss_one (ps_ret pe_int)) pss_nil)
      (pss_cons (ps_if (pt_chain op_le op_lt pe_int (pv 0) pe_int) (pss_one (ps_ret pe_int)) pss_nil)
      (pss_one (ps_ret pe_int))))), ?_⟩
    walk_at "sx"
    have e : ∀ v : Nat, Lx.lenBy n = v → Q (.int (v : Int)) H := fun v ev => by rw [ev] at k; exact k
    repeat' first | apply And.intro | intro _
    all_goals first | exact e 1 (Lx.len1 (by omega)) | exact e 2 (Lx.len2 (by omega)) | exact e 3 (Lx.len3 (by omega)) | exact e 4 (Lx.len4 (by omega)) | exact e 0 (Lx.len0 (by omega))
/-! begun_with -/
abbrev s_begun : Stmt := top 11
theorem sc_begun : FnScope ["byte", "long"] ["byte", "long"] (defScope s_begun) := ⟨rfl, rfl, rfl, by decide +kernel, rfl, by decide +kernel, by decide +kernel⟩
def sp_begun : Sp := fun vs H Q _ => ∃ n : Nat, vs = [.int (n : Int), .int (Lx.lenBy n : Nat)] ∧ 1 ≤ Lx.lenBy n ∧ Q (.int (Lx.begun n (Lx.lenBy n) : Nat)) H
theorem ok_begun (D : DefAt K mg "begun_with" s_begun ["byte", "long"]) : C8.Cal P w K mg base 1 "begun_with" sp_begun [] := by
  refine cal_of D sc_begun (fun vs H Q E h => ?_) (fun f cdv A outer s H vs Q E hr h => ?_)
  · obtain ⟨n, rfl, _⟩ := h
    rfl
  · obtain ⟨n, rfl, h1, k⟩ := h
    refine ⟨_, pss_cons (ps_if (pt_cmpR op_eq (pv 1) pe_int (nomark _)) (pss_one (ps_ret (pv 0))) pss_nil)
      (pss_cons (ps_if (pt_cmpR op_eq (pv 1) pe_int (nomark _)) (pss_one (ps_ret (pe_op op_sub (pv 0) pe_int))) pss_nil)
      (pss_cons (ps_if (pt_cmpR op_eq (pv 1) pe_int (nomark _)) (pss_one (ps_ret (pe_op op_sub (pv 0) pe_int))) pss_nil)
      (pss_one (ps_ret (pe_op op_sub (pv 0) pe_int))))), ?_⟩
    obtain ⟨e1, e2, e3, e4⟩ := Lx.begun_int h1
    walk_at "sx"
    have e : ∀ v : Int, v = (Lx.begun n (Lx.lenBy n) : Nat) → Q (.int v) H := fun v ev => by rw [ev]; exact k
    exact ⟨fun h => e _ (e1 (by omega)), fun g1 => ⟨fun h => e _ (e2 (by omega)), fun g2 => ⟨fun h => e _ (e3 (by omega)), fun g3 => e _ (e4 (by omega) (by omega) (by omega))⟩⟩⟩
/-! character_at -/
abbrev s_chat : Stmt := top 12
theorem sc_chat : FnScope ["row", "at", "long", "number", "byte"] ["row", "at"] (defScope s_chat) := ⟨rfl, rfl, rfl, by decide +kernel, rfl, by decide +kernel, by decide +kernel⟩
def decV : Option (Nat × Nat) → List V
  | some (v, k) => [.int (v : Int), .int (k : Int)]
  | none => [.int (-1), .int 0]
def sp_chat (K : PySem.W.Frag) : Sp := fun vs H Q _ => ∃ (a : Addr) (l : List Nat) (i : Nat), vs = [.ref a, .int (i : Int)] ∧ SqL K H a (vN l) ∧ i < l.length ∧ RNew (decV (Lx.dec (l.drop i))) H Q
theorem ok_chat (D : DefAt K mg "character_at" s_chat ["row", "at"]) (T : Txt mg) (G1 : C8.Cal P w K mg base 1 "length_by" sp_lenby []) (G2 : C8.Cal P w K mg base 1 "begun_with" sp_begun [])
    (G3 : C8.Cal P w K mg base 1 "is_character" sp_isch []) (G4 : C8.Cal P w K mg base 1 "character_bytes" sp_chb []) : C8.Cal P w K mg base 2 "character_at" (sp_chat K) [] := by
  refine cal_of D sc_chat (fun vs H Q E h => ?_) (fun f cdv A outer s H vs Q E hr h => ?_)
  · obtain ⟨a, l, i, rfl, _⟩ := h
    rfl
  · obtain ⟨a, l, i, rfl, hl, hi, k⟩ := h
    refine ⟨_, pss_cons (ps_set (i := 2) sc_chat.nd rfl (.inl rfl) (C8.pe_c G1 hr (by decide) rfl (pa_cons (pe_ix ix_list (pv 0) (pv 1) (fun _ _ => rfl)) pa_nil)))
      (pss_cons (ps_if (PW.pt (pw_or (pt_cmpR op_eq (pv 2) pe_int (nomark _)) (pw_or1 (pt_cmpR op_gt (pe_op op_add (pv 1) (pv 2)) (pe_callB call_len_seq (by rfl) T.len PySem.boot_len (pa_cons (pv 0) pa_nil)) (nomark _)))))
        (pss_one (ps_ret (pe_lst (pa_cons (pe_un un_neg pe_int) (pa_cons pe_int pa_nil))))) pss_nil)
      (pss_cons (ps_set (i := 3) sc_chat.nd rfl (.inl rfl) (C8.pe_c G2 hr (by decide) rfl (pa_cons (pe_ix ix_list (pv 0) (pv 1) (fun _ _ => rfl)) (pa_cons (pv 2) pa_nil))))
      (pss_cons (ps_for PassesOwn.never rfl (pi_list (pe_slice sl_list (pv 0) (po_some (pe_op op_add (pv 1) pe_int)) (po_some (pe_op op_add (pv 1) (pv 2))))) (pg_name (i := 4) sc_chat.nd rfl (.inl rfl))
        (pss_cons (ps_if (pt_not (pt_chain op_le op_lt pe_int (pv 4) pe_int)) (pss_one (ps_ret (pe_lst (pa_cons (pe_un un_neg pe_int) (pa_cons pe_int pa_nil))))) pss_nil)
        (pss_one (ps_set (i := 3) sc_chat.nd rfl (.inl rfl) (pe_op op_sub (pe_op op_add (pe_op op_mul pe_int (pv 3)) (pv 4)) pe_int)))))
      (pss_cons (ps_if (PW.pt (pw_or (pt_not (pt_val (C8.pe_c G3 hr (by decide) rfl (pa_cons (pv 3) pa_nil)))) (pw_or1 (pt_cmpR op_ne (pe_callB call_len_seq (by rfl) T.len PySem.boot_len (pa_cons (C8.pe_c G4 hr (by decide) rfl (pa_cons (pv 3) pa_nil)) pa_nil)) (pv 2) (nomark _)))))
        (pss_one (ps_ret (pe_lst (pa_cons (pe_un un_neg pe_int) (pa_cons pe_int pa_nil))))) pss_nil)
      (pss_one (ps_ret (pe_lst (pa_cons (pv 3) (pa_cons (pv 2) pa_nil))))))))), ?_⟩
    walk_at "sx"
    obtain ⟨c, hc⟩ : ∃ c, l[i]? = some c := ⟨_, List.getElem?_eq_getElem hi⟩
    have hcv := atI_nat (vN_get hc)
    refine ⟨_, hl, _, hcv, c, rfl, ?_⟩
    walk_at "sx"
    have kn : Lx.dec (l.drop i) = none → ∀ (p : Addr) (H' : Hp), H' p = none → Same H H' → Q (.ref p) (upd H' p (.lst [.int (-1), .int 0])) := fun e p H' hp sm => by
      refine k p _ (Same.free sm hp) (Same.trans sm (Same.new hp)) ?_
      rw [e]
      exact upd_same
    refine ⟨fun h => ⟨by decide, fun p hp => kn (Lx.dec_none1 hc (.inl (by omega))) p H hp (Same.refl H)⟩, fun h0 => ⟨_, .inl hl, fun h => ?_, fun h1 => ?_⟩⟩
    · rw [vN_len] at h
      exact ⟨by decide, fun p hp => kn (Lx.dec_none1 hc (.inr (by omega))) p H hp (Same.refl H)⟩
    · rw [vN_len] at h1
      have hmid := Lx.dec_mid hc (by omega) (by omega)
      refine ⟨_, hl, _, hcv, c, rfl, by omega, ?_⟩
      refine sforSl (l := l) (m := (l.take (i + Lx.lenBy c)).drop (i + 1)) (lo := some ((i + 1 : Nat) : Int)) (hi := some ((i + Lx.lenBy c : Nat) : Int)) (fun R r => ⟨_, rfl, r⟩) (fun R r => ?_) (fun R r => ?_) hl (cut_nat _ _ _)
        (fun p hp => ⟨fun j σ H' => (∃ (v : Nat) (x : Option V), σ = [some (.ref a), some (.int i), some (.int (Lx.lenBy c : Nat)), some (.int (v : Int)), x] ∧ Lx.cont (Lx.begun c (Lx.lenBy c)) (((l.take (i + Lx.lenBy c)).drop (i + 1)).take j) = some v) ∧ H' = upd H p (.lst (vN ((l.take (i + Lx.lenBy c)).drop (i + 1)))),
          ⟨⟨_, _, rfl, rfl⟩, rfl⟩, fun j σ H' _ q => by rw [q.2]; exact upd_same, ?_, ?_⟩)
      · walk_at "sx"
        exact r
      · walk_at "sx"
        exact r
      · rintro j b σ H' hb ⟨⟨v, x, rfl, hv⟩, rfl⟩
        walk_at "sx"
        refine ⟨fun g1 => ⟨fun g2 => ⟨by decide, fun q hq => ?_⟩, fun g2 => ⟨.inl (by decide), 64 * v + b - 128, by omega, Lx.cont_more hv hb (by omega)⟩⟩, fun g1 => ⟨by decide, fun q hq => ?_⟩⟩
        · rw [Lx.cont_none hb (by omega)] at hmid
          exact kn hmid q _ hq (Same.new hp)
        · rw [Lx.cont_none hb (by omega)] at hmid
          exact kn hmid q _ hq (Same.new hp)
      · rintro σ H' ⟨⟨v, x, rfl, hv⟩, rfl⟩
        rw [List.take_length] at hv
        rw [hv] at hmid
        walk_at "sx"
        refine ⟨v, rfl, _, rfl, fun g => ⟨by decide, fun q hq => ?_⟩, fun g => ⟨v, rfl, fun q hq => ⟨q, rfl, _, .inl (SqL.of upd_same), fun g2 => ⟨by decide, fun r hr2 => ?_⟩, fun g2 => ⟨by decide, fun r hr2 => ?_⟩⟩⟩⟩
        · refine kn (hmid.trans ?_) q _ hq (Same.new hp)
          exact if_neg (fun z => by rw [g] at z; exact absurd z.1 (by decide))
        · rw [vN_len] at g2
          have g3 : ¬ (Lx.cb v).length = Lx.lenBy c := by omega
          refine kn (hmid.trans ?_) r _ hr2 (Same.trans (Same.new hp) (Same.new hq))
          exact if_neg (fun z => g3 z.2)
        · rw [vN_len] at g2
          have g3 : (Lx.cb v).length = Lx.lenBy c := by omega
          have e := hmid.trans (if_pos ⟨g, g3⟩)
          have sm := Same.trans (Same.new (o := .lst (vN ((l.take (i + Lx.lenBy c)).drop (i + 1)))) hp) (Same.new (o := .lst (vN (Lx.cb v))) hq)
          refine k r _ (Same.free sm hr2) (Same.trans sm (Same.new hr2)) ?_
          rw [e]
          exact upd_same
/-! characters_of -/
abbrev s_chof : Stmt := top 13
theorem sc_chof : FnScope ["row", "found", "at", "number", "long"] ["row"] (defScope s_chof) := ⟨rfl, rfl, rfl, by decide +kernel, rfl, by decide +kernel, by decide +kernel⟩
/-- a list of one list, or an empty one -/
def OneAt (H : Hp) (p : Addr) (o : Option (List Nat)) : Prop := match o with
  | none => H p = some (.lst [])
  | some t => ∃ q, H p = some (.lst [.ref q]) ∧ H q = some (.lst (vN t))
def sp_chof (K : PySem.W.Frag) : Sp := fun vs H Q _ => ∃ (a : Addr) (l : List Nat), vs = [.ref a] ∧ SqL K H a (vN l) ∧ l.length ≤ 100000 ∧ (∀ x ∈ l, x < 256) ∧
  ∀ p H', Same H H' → H p = none → OneAt H' p (Lx.chN l) → Q (.ref p) H'
theorem ok_chof (D : DefAt K mg "characters_of" s_chof ["row"]) (T : Txt mg) (G : C8.Cal P w K mg base 2 "character_at" (sp_chat K) []) : C8.Cal P w K mg base 3 "characters_of" (sp_chof K) [] := by
  refine cal_of D sc_chof (fun vs H Q E h => ?_) (fun f cdv A outer s H vs Q E hr h => ?_)
  · obtain ⟨a, l, rfl, _⟩ := h
    rfl
  · obtain ⟨a, l, rfl, hl, hz, hb, k⟩ := h
    refine ⟨_, pss_cons (ps_set (i := 1) sc_chof.nd rfl (.inl rfl) (pe_lst pa_nil))
      (pss_cons (ps_set (i := 2) sc_chof.nd rfl (.inl rfl) pe_int)
      (pss_cons (ps_while PassesOwn.never (pt_cmpR op_lt (pv 2) (pe_callB call_len_seq (by rfl) T.len PySem.boot_len (pa_cons (pv 0) pa_nil)) (nomark _))
        (pss_cons (ps_asg (C8.pe_c G hr (by decide) rfl (pa_cons (pv 0) (pa_cons (pv 2) pa_nil))) (pg_unl (n := 2) rfl (pgs_cons (pg_name (i := 3) sc_chof.nd rfl (.inl rfl)) (pgs_cons (pg_name (i := 4) sc_chof.nd rfl (.inl rfl)) pgs_nil))))
        (pss_cons (ps_if (pt_cmpR op_eq (pv 4) pe_int (nomark _)) (pss_one (ps_ret (pe_lst pa_nil))) pss_nil)
        (pss_cons (ps_expr (pe_bm PySem.F.plainAttrs_list PySem.F.slot_list_append PySem.F.type_list_append mt_append (pv 1) (pa_cons (pv 3) pa_nil)))
        (pss_one (ps_aug (i := 2) sc_chof.nd rfl (.inl rfl) (pv 4) ip_add))))))
      (pss_one (ps_ret (pe_lst (pa_cons (pv 1) pa_nil)))))), ?_⟩
    walk_at "sx"
    refine ⟨Nat.zero_le _, fun p hp => ?_⟩
    refine while_by (fun σ H' => (∃ (i : Nat) (t : List Nat) (x y : Option V), σ = [some (.ref a), some (.ref p), some (.int (i : Int)), x, y] ∧ i ≤ l.length ∧ t.length ≤ i ∧ H' p = some (.lst (vN t)) ∧ Lx.chN l = (Lx.chN (l.drop i)).map fun r => t ++ r) ∧ Same H H')
      (fun σ _ => match σ with | _ :: _ :: some (.int i) :: _ => l.length - i.toNat | _ => 0) ⟨⟨0, [], none, none, rfl, Nat.zero_le _, Nat.zero_le _, upd_same, ?_⟩, Same.new hp⟩ ?_ ?_
    · rw [List.drop_zero]
      cases Lx.chN l <;> rfl
    · rintro σ H' ⟨⟨i, t, x, y, rfl, hi, ht, hf, e⟩, sm⟩
      have hl' := Same.seq sm hl
      walk_at "sx"
      refine ⟨_, .inl hl', fun g => ?_, fun g => ?_⟩
      · rw [vN_len] at g
        obtain ⟨c1, c2⟩ := Lx.chN_at hb (i := i) (by omega)
        refine ⟨a, l, i, rfl, hl', by omega, fun q H2 hq sm2 h2 => ⟨q, rfl, _, SqL.of h2, ?_⟩⟩
        cases ed : Lx.dec (l.drop i) with
        | none =>
          rw [c1 ed] at e
          refine ⟨rfl, _, _, rfl, _, _, rfl, rfl, rfl, fun _ => ⟨Nat.zero_le _, fun r hr2 => ?_⟩, fun z => absurd rfl z⟩
          have sm3 := Same.trans sm sm2
          refine k r _ (Same.trans sm3 (Same.new hr2)) (Same.free sm3 hr2) ?_
          rw [e]
          exact upd_same
        | some vk =>
          obtain ⟨v, kk⟩ := vk
          obtain ⟨c3, c4, c5⟩ := c2 v kk ed
          rw [c5] at e
          have hf2 := sm2 _ _ hf
          refine ⟨rfl, _, _, rfl, _, _, rfl, rfl, rfl, fun z => ?_, fun z => ⟨ty_list hf2, _, hf2, ?_, _, rfl, ⟨⟨i + kk, by omega, by omega, t ++ [v], ?_, ?_, ?_⟩, Same.mut (Same.trans sm sm2) hp⟩, ?_⟩⟩
          · exfalso
            have := V.int.inj z
            omega
          · rw [vN_len]
            exact szt (by omega)
          · rw [List.length_append, List.length_singleton]
            omega
          · rw [upd_same, vN_app]
            rfl
          · rw [e, Option.map_map]
            congr 1
            funext r
            show t ++ v :: r = t ++ [v] ++ r
            rw [List.append_assoc]
            rfl
          · omega
      · rw [vN_len] at g
        have hi2 : i = l.length := by omega
        rw [hi2, List.drop_length] at e
        refine ⟨by decide, fun q hq => k q _ (Same.trans sm (Same.new hq)) (Same.free sm hq) ?_⟩
        rw [e]
        refine ⟨p, upd_same, ?_⟩
        rw [upd_ne (ne_of_none hf hq), hf]
        show _ = some (HO.lst (vN (t ++ [])))
        rw [List.append_nil]
    · intro σ H Q Q' hq h
      obtain ⟨v, h1, v0, h2, p, ys, e0, hs, i, j, e1, e2, k2, e3, hh⟩ := h
      exact ⟨v, h1, v0, h2, p, ys, e0, hs, i, j, e1, e2, k2, e3, hq _ _ hh⟩
end
end Sx
/-! ## W2 -/
namespace Lx
open Sy
theorem word_ok (r t : Text) (x y c : Nat) : Word.ok ⟨r, t, x, y, c⟩ = (decide (1 ≤ r.length ∧ r.length ≤ 32) && (decide (1 ≤ t.length ∧ t.length ≤ 32) && (decide (x ≤ 255 ∧ y ≤ 255 ∧ c ≤ 65535) && (r.all isSign && t.all isSign)))) := by
  have e1 : (!r.isEmpty) = decide (1 ≤ r.length) := by cases r <;> simp
  have e2 : (!t.isEmpty) = decide (1 ≤ t.length) := by cases t <;> simp
  unfold Word.ok Word.small SIGNS SORTS COST
  simp only [e1, e2]
  rw [Bool.eq_iff_iff]
  simp only [Bool.and_eq_true, decide_eq_true_eq]
  constructor
  · rintro ⟨⟨h1, h2, h3, h4, h5⟩, h6, h7, h8, h9⟩
    exact ⟨⟨h6, h1⟩, ⟨h7, h2⟩, ⟨by omega, by omega, h5⟩, h8, h9⟩
  · rintro ⟨⟨h6, h1⟩, ⟨h7, h2⟩, ⟨h3, h4, h5⟩, h8, h9⟩
    exact ⟨⟨h1, h2, by omega, by omega, h5⟩, h6, h7, h8, h9⟩
theorem pre_take : ∀ (l m : List Nat), decide (m.take l.length = l) = l.isPrefixOf m
  | [], m => by simp
  | a :: l, [] => by simp
  | a :: l, b :: m => by
    rw [List.isPrefixOf_cons₂, ← pre_take l m, List.length_cons, List.take_succ_cons]
    rw [Bool.eq_iff_iff]
    simp only [decide_eq_true_eq, Bool.and_eq_true, beq_iff_eq, List.cons.injEq]
    exact ⟨fun h => ⟨h.1.symm, h.2⟩, fun h => ⟨h.1.symm, h.2⟩⟩
end Lx
namespace Sx
open PySem PySem.Spec PyProof.Rows L2
/-! what lies in the heap -/
def WordAt (H : Hp) (a : Addr) (w : Sy.Word) : Prop := ∃ r t : Addr, H a = some (.tup [.ref r, .int (w.cost : Int), .ref t, .int (w.left : Int), .int (w.right : Int)]) ∧ H r = some (.tup (vN w.reading)) ∧ H t = some (.tup (vN w.text))
theorem WordAt.same {H H' : Hp} {a : Addr} {w : Sy.Word} (e : Same H H') (h : WordAt H a w) : WordAt H' a w := by
  obtain ⟨r, t, h1, h2, h3⟩ := h
  exact ⟨r, t, e _ _ h1, e _ _ h2, e _ _ h3⟩
/-- a row of numbers, as a list or as a tuple -/
def RowAt (K : PySem.W.Frag) (H : Hp) (x : V) (l : List Nat) : Prop := ∃ a, x = .ref a ∧ (SqL K H a (vN l) ∨ SqT K H a (vN l))
theorem RowAt.same {K : PySem.W.Frag} {H H' : Hp} {x : V} {l : List Nat} (e : Same H H') (h : RowAt K H x l) : RowAt K H' x l := by
  obtain ⟨a, rfl, h⟩ := h
  exact ⟨a, rfl, h.imp (Same.seq e) (Same.tup e)⟩
theorem vN_inj {a b : List Nat} (h : vN a = vN b) : a = b := by
  unfold vN at h
  exact (List.map_inj_right (fun x y e => by have := V.int.inj e; omega)).mp h
theorem dpAll_vN {K : PySem.W.Frag} {H : Hp} : ∀ (l : List Nat), DpAll K H (vN l) (l.map fun (n : Nat) => PyData.int (n : Int))
  | [] => .nil
  | n :: l => .cons (.int _) (dpAll_vN l)
theorem dpT {K : PySem.W.Frag} {H : Hp} {a : Addr} {l : List Nat} (h : SqT K H a (vN l)) : Dp K H (.ref a) (.tuple (l.map fun (n : Nat) => PyData.int (n : Int))) := .tup h (dpAll_vN l)
theorem dpL {K : PySem.W.Frag} {H : Hp} {a : Addr} {l : List Nat} (h : SqL K H a (vN l)) : Dp K H (.ref a) (.list (l.map fun (n : Nat) => PyData.int (n : Int))) := .lst h (dpAll_vN l)
theorem canLay_ints : ∀ l : List Nat, PyData.canLayAll0 (l.map fun (n : Nat) => PyData.int (n : Int)) = true
  | [] => rfl
  | n :: l => by
    show (PyData.canLay0 (.int n) && PyData.canLayAll0 (l.map fun (n : Nat) => PyData.int (n : Int))) = true
    rw [canLay_ints l]
    rfl
theorem depth_intsN : ∀ l : List Nat, PyData.depthAll (l.map fun (n : Nat) => PyData.int (n : Int)) = 0
  | [] => rfl
  | n :: l => by
    show max (PyData.depth (.int n)) (PyData.depthAll (l.map fun (n : Nat) => PyData.int (n : Int))) = 0
    rw [depth_intsN l]
    rfl
theorem shapedT (l : List Nat) : SeqAt.shaped (.tuple (l.map fun (n : Nat) => PyData.int (n : Int))) = true := by
  unfold SeqAt.shaped
  show (PyData.canLayAll0 _ && decide (PyData.depthAll _ + 1 ≤ 64)) = true
  rw [canLay_ints, depth_intsN]
  rfl
theorem shapedL (l : List Nat) : SeqAt.shaped (.list (l.map fun (n : Nat) => PyData.int (n : Int))) = true := by
  unfold SeqAt.shaped
  show (PyData.canLayAll0 _ && decide (PyData.depthAll _ + 1 ≤ 64)) = true
  rw [canLay_ints, depth_intsN]
  rfl
theorem eqvAllN : ∀ l m : List Nat, PyData.eqvAll (l.map fun (n : Nat) => PyData.int (n : Int)) (m.map fun (n : Nat) => PyData.int (n : Int)) = decide (l = m)
  | [], [] => rfl
  | [], _ :: _ => rfl
  | _ :: _, [] => rfl
  | a :: l, b :: m => by
    show (((a : Int) == (b : Int)) && PyData.eqvAll (l.map fun (n : Nat) => PyData.int (n : Int)) (m.map fun (n : Nat) => PyData.int (n : Int))) = _
    rw [eqvAllN l m, Bool.eq_iff_iff]
    simp only [Bool.and_eq_true, beq_iff_eq, decide_eq_true_eq, List.cons.injEq]
    exact ⟨fun h => ⟨by omega, h.2⟩, fun h => ⟨by omega, h.2⟩⟩
theorem eqvT (l m : List Nat) : PyData.eqv (.tuple (l.map fun (n : Nat) => PyData.int (n : Int))) (.tuple (m.map fun (n : Nat) => PyData.int (n : Int))) = decide (l = m) := eqvAllN l m
theorem eqvL (l m : List Nat) : PyData.eqv (.list (l.map fun (n : Nat) => PyData.int (n : Int))) (.list (m.map fun (n : Nat) => PyData.int (n : Int))) = decide (l = m) := eqvAllN l m
/-- two tuples of numbers are compared -/
theorem rEqD_T {K : PySem.W.Frag} {H : Hp} {a b : Addr} {l m : List Nat} {Q : VK} (h1 : SqT K H a (vN l)) (h2 : SqT K H b (vN m)) (q : Q (.bl (decide (l = m))) H) : rEqD K (.ref a) (.ref b) H Q := by
  refine ⟨_, _, dpT h1, dpT h2, shapedT l, shapedT m, ?_⟩
  rw [eqvT]
  exact q
/-- tuple(x) of a row -/
theorem kTup_row {K : PySem.W.Frag} {H : Hp} {x : V} {l : List Nat} {Q : VK} (h : RowAt K H x l) (q : ∀ p H', Same H H' → SqT K H' p (vN l) → Q (.ref p) H') : kTup K x H Q := by
  obtain ⟨a, rfl, h | h⟩ := h
  · exact .inl ⟨a, _, rfl, h, fun p hp => q p _ (Same.new hp) (SqT.of upd_same)⟩
  · exact .inr ⟨a, _, rfl, h, q a H (Same.refl H) h⟩
section
variable {P : Program} {w : World} {K : PySem.W.Frag} {mg : PySem.Str → Option Value} {base : Heap}
/-! is_short -/
abbrev s_short : Stmt := top 18
theorem sc_short : FnScope ["row"] ["row"] (defScope s_short) := ⟨rfl, rfl, rfl, by decide +kernel, rfl, by decide +kernel, by decide +kernel⟩
def sp_short (K : PySem.W.Frag) : Sp := fun vs H Q _ => ∃ (a : Addr) (l : List Nat), vs = [.ref a] ∧ SqL K H a (vN l) ∧ Q (.bl (decide (1 ≤ l.length ∧ l.length ≤ 32))) H
theorem ok_short (D : DefAt K mg "is_short" s_short ["row"]) (T : Txt mg) : C8.Cal P w K mg base 1 "is_short" (sp_short K) [] := by
  refine cal_of D sc_short (fun vs H Q E h => ?_) (fun f cdv A outer s H vs Q E hr h => ?_)
  · obtain ⟨a, l, rfl, _⟩ := h
    rfl
  · obtain ⟨a, l, rfl, hl, k⟩ := h
    refine ⟨_, pss_one (ps_ret (pe_chain op_le op_le pe_int (pe_callB call_len_seq (by rfl) T.len PySem.boot_len (pa_cons (pv 0) pa_nil)) (pe_gi rfl T.mchar))), ?_⟩
    walk_at "sx"
    refine ⟨_, .inl hl, fun g => ?_, fun g => ?_⟩
    · rw [vN_len] at g ⊢
      have e : decide (1 ≤ l.length ∧ l.length ≤ 32) = decide ((l.length : Int) ≤ 32) := decide_eq_decide.mpr (by omega)
      rw [e] at k
      exact k
    · rw [vN_len] at g
      have e : decide (1 ≤ l.length ∧ l.length ≤ 32) = false := decide_eq_false (by omega)
      rw [e] at k
      exact k
/-! are_bounded -/
abbrev s_bounded : Stmt := top 19
theorem sc_bounded : FnScope ["left", "right", "cost"] ["left", "right", "cost"] (defScope s_bounded) := ⟨rfl, rfl, rfl, by decide +kernel, rfl, by decide +kernel, by decide +kernel⟩
def sp_bounded : Sp := fun vs H Q _ => ∃ x y c : Nat, vs = [.int (x : Int), .int (y : Int), .int (c : Int)] ∧ Q (.bl (decide (x ≤ 255 ∧ y ≤ 255 ∧ c ≤ 65535))) H
theorem ok_bounded (D : DefAt K mg "are_bounded" s_bounded ["left", "right", "cost"]) (T : Txt mg) : C8.Cal P w K mg base 1 "are_bounded" sp_bounded [] := by
  refine cal_of D sc_bounded (fun vs H Q E h => ?_) (fun f cdv A outer s H vs Q E hr h => ?_)
  · obtain ⟨x, y, c, rfl, _⟩ := h
    rfl
  · obtain ⟨x, y, c, rfl, k⟩ := h
    refine ⟨_, pss_one (ps_ret (pe_and (pe_cmpR op_le (pv 0) (pe_gi rfl T.gsort) (nomark _)) (pe_and (pe_cmpR op_le (pv 1) (pe_gi rfl T.gsort) (nomark _)) (pe_one (pe_cmpR op_le (pv 2) (pe_gi rfl T.gcost) (nomark _)))))), ?_⟩
    walk_at "sx"
    have e : ∀ b : Bool, b = decide (x ≤ 255 ∧ y ≤ 255 ∧ c ≤ 65535) → Q (.bl b) H := fun b eb => by rw [eb]; exact k
    exact ⟨fun g1 => ⟨fun g2 => e _ (decide_eq_decide.mpr (by omega)), fun g2 => e _ (decide_eq_false (by omega)).symm⟩, fun g1 => e _ (decide_eq_false (by omega)).symm⟩
/-! is_word -/
abbrev s_isw : Stmt := top 20
theorem sc_isw : FnScope ["reading", "text", "left", "right", "cost"] ["reading", "text", "left", "right", "cost"] (defScope s_isw) := ⟨rfl, rfl, rfl, by decide +kernel, rfl, by decide +kernel, by decide +kernel⟩
def sp_isw (K : PySem.W.Frag) : Sp := fun vs H Q _ => ∃ (a b : Addr) (w : Sy.Word), vs = [.ref a, .ref b, .int (w.left : Int), .int (w.right : Int), .int (w.cost : Int)] ∧ SqL K H a (vN w.reading) ∧ SqL K H b (vN w.text) ∧ Q (.bl w.ok) H
theorem ok_isw (D : DefAt K mg "is_word" s_isw ["reading", "text", "left", "right", "cost"]) (G1 : C8.Cal P w K mg base 1 "is_short" (sp_short K) []) (G2 : C8.Cal P w K mg base 1 "are_bounded" sp_bounded []) (G3 : C8.Cal P w K mg base 3 "all_may_stand" (sp_allN K Sy.isSign) []) :
    C8.Cal P w K mg base 4 "is_word" (sp_isw K) [] := by
  refine cal_of D sc_isw (fun vs H Q E h => ?_) (fun f cdv A outer s H vs Q E hr h => ?_)
  · obtain ⟨a, b, w, rfl, _⟩ := h
    rfl
  · obtain ⟨a, b, ⟨r, t, x, y, c⟩, rfl, ha, hb, k⟩ := h
    rw [Lx.word_ok] at k
    refine ⟨_, pss_cons (ps_if (PW.pt (pw_or (pt_not (pt_val (C8.pe_c G1 hr (by decide) rfl (pa_cons (pv 0) pa_nil)))) (pw_or (pt_not (pt_val (C8.pe_c G1 hr (by decide) rfl (pa_cons (pv 1) pa_nil))))
        (pw_or1 (pt_not (pt_val (C8.pe_c G2 hr (by decide) rfl (pa_cons (pv 2) (pa_cons (pv 3) (pa_cons (pv 4) pa_nil)))))))))) (pss_one (ps_ret pe_bl)) pss_nil)
      (pss_one (ps_ret (pe_and (C8.pe_c G3 hr (by decide) rfl (pa_cons (pv 0) pa_nil)) (pe_one (C8.pe_c G3 hr (by decide) rfl (pa_cons (pv 1) pa_nil)))))), ?_⟩
    walk_at "sx"
    refine ⟨a, r, rfl, ha, _, rfl, fun g1 => ?_, fun g1 => ⟨b, t, rfl, hb, _, rfl, fun g2 => ?_, fun g2 => ⟨x, y, c, rfl, _, rfl, fun g3 => ?_, fun g3 => ⟨a, r, rfl, ha, _, rfl, fun g4 => ⟨b, t, rfl, hb, ?_⟩, fun g4 => ?_⟩⟩⟩⟩
    · rw [g1] at k
      exact k
    · rw [g1, g2] at k
      exact k
    · rw [g1, g2, g3] at k
      exact k
    · rw [g1, g2, g3, g4] at k
      exact k
    · rw [g1, g2, g3, g4] at k
      exact k
/-! made_word -/
abbrev s_made : Stmt := top 21
theorem sc_made : FnScope ["reading", "text", "left", "right", "cost"] ["reading", "text", "left", "right", "cost"] (defScope s_made) := ⟨rfl, rfl, rfl, by decide +kernel, rfl, by decide +kernel, by decide +kernel⟩
def sp_made (K : PySem.W.Frag) : Sp := fun vs H Q _ => ∃ (a b : Addr) (w : Sy.Word), vs = [.ref a, .ref b, .int (w.left : Int), .int (w.right : Int), .int (w.cost : Int)] ∧ SqL K H a (vN w.reading) ∧ SqL K H b (vN w.text) ∧
  ∀ p H', Same H H' → WordAt H' p w → Q (.ref p) H'
theorem ok_made (D : DefAt K mg "made_word" s_made ["reading", "text", "left", "right", "cost"]) (T : Txt mg) : C8.Cal P w K mg base 1 "made_word" (sp_made K) [] := by
  refine cal_of D sc_made (fun vs H Q E h => ?_) (fun f cdv A outer s H vs Q E hr h => ?_)
  · obtain ⟨a, b, w, rfl, _⟩ := h
    rfl
  · obtain ⟨a, b, w, rfl, ha, hb, k⟩ := h
    refine ⟨_, pss_one (ps_ret (pe_tup (pa_cons (pe_tupleOf rfl T.tuple (pv 0)) (pa_cons (pv 4) (pa_cons (pe_tupleOf rfl T.tuple (pv 1)) (pa_cons (pv 2) (pa_cons (pv 3) pa_nil))))))), ?_⟩
    walk_at "sx"
    refine .inl ⟨_, ha, fun r hr1 => .inl ⟨_, Same.seq (Same.new hr1) hb, fun t ht => ⟨by decide, fun p hp => ?_⟩⟩⟩
    have s1 : Same H _ := Same.trans (Same.new (o := .tup (vN w.reading)) hr1) (Same.new (o := .tup (vN w.text)) ht)
    refine k p _ (Same.trans s1 (Same.new hp)) ⟨r, t, upd_same, ?_, ?_⟩
    · exact Same.new hp _ _ (Same.new ht _ _ upd_same)
    · exact Same.new hp _ _ upd_same
/-! reading_of -/
abbrev s_rof : Stmt := top 22
theorem sc_rof : FnScope ["word"] ["word"] (defScope s_rof) := ⟨rfl, rfl, rfl, by decide +kernel, rfl, by decide +kernel, by decide +kernel⟩
def sp_rof : Sp := fun vs H Q _ => ∃ (a : Addr) (w : Sy.Word), vs = [.ref a] ∧ WordAt H a w ∧ ∀ r, H r = some (.tup (vN w.reading)) → Q (.ref r) H
theorem ok_rof (D : DefAt K mg "reading_of" s_rof ["word"]) : C8.Cal P w K mg base 1 "reading_of" sp_rof [] := by
  refine cal_of D sc_rof (fun vs H Q E h => ?_) (fun f cdv A outer s H vs Q E hr h => ?_)
  · obtain ⟨a, w, rfl, _⟩ := h
    rfl
  · obtain ⟨a, w, rfl, ⟨r, t, h1, h2, h3⟩, k⟩ := h
    refine ⟨_, pss_one (ps_ret (pe_ix ix_tup (pv 0) pe_int (fun _ _ => rfl))), ?_⟩
    walk_at "sx"
    exact ⟨_, SqT.of h1, _, atI_nat (j := 0) rfl, k r h2⟩
/-! has_name -/
abbrev s_hasn : Stmt := top 23
theorem sc_hasn : FnScope ["word", "reading", "text"] ["word", "reading", "text"] (defScope s_hasn) := ⟨rfl, rfl, rfl, by decide +kernel, rfl, by decide +kernel, by decide +kernel⟩
def sp_hasn (K : PySem.W.Frag) : Sp := fun vs H Q _ => ∃ (a : Addr) (w : Sy.Word) (x y : V) (r t : List Nat), vs = [.ref a, x, y] ∧ WordAt H a w ∧ RowAt K H x r ∧ RowAt K H y t ∧ ∀ H', Same H H' → Q (.bl (w.reading == r && w.text == t)) H'
theorem ok_hasn (D : DefAt K mg "has_name" s_hasn ["word", "reading", "text"]) (T : Txt mg) : C8.Cal P w K mg base 1 "has_name" (sp_hasn K) [] := by
  refine cal_of D sc_hasn (fun vs H Q E h => ?_) (fun f cdv A outer s H vs Q E hr h => ?_)
  · obtain ⟨a, w, x, y, r, t, rfl, _⟩ := h
    rfl
  · obtain ⟨a, w, x, y, r, t, rfl, ⟨ar, at', h1, h2, h3⟩, hx, hy, k⟩ := h
    refine ⟨_, pss_one (ps_ret (pe_and (pe_cmpR (op_eqD hr.units) (pe_ix ix_tup (pv 0) pe_int (fun _ _ => rfl)) (pe_tupleOf rfl T.tuple (pv 1)) (nomark _)) (pe_one (pe_cmpR (op_eqD hr.units) (pe_ix ix_tup (pv 0) pe_int (fun _ _ => rfl)) (pe_tupleOf rfl T.tuple (pv 2)) (nomark _))))), ?_⟩
    refine ⟨_, rfl, a, _, 0, _, rfl, rfl, SqT.of h1, atI_nat (j := 0) rfl, _, rfl, kTup_row hx fun p H1 e1 hp => rEqD_T (SqT.of (e1 _ _ h2)) hp ⟨_, rfl, ?_⟩⟩
    refine ifb (fun g1 => ?_) (fun g1 => ?_)
    · refine ⟨_, rfl, a, _, 2, _, rfl, rfl, SqT.of (e1 _ _ h1), atI_nat (j := 2) rfl, _, rfl, kTup_row (RowAt.same e1 hy) fun q H2 e2 hq => rEqD_T (SqT.of (e2 _ _ (e1 _ _ h3))) hq ?_⟩
      have q := k H2 (Same.trans e1 e2)
      rw [of_decide_eq_true g1, beq_self_eq_true, Bool.true_and, Bool.beq_eq_decide_eq] at q
      exact q
    · have q := k H1 e1
      have g2 : (w.reading == r) = false := by rw [Bool.beq_eq_decide_eq]; exact g1
      rw [g2] at q
      exact q
/-! by_cost -/
abbrev s_byc : Stmt := top 24
theorem sc_byc : FnScope ["word"] ["word"] (defScope s_byc) := ⟨rfl, rfl, rfl, by decide +kernel, rfl, by decide +kernel, by decide +kernel⟩
/-- the key of a word -/
def KeyAt (H : Hp) (p : Addr) (w : Sy.Word) : Prop := ∃ r t : Addr, H p = some (.tup [.int (w.cost : Int), .ref r, .ref t]) ∧ H r = some (.tup (vN w.reading)) ∧ H t = some (.tup (vN w.text))
def sp_byc : Sp := fun vs H Q _ => ∃ (a : Addr) (w : Sy.Word), vs = [.ref a] ∧ WordAt H a w ∧ ∀ p o, H p = none → KeyAt (upd H p o) p w → Q (.ref p) (upd H p o)
theorem ok_byc (D : DefAt K mg "by_cost" s_byc ["word"]) : ∃ (f : Addr) (fd : FuncData), FnOk P w K mg base CX0 1 f fd ["word"] sp_byc ∧ mg "by_cost" = some (.ref f) ∧ Binds K fd ["word"] [] := by
  obtain ⟨f, fd, F, hm, b⟩ := D.ex
  refine ⟨f, fd, F.ok sc_byc (fun vs H Q E h => ?_) (fun cdv A outer s H vs Q E hr h => ?_), hm, b⟩
  · obtain ⟨a, w, rfl, _⟩ := h
    rfl
  · obtain ⟨a, w, rfl, ⟨r, t, h1, h2, h3⟩, k⟩ := h
    refine ⟨_, pss_one (ps_ret (pe_tup (pa_cons (pe_ix ix_tup (pv 0) pe_int (fun _ _ => rfl)) (pa_cons (pe_ix ix_tup (pv 0) pe_int (fun _ _ => rfl)) (pa_cons (pe_ix ix_tup (pv 0) pe_int (fun _ _ => rfl)) pa_nil))))), ?_⟩
    walk_at "sx"
    refine ⟨_, SqT.of h1, _, atI_nat (j := 1) rfl, _, SqT.of h1, _, atI_nat (j := 0) rfl, _, SqT.of h1, _, atI_nat (j := 2) rfl, by decide, fun p hp => k p _ hp ⟨r, t, upd_same, ?_, ?_⟩⟩
    · rw [upd_ne (ne_of_none h2 hp)]
      exact h2
    · rw [upd_ne (ne_of_none h3 hp)]
      exact h3
/-! begins -/
abbrev s_beg : Stmt := top 25
theorem sc_beg : FnScope ["row", "whole"] ["row", "whole"] (defScope s_beg) := ⟨rfl, rfl, rfl, by decide +kernel, rfl, by decide +kernel, by decide +kernel⟩
def sp_beg (K : PySem.W.Frag) : Sp := fun vs H Q _ => ∃ (a b : Addr) (l m : List Nat), vs = [.ref a, .ref b] ∧ SqL K H a (vN l) ∧ SqT K H b (vN m) ∧ ∀ H', Same H H' → Q (.bl (l.isPrefixOf m)) H'
theorem ok_beg (D : DefAt K mg "begins" s_beg ["row", "whole"]) (T : Txt mg) : C8.Cal P w K mg base 1 "begins" (sp_beg K) [] := by
  refine cal_of D sc_beg (fun vs H Q E h => ?_) (fun f cdv A outer s H vs Q E hr h => ?_)
  · obtain ⟨a, b, l, m, rfl, _⟩ := h
    rfl
  · obtain ⟨a, b, l, m, rfl, ha, hb, k⟩ := h
    refine ⟨_, pss_one (ps_ret (pe_cmpR (op_eqD hr.units) (pe_tupleOf rfl T.tuple (pe_slice sl_tupA (pv 1) po_none (po_some (pe_callB call_len_seq (by rfl) T.len PySem.boot_len (pa_cons (pv 0) pa_nil))))) (pe_tupleOf rfl T.tuple (pv 0)) (nomark _))), ?_⟩
    have hcut : cutV (vN m) none (some ((vN l).length : Int)) = vN (m.take l.length) := by rw [vN_len]; exact cut_to m l.length
    have fin : ∀ (p : Addr) (H1 : Hp), Same H H1 → SqT K H1 p (vN (m.take l.length)) → kTup K (.ref a) H1 fun y H2 => rEqD K (.ref p) y H2 Q := fun p H1 e1 hp =>
      kTup_row ⟨a, rfl, .inl (Same.seq e1 ha)⟩ fun q H2 e2 hq => rEqD_T (Same.tup e2 hp) hq (by
        have := k H2 (Same.trans e1 e2)
        rw [← Lx.pre_take] at this
        exact this)
    refine ⟨_, rfl, _, rfl, a, _, rfl, .inl ha, _, rfl, b, _, rfl, hb, fun g => ?_, fun g p hp => ?_⟩
    · refine .inr ⟨b, _, rfl, hb, _, rfl, fin b H (Same.refl H) ?_⟩
      have e : m.take l.length = m := by
        have h2 := g.2
        rw [vN_len, vN_len, HT.sIx_nat] at h2
        exact List.take_of_length_le (by omega)
      rw [e]
      exact hb
    · refine .inr ⟨p, _, rfl, SqT.of upd_same, _, rfl, fin p _ (Same.new hp) ?_⟩
      rw [hcut]
      exact SqT.of upd_same
end
end Sx
/-! ## W3 -/
namespace Sx
open PySem PySem.Spec PyProof.Rows L2
open PySem.W (dataLt dataLt_cons dataLt_int dataLt_tuple alike alikeAll keyToksAll AllAlike Sortable EachIs dataLe)
/-! the data that a word is read as; Python's order of these is wlt -/
def encR (l : List Nat) : PyData := .tuple (l.map fun (n : Nat) => PyData.int (n : Int))
def encW (w : Sy.Word) : PyData := .tuple [encR w.reading, .int (w.cost : Int), encR w.text, .int (w.left : Int), .int (w.right : Int)]
def encK (w : Sy.Word) : PyData := .tuple [.int (w.cost : Int), encR w.reading, encR w.text]
theorem alike_intsN : ∀ l m : List Nat, alikeAll (l.map fun (n : Nat) => PyData.int (n : Int)) (m.map fun (n : Nat) => PyData.int (n : Int)) = true
  | [], _ => by simp [alikeAll]
  | _ :: _, [] => by simp [alikeAll]
  | a :: l, b :: m => by
    simp only [List.map_cons, alikeAll, alike, Bool.true_and]
    exact alike_intsN l m
theorem alike_R (l m : List Nat) : alike (encR l) (encR m) = true := by
  unfold encR
  simp only [alike]
  exact alike_intsN l m
theorem alike_W (a b : Sy.Word) : alike (encW a) (encW b) = true := by
  unfold encW
  simp only [alike, alikeAll, alike_R, Bool.and_true]
theorem alike_K (a b : Sy.Word) : alike (encK a) (encK b) = true := by
  unfold encK
  simp only [alike, alikeAll, alike_R, Bool.and_true]
theorem eqv_i (a b : Nat) : (PyData.eqv (.int (a : Int)) (.int (b : Int)) = true) = (a = b) := by
  show (((a : Int) == (b : Int)) = true) = _
  rw [beq_iff_eq]
  exact propext ⟨fun h => by omega, fun h => by rw [h]⟩
theorem eqv_R (l m : List Nat) : (PyData.eqv (encR l) (encR m) = true) = (l = m) := by
  show (PyData.eqv (.tuple (l.map fun (n : Nat) => PyData.int (n : Int))) (.tuple (m.map fun (n : Nat) => PyData.int (n : Int))) = true) = _
  rw [eqvT]
  exact propext decide_eq_true_iff
theorem dlt_i (a b : Nat) : dataLt (.int (a : Int)) (.int (b : Int)) = decide (a < b) := by
  rw [dataLt_int]
  exact decide_eq_decide.mpr (by omega)
theorem al_i (a b : Int) : alike (.int a) (.int b) = true := by simp [alike]
theorem dlt_R : ∀ l m : List Nat, dataLt (encR l) (encR m) = Sy.before l m := by
  intro l m
  unfold encR
  rw [dataLt_tuple]
  have e : ∀ k : List Nat, (k.map fun (n : Nat) => PyData.int (n : Int)) = (k.map fun (n : Nat) => (n : Int)).map PyData.int := fun k => by rw [List.map_map]; rfl
  rw [e l, e m]
  exact (PySem.W.dataLt_ints _ _).trans (Lx.bf_list l m)
theorem dlt_W (a b : Sy.Word) : dataLt (encW a) (encW b) = Lx.wlt a b := by
  unfold encW
  rw [dataLt_tuple, dataLt_cons (alike_R _ _), dataLt_cons (al_i _ _), dataLt_cons (alike_R _ _), dataLt_cons (al_i _ _), dataLt_cons (al_i _ _), lex_irrefl]
  simp only [eqv_R, eqv_i, dlt_R, dlt_i]
  rw [Bool.eq_iff_iff, Lx.wlt_iff]
  by_cases h1 : a.reading = b.reading
  · rw [if_pos h1]
    by_cases h2 : a.cost = b.cost
    · rw [if_pos h2]
      by_cases h3 : a.text = b.text
      · rw [if_pos h3]
        by_cases h4 : a.left = b.left
        · rw [if_pos h4]
          by_cases h5 : a.right = b.right
          · rw [if_pos h5, h1, h2, h3, h4, h5, Lx.bf_irrefl, Lx.bf_irrefl]
            simp
          · rw [if_neg h5, h1, h2, h3, h4, Lx.bf_irrefl, Lx.bf_irrefl]
            simp
        · rw [if_neg h4, h1, h2, h3, Lx.bf_irrefl, Lx.bf_irrefl]
          simp [h4]
      · rw [if_neg h3, h1, h2, Lx.bf_irrefl]
        simp [h3]
    · rw [if_neg h2, h1, Lx.bf_irrefl]
      simp [h2]
  · rw [if_neg h1]
    simp [h1]
theorem dlt_K (a b : Sy.Word) : dataLt (encK a) (encK b) = Lx.klt a b := by
  unfold encK
  rw [dataLt_tuple, dataLt_cons (al_i _ _), dataLt_cons (alike_R _ _), dataLt_cons (alike_R _ _), lex_irrefl]
  simp only [eqv_R, eqv_i, dlt_R, dlt_i]
  rw [Bool.eq_iff_iff, Lx.klt_iff]
  by_cases h1 : a.cost = b.cost
  · rw [if_pos h1]
    by_cases h2 : a.reading = b.reading
    · rw [if_pos h2]
      by_cases h3 : a.text = b.text
      · rw [if_pos h3, h1, h2, h3, Lx.bf_irrefl, Lx.bf_irrefl]
        simp
      · rw [if_neg h3, h1, h2, Lx.bf_irrefl]
        simp
    · rw [if_neg h2, h1]
      simp [h2]
  · rw [if_neg h1]
    simp [h1]
theorem dle_W : dataLe false encW = Lx.wle := by
  rw [PySem.W.dataLe_eq]
  funext a b
  show (!dataLt (encW b) (encW a)) = _
  rw [dlt_W]
  rfl
theorem dle_K : dataLe false encK = Lx.kle := by
  rw [PySem.W.dataLe_eq]
  funext a b
  show (!dataLt (encK b) (encK a)) = _
  rw [dlt_K]
  rfl
theorem wsort_pw (ws : List Sy.Word) : (ws.mergeSort Lx.wle).Pairwise fun a b => Lx.wle a b = true := by
  have h := PySem.W.sort_pairwise (le := dataLe false encW) (PySem.W.sortLe_total _ _ _) ws
  rw [dle_W] at h
  exact h
theorem ksort_pw (ws : List Sy.Word) : (ws.mergeSort Lx.kle).Pairwise fun a b => Lx.kle a b = true := by
  have h := PySem.W.sort_pairwise (le := dataLe false encK) (PySem.W.sortLe_total _ _ _) ws
  rw [dle_K] at h
  exact h
/-! ### words at addresses -/
abbrev WordsAt (H : Hp) (as : List Addr) (ws : List Sy.Word) : Prop := Paired (WordAt H) as ws
theorem WordsAt.same {H H' : Hp} (e : Same H H') : ∀ {as : List Addr} {ws : List Sy.Word}, WordsAt H as ws → WordsAt H' as ws
  | _, _, .nil => .nil
  | _, _, .cons h t => .cons (WordAt.same e h) (WordsAt.same e t)
theorem dp_R {K : PySem.W.Frag} {H : Hp} {r : Addr} {l : List Nat} (h : H r = some (.tup (vN l))) : Dp K H (.ref r) (encR l) := dpT (SqT.of h)
theorem dp_W {K : PySem.W.Frag} {H : Hp} {a : Addr} {w : Sy.Word} (h : WordAt H a w) : Dp K H (.ref a) (encW w) := by
  obtain ⟨r, t, h1, h2, h3⟩ := h
  exact .tup (SqT.of h1) (.cons (dp_R h2) (.cons (.int _) (.cons (dp_R h3) (.cons (.int _) (.cons (.int _) .nil)))))
theorem dp_K {K : PySem.W.Frag} {H : Hp} {a : Addr} {w : Sy.Word} (h : KeyAt H a w) : Dp K H (.ref a) (encK w) := by
  obtain ⟨r, t, h1, h2, h3⟩ := h
  exact .tup (SqT.of h1) (.cons (.int _) (.cons (dp_R h2) (.cons (dp_R h3) .nil)))
/-- the values of references -/
theorem vals_refs : ∀ {as : List Addr} {us : List Value}, Vals (as.map V.ref) us → us = as.map Value.ref
  | [], _, .nil => rfl
  | a :: as, _, .cons h t => by
    rw [vals_refs t]
    cases h
    rfl
theorem refs_vals : ∀ (as : List Addr), Vals (as.map V.ref) (as.map Value.ref)
  | [] => .nil
  | a :: as => .cons rfl (refs_vals as)
theorem each_words {R : Value → Sy.Word → Prop} {H : Hp} (hR : ∀ a w, WordAt H a w → R (.ref a) w) : ∀ {as : List Addr} {ws : List Sy.Word}, WordsAt H as ws → EachIs R (as.map Value.ref) ws
  | _, _, .nil => .nil
  | _, _, .cons h t => .cons (hR _ _ h) (each_words hR t)
theorem words_each {H : Hp} : ∀ {us : List Value} {ws : List Sy.Word}, EachIs (fun v w => ∃ a, v = Value.ref a ∧ WordAt H a w) us ws → ∃ as : List Addr, us = as.map Value.ref ∧ WordsAt H as ws
  | _, _, .nil => ⟨[], rfl, .nil⟩
  | _, _, .cons h t => by
    obtain ⟨a, rfl, ha⟩ := h
    obtain ⟨as, rfl, hs⟩ := words_each t
    exact ⟨a :: as, rfl, .cons ha hs⟩
theorem depth_R (l : List Nat) : (encR l).depth = 1 := by
  unfold encR
  simp only [PyData.depth]
  rw [depth_intsN]
theorem depth_W (w : Sy.Word) : (encW w).depth = 2 := by
  unfold encW
  simp only [PyData.depth, PyData.depthAll, depth_R]
  rfl
theorem depth_K (w : Sy.Word) : (encK w).depth = 2 := by
  unfold encK
  simp only [PyData.depth, PyData.depthAll, depth_R]
  rfl
/-- sorted(words) -/
def rSortW (K : PySem.W.Frag) : List V → Hp → VK → Prop := fun vs H Q => ∃ (a : Addr) (as : List Addr) (ws : List Sy.Word), vs = [.ref a] ∧ SqL K H a (as.map V.ref) ∧ WordsAt H as ws ∧
  ∀ p bs, H p = none → WordsAt H bs (ws.mergeSort Lx.wle) → Q (.ref p) (upd H p (.lst (bs.map V.ref)))
section
variable {X : Cx}
theorem cr_sortedW {k : Nat} (hr : Room k X.A) : CallR X (.builtin "sorted") (rSortW X.K) := by
  intro pins s σ H vs us Q I r h
  obtain ⟨a, as, ws, rfl, hs, hw, q⟩ := h
  obtain ⟨its, rv, hl, hz⟩ := I.list hs
  obtain ⟨u, rfl, ru⟩ := vals1 r
  obtain rfl : u = Value.ref a := ru
  obtain rfl := vals_refs rv
  have e1 : EachIs (fun v w => ∃ a, v = Value.ref a ∧ WordAt H a w) (as.map Value.ref) ws := each_words (fun a w h => ⟨a, rfl, h⟩) hw
  have e2 : EachIs (fun v w => ∃ as, Reads s.heap v (encW w) as) (as.map Value.ref) ws := each_words (fun a w h => Dp.reads (X := X) I _ _ _ (dp_W h) rfl) hw
  have hu := hr.units
  refine PySem.W.sorted_data hl.isList e1 e2 (AllAlike.of alike_W) (Sortable.tuples fun b => ⟨_, _, rfl⟩) (by rw [← e1.length, ← rv.length]; exact hz) (fun b _ => by rw [depth_W]; omega) fun out h1 h2 => ?_
  rw [dle_W] at h2
  obtain ⟨bs, rfl, hb⟩ := words_each h2
  have hlen : (bs.map V.ref).length ≤ sizeLine := by
    rw [List.length_map] at h1 ⊢
    rw [h1, ← e1.length, ← rv.length]
    exact hz
  obtain ⟨ep, he⟩ := sortedAll_at s.heap (as.map Value.ref) (List.toArray (bs.map Value.ref))
  have I2 : Inv X pins σ (upd H (s.heap.objs.size + 1) (.lst (bs.map V.ref))) { s with heap := sortedAll s.heap (as.map Value.ref) (List.toArray (bs.map Value.ref)), toks := s.toks } :=
    I.laid (fun b o e => sortedAll_old e) (Nat.le_succ _) ⟨hlen, _, ep, refs_vals bs, he⟩
  exact ⟨.ref _, _, I2, rfl, q _ bs (I.hok.fresh (Nat.le_succ _)) hb⟩
end
end Sx
/-! ## W4 -/
namespace Sx
open PySem PySem.Spec PyProof.Rows L2
open PySem.W (AllAlike Sortable EachIs dataLe KeepsBut copyHeap sortingHeap copyHeap_at copyHeap_old sorted_of_sort sortingHeap_old keyH_end dataKind SortsAt sortVals keyedOut_each KeyedOut)
/-- the list that is sorted is told again, behind the sort -/
theorem retrack {X : Cx} {pins : List (Addr × Obj)} {σ : L2.St} {H : Hp} {s : Shared} {c D : Addr} {h' : Heap} {t' : Nat} {xs : List V} {us : List Value} {n : Nat} (I : Inv X pins σ H s) (fc : FpOk X pins H c) (fD : FpOk X pins H D)
    (k : ∀ b o, b ≠ D → b ≠ c → s.heap.get? b = some o → h'.get? b = some o) (hx : xs.length ≤ sizeLine) (r : Vals xs us) (hD : h'.get? D = some (seqObj "list" us.toArray n)) : Inv X pins σ (upd H D (.lst xs)) { s with heap := h', toks := t' } := by
  obtain ⟨c0, c1, c2, c3, c4, c5⟩ := fc
  obtain ⟨d0, d1, d2, d3, d4, d5⟩ := fD
  have k' : ∀ b o, b ∉ [c, D] → s.heap.get? b = some o → h'.get? b = some o := fun b o hb e => k b o (fun z => hb (by rw [z]; simp)) (fun z => hb (by rw [z]; simp)) e
  have nD : ∀ b u, H b = some u → b ≠ D := fun b u e z => by rw [z, d0] at e; cases e
  have nc : ∀ b u, H b = some u → b ≠ c := fun b u e z => by rw [z, c0] at e; cases e
  refine I.step (g' := s.gens) (d' := s.drawn) (ch := [c, D]) (fun b hb => ?_) (fun b o _ _ hb e _ => k' b o hb e) (fun b o _ _ hb e _ => ⟨o.slots, k' b o hb e⟩) (fun b o hb _ e => ?_) (fun b o hb e => ⟨o, k' b o hb e⟩)
    (fun b ys e => ?_) (fun b o u e => ?_) (fun b ps e => ⟨#[], ?_⟩) (fun m hm => ?_) (fun b u e => ?_) I.bare
  · rcases List.mem_cons.mp hb with rfl | hb
    · exact ⟨c3, c1, c4, c5⟩
    · rcases List.mem_cons.mp hb with rfl | hb
      · exact ⟨d3, d1, d4, d5⟩
      · cases hb
  · rw [upd_ne fun z => hb (by rw [z]; simp)]
    exact e
  · rw [upd_ne (nD _ _ e)]
    exact e
  · rw [upd_ne (nD _ _ e)]
    exact e
  · rw [upd_ne (nD _ _ e), e]
    simp
  · obtain ⟨o, es, ep, ho, hr⟩ := hm
    exact ⟨o, es, ep, k _ o (Ne.symm d1) (Ne.symm c1) ho, hr⟩
  · by_cases hb : b = D
    · subst hb
      rw [upd_same] at e
      cases e
      exact ⟨hx, us, n, r, hD⟩
    · rw [upd_ne hb] at e
      refine (I.hok b u e).stay (fun b' v hv q => ?_) (fun b' q => by rw [upd_ne (nD _ _ q)]; exact q) (fun b' ys q => by rw [upd_ne (nD _ _ q)]; exact q)
      rcases hv with z | z
      · rw [z] at q ⊢
        exact k _ v hb (nc _ _ e) q
      · exact k _ v (nD _ _ z) (nc _ _ z) q
/-- sorted(words, key=by_cost) -/
def rSortK (K : PySem.W.Frag) (f : Addr) : List V → List V → Hp → VK → Prop := fun vs zs H Q => ∃ (a : Addr) (as : List Addr) (ws : List Sy.Word), vs = [.ref a] ∧ zs = [.ref f] ∧ SqL K H a (as.map V.ref) ∧ WordsAt H as ws ∧
  ∀ p bs H', Same H H' → H p = none → WordsAt H' bs (ws.mergeSort Lx.kle) → H' p = some (.lst (bs.map V.ref)) → Q (.ref p) H'
abbrev KeysAt (H : Hp) (ps : List Addr) (ws : List Sy.Word) : Prop := Paired (KeyAt H) ps ws
theorem KeyAt.same {H H' : Hp} {p : Addr} {w : Sy.Word} (e : Same H H') (h : KeyAt H p w) : KeyAt H' p w := by
  obtain ⟨r, t, h1, h2, h3⟩ := h
  exact ⟨r, t, e _ _ h1, e _ _ h2, e _ _ h3⟩
theorem KeysAt.same {H H' : Hp} (e : Same H H') : ∀ {ps : List Addr} {ws : List Sy.Word}, KeysAt H ps ws → KeysAt H' ps ws
  | _, _, .nil => .nil
  | _, _, .cons h t => .cons (KeyAt.same e h) (KeysAt.same e t)
theorem WordsAt.at : ∀ {H : Hp} {as : List Addr} {ws : List Sy.Word} {i : Nat}, WordsAt H as ws → i < as.length → ∃ a w, as[i]? = some a ∧ ws[i]? = some w ∧ WordAt H a w
  | _, _, _, _, .nil, h => absurd h (Nat.not_lt_zero _)
  | _, _, _, 0, .cons h _, _ => ⟨_, _, rfl, rfl, h⟩
  | _, _, _, i + 1, .cons _ t, h => by
    obtain ⟨a, w, h1, h2, h3⟩ := WordsAt.at (i := i) t (Nat.lt_of_succ_lt_succ h)
    exact ⟨a, w, h1, h2, h3⟩
theorem WordsAt.len {H : Hp} {as : List Addr} {ws : List Sy.Word} (h : WordsAt H as ws) : as.length = ws.length := Paired.length h
theorem each_keys {R : Value → PyData → Prop} {H : Hp} (hR : ∀ a w, KeyAt H a w → R (.ref a) (encK w)) : ∀ {ps : List Addr} {ws : List Sy.Word}, KeysAt H ps ws → EachIs R (ps.map Value.ref) (ws.map encK)
  | _, _, .nil => .nil
  | _, _, .cons h t => .cons (hR _ _ h) (each_keys hR t)
section
variable {X : Cx}
theorem cr_sortedK {k : Nat} {f : Addr} {fd : FuncData} (F : FnOk X.prog X.w X.K X.mg X.base CX0 k f fd ["word"] sp_byc) (hb : Binds X.K fd ["word"] []) (hr : Room (k + 2) X.A) : CallRK X (.builtin "sorted") [Str.ofString "key"] (rSortK X.K f) := by
  intro pins s σ H vs zs us vz Q I r rz h
  obtain ⟨a, as, ws, rfl, rfl, hs, hw, q⟩ := h
  obtain ⟨its, rv, hl, hz⟩ := I.list hs
  obtain ⟨u, rfl, ru⟩ := vals1 r
  obtain ⟨uf, rfl, rf⟩ := vals1 rz
  cases ru
  cases rf
  obtain rfl := vals_refs rv
  have hzl : (as.map Value.ref).length ≤ sizeLine := by rw [← rv.length]; exact hz
  have hza : as.length ≤ sizeLine := by rw [List.length_map] at hzl; exact hzl
  have e1 : EachIs (fun v w => ∃ a, v = Value.ref a ∧ WordAt H a w) (as.map Value.ref) ws := each_words (fun a w h => ⟨a, rfl, h⟩) hw
  have hu := hr.units
  show wpAny (model X.prog X.w) X.A (call (.builtin "sorted") [.ref a] [(Str.ofString "key", .ref f)]) _ _ _
  refine sorted_of_sort hl.isList hzl (ksk_s1 _ _) (fun x => ksk_l1 _ _) fun E' => ?_
  rw [ksk_t1]
  generalize hD : s.heap.objs.size + 1 = D
  have hoD : (copyHeap s.heap (as.map Value.ref)).get? D = some (seqObj "list" (as.map Value.ref).toArray 0) := by rw [← hD]; exact copyHeap_at _ _
  have hLt : D < (copyHeap s.heap (as.map Value.ref)).objs.size := Heap.lt_size hoD
  obtain ⟨n1, hn1⟩ : ∃ n1, ((copyHeap s.heap (as.map Value.ref)).update D (Obj.mapSeq fun _ => (#[] : Array Value))).get? D = some (seqObj "list" #[] n1) := ⟨_, get?_update_seq hoD fun _ => #[]⟩
  unfold ksk_tree
  refine wpAny_bind (listItems_at hoD rfl (wpAny_bind (listUpdate_at hoD rfl ?_ (by simpa using hza) (Nat.zero_le _))))
  refine wpAny_bind (seqEpoch_at hn1 rfl (wpAny_bind (wpAny_newTuple ?_ (by simpa using hza))))
  refine wpAny_bind (wpAny_newList (wpAny_holding ?_) (Nat.zero_le _))
  generalize hh2 : (((copyHeap s.heap (as.map Value.ref)).update D (Obj.mapSeq fun _ => (#[] : Array Value))).push (seqObj "tuple" (as.map Value.ref).toArray 0)) = h2
  have hk2 : ∀ b o, s.heap.get? b = some o → h2.get? b = some o := fun b o e => by
    have hlt := Heap.lt_size e
    rw [← hh2]
    exact Heap.get?_push_of_some _ ((Heap.get?_update_ne _ _ _ _ (Nat.ne_of_lt (by rw [← hD]; exact Nat.lt_succ_of_lt hlt))).trans (copyHeap_old e))
  have hn2 : h2.get? D = some (seqObj "list" #[] n1) := by rw [← hh2]; exact Heap.get?_push_of_some _ hn1
  generalize hc : h2.objs.size = c
  have hDc : D < c := by rw [← hc]; exact Heap.lt_size hn2
  have hsD : s.heap.objs.size ≤ D := by rw [← hD]; exact Nat.le_succ _
  have hsc : s.heap.objs.size ≤ c := Nat.le_trans hsD (Nat.le_of_lt hDc)
  show wpAny _ _ _ _ _ { s with heap := h2.push (seqObj "list" #[] 0) }
  have hn3 : (h2.push (seqObj "list" #[] 0)).get? D = some (seqObj "list" #[] n1) := Heap.get?_push_of_some _ hn2
  have hc3 : (h2.push (seqObj "list" #[] 0)).get? c = some (seqObj "list" #[] 0) := by rw [← hc]; exact Heap.get?_push_size _ rfl
  have I3 : L2.Inv X pins σ H { s with heap := h2.push (seqObj "list" #[] 0), toks := s.toks } := I.kept fun b o e => Heap.get?_push_of_some _ (hk2 b o e)
  have fc : FpOk X pins H c := I.fpOk hsc (I.hok.fresh hsc)
  have fD : FpOk X pins H D := I.fpOk hsD (I.hok.fresh hsD)
  have hcD : c ≠ D := Nat.ne_of_gt hDc
  unfold ksk_rest
  refine wpAny_bind (wpAny_rule ?_)
  rw [List.forIn_toArray]
  refine wpAny_bind (ksk_fold (fun i s' => ∃ (H' : Hp) (kA : Array Value) (e : Nat) (ps : List Addr), L2.Inv X pins σ H' s' ∧ Same H H' ∧ s'.heap.get? c = some (seqObj "list" kA e) ∧ s'.heap.get? D = some (seqObj "list" #[] n1) ∧ H' c = none ∧ H' D = none ∧
      kA.toList = ps.map Value.ref ∧ KeysAt H' ps (ws.take i)) _ 0 _ ⟨H, #[], 0, [], I3, Same.refl H, hc3, hn3, fc.1, fD.1, rfl, .nil⟩ (fun i x s' hx hJ => ?_) (fun s' hJ => ?_))
  · simp only [Nat.zero_add] at hJ ⊢
    obtain ⟨H', kA, e, ps, I', sm, gc, gD, nc, nD, hkA, hks⟩ := hJ
    obtain ⟨ai, hai, rfl⟩ : ∃ ai, as[i]? = some ai ∧ x = Value.ref ai := by
      rw [List.getElem?_map] at hx
      cases ea : as[i]? with
      | none => rw [ea] at hx; cases hx
      | some ai => rw [ea] at hx; exact ⟨ai, rfl, (Option.some.inj hx).symm⟩
    obtain ⟨a', w, ha', hw', hword⟩ := WordsAt.at (i := i) hw (List.getElem?_eq_some_iff.mp hai).1
    have eai : a' = ai := Option.some.inj (ha'.symm.trans hai)
    subst eai
    have fc' : FpOk X pins H' c := ⟨nc, fc.2⟩
    have fD' : FpOk X pins H' D := ⟨nD, fD.2⟩
    have hnc : ∀ v, (seqObj "list" kA e).data ≠ .cell v := fun v z => by cases z
    have hnD : ∀ v, (seqObj "list" #[] n1).data ≠ .cell v := fun v z => by cases z
    have Ip := I'.pinned (fp := [c, D]) (fun b hb => by
      rcases List.mem_cons.mp hb with rfl | hb
      · exact fc'
      · rcases List.mem_cons.mp hb with rfl | hb
        · exact fD'
        · cases hb) (fun b hb => by
      rcases List.mem_cons.mp hb with rfl | hb
      · exact ⟨_, gc, hnc⟩
      · rcases List.mem_cons.mp hb with rfl | hb
        · exact ⟨_, gD, hnD⟩
        · cases hb)
    have hcall : wpAny (model X.prog X.w) X.A.in1.in1 (call (.ref f) [.ref a']) (EP X (pins ++ pinsAt [c, D] s'.heap) σ fun v H2 => ∃ p o, v = V.ref p ∧ H' p = none ∧ H2 = upd H' p o ∧ KeyAt (upd H' p o) p w) (fun _ _ => False) s' := by
      refine wpAny_call (codeAny_mono (F.run X.A.in1.in1 X.stack s' H' ⟨[.ref a'], []⟩ [.ref a'] [.ref a'] (fun v H2 => ∃ p o, v = V.ref p ∧ H' p = none ∧ H2 = upd H' p o ∧ KeyAt (upd H' p o) p w) E0 hr.in1.in1 Ip.env0.in1.in1 (hb s' [.ref a'] Ip.kIn rfl) (.cons rfl .nil)
        ⟨a', w, rfl, WordAt.same sm hword, fun p o hp hk => ⟨p, o, rfl, hp, rfl, hk⟩⟩) fun rr s2 hq => ?_)
      cases rr with
      | error e => exact False.elim hq
      | ok fl =>
        cases fl with
        | ret u => exact Ip.after hq
        | next => exact False.elim hq
        | brk => exact False.elim hq
        | cont => exact False.elim hq
    refine wpAny_bind (wpAny_attempt (wpAny_mono hcall (fun v s2 he => ?_) fun _ _ z => z.elim))
    obtain ⟨v0, H2, I2, rv2, p, o, rfl, hp, rfl, hkey⟩ := he
    cases rv2
    have mc : (c, seqObj "list" kA e) ∈ X.pn ++ (pins ++ pinsAt [c, D] s'.heap) := List.mem_append_right _ (List.mem_append_right _ (mem_pinsAt (by simp) gc))
    have mD : (D, seqObj "list" #[] n1) ∈ X.pn ++ (pins ++ pinsAt [c, D] s'.heap) := List.mem_append_right _ (List.mem_append_right _ (mem_pinsAt (by simp) gD))
    obtain ⟨gc2, nc2, _⟩ := I2.pin _ mc
    obtain ⟨gD2, nD2, _⟩ := I2.pin _ mD
    have hlk : kA.size = i := by
      have h1 := congrArg List.length hkA
      have h2 := Paired.length hks
      rw [Array.length_toList, List.length_map] at h1
      rw [List.length_take] at h2
      have h3 := (List.getElem?_eq_some_iff.mp hw').1
      omega
    have hiz : i < sizeLine := Nat.lt_of_lt_of_le (List.getElem?_eq_some_iff.mp hai).1 hza
    refine wpAny_bind (listUpdate_at gc2 rfl ?_ (by omega) (by rw [Array.size_push]; omega))
    obtain ⟨n2, hn4⟩ : ∃ n2, (s2.heap.update c (Obj.mapSeq (·.push (Value.ref p)))).get? c = some (seqObj "list" (kA.push (Value.ref p)) n2) := ⟨_, get?_update_seq gc2 (·.push (Value.ref p))⟩
    have sm2 : Same H' (upd H' p o) := Same.new hp
    refine wpAny_pure ⟨rfl, upd H' p o, kA.push (Value.ref p), n2, ps ++ [p], ?_, Same.trans sm sm2, hn4, ?_, nc2, nD2, ?_, ?_⟩
    · exact (I2.unpinned).turned (it := c) (t' := s2.toks) (fun b u hb e => (Heap.get?_update_ne _ _ _ _ hb).trans e) nc2 fc.2.1 fc.2.2.2.1 fc.2.2.2.2.1 fc.2.2.2.2.2
    · exact (Heap.get?_update_ne _ _ _ _ (Ne.symm hcD)).trans gD2
    · rw [List.map_append, ← hkA]
      simp
    · rw [take_more hw']
      exact Paired.snoc (KeysAt.same sm2 hks) hkey
  · simp only [Nat.zero_add] at hJ
    obtain ⟨H', kA, e, ps, I', sm, gc, gD, nc, nD, hkA, hks⟩ := hJ
    have hwl := WordsAt.len hw
    rw [List.take_of_length_le (by rw [List.length_map]; omega)] at hks
    have hpl := Paired.length hks
    have fc' : FpOk X pins H' c := ⟨nc, fc.2⟩
    have fD' : FpOk X pins H' D := ⟨nD, fD.2⟩
    refine wpAny_bind (listItems_at gc rfl ?_)
    have hk' : EachIs (fun v d => ∃ as, Reads s'.heap v d as) kA.toList (ws.map encK) := by
      rw [hkA]
      exact each_keys (fun a w h => Dp.reads (X := X) I' _ _ _ (dp_K h) rfl) hks
    have hAl : AllAlike (ws.map encK) := AllAlike.of alike_K
    refine keyH_end (κ := dataKind s'.heap (ws.map encK)) (h₁ := PySem.W.hideAll s'.heap [c]) (fun b o _ e => PySem.W.of_hideAll _ e) (PySem.W.hideAll_none _ (by simp)) gc gD hcD
      (SortsAt.data hk' hAl (Sortable.tuples fun b => ⟨_, _, rfl⟩) fun d hd => ?_) ?_ hzl fun h3 tk3 n3 k3 m3 => ⟨rfl, ?_⟩
    · obtain ⟨w, _, rfl⟩ := List.mem_map.mp hd
      rw [depth_K]
      have := hr.un
      show X.A.units + 1 + 1 + 2 < cLine
      omega
    · have h1 := congrArg List.length hkA
      rw [Array.length_toList, List.length_map] at h1
      rw [List.length_map]
      omega
    · have hout := keyedOut_each (rev := false) encK (⟨s'.heap, kA.toList, hAl, rfl, hk'⟩ : KeyedOut false (ws.map encK) (as.map Value.ref) (sortVals (dataKind s'.heap (ws.map encK)) false kA.toList (as.map Value.ref))) e1
      rw [dle_K] at hout
      obtain ⟨bs, hbs, hbw⟩ := words_each hout
      have hbl : bs.length = as.length := by
        rw [WordsAt.len hbw, List.length_mergeSort, hwl]
      rw [hbs] at m3
      have I4 := retrack (t' := tk3) I' fc' fD' (fun b o h1 h2 e => k3 b o h1 (PySem.W.hideAll_get _ e (by simpa using h2))) (xs := bs.map V.ref) (by rw [List.length_map, hbl]; exact hza) (refs_vals bs) m3
      have sm4 : Same H (upd H' D (.lst (bs.map V.ref))) := Same.mut sm fD.1
      exact ⟨.ref D, _, I4, rfl, q D bs _ sm4 fD.1 (WordsAt.same sm4 hbw) upd_same⟩
end
end Sx
/-! ## W5 -/
namespace Sx
open PySem PySem.Spec PyProof.Rows L2
/-! ### fields, methods, comprehensions over words -/
theorem lk_here {k : PySem.Str} {v : V} {r : List (PySem.Str × V)} : List.lookup k ((k, v) :: r) = some v := by
  have e : (k == k) = true := beq_self_eq_true k
  simp only [List.lookup, e]
theorem lk_past {k g : PySem.Str} {v : V} {r : List (PySem.Str × V)} (h : (k == g) = false) : List.lookup k ((g, v) :: r) = List.lookup k r := by
  simp only [List.lookup, h]
section
variable {K : PySem.W.Frag} {σ : L2.St} {H : Hp} {i : Nat} {a C dx : Addr} {f m : PySem.Str} {v : V} {Q : VK} {sp : Sp} {E : XK} {t : TA}
theorem w_fld (hv : σ[i]? = some (some (.ref a))) (h : H a = some (.ins C dx [(f, v)])) (c : Cls K C) (n : NoAttr K C f) (q : Q v H) : tFld K (tVar i) f σ H Q := ⟨_, hv, a, C, dx, _, v, rfl, h, c, n, lk_here, q⟩
theorem w_met (hv : σ[i]? = some (some (.ref a))) (h : H a = some (.ins C dx [(f, v)])) (l : (m == f) = false) (q : t σ H fun vs H2 => sp (.ref a :: (vs ++ [])) H2 Q E) : tMeth C m sp [] E (tVar i) t σ H Q :=
  ⟨_, hv, a, dx, _, rfl, h, (lk_past l).trans rfl, q⟩
theorem w_sfld {tv : TE} {D : Ends} {y0 : V} {fs : List (PySem.Str × V)} (hv : σ[i]? = some (some (.ref a))) (q : tv σ H fun y H1 => H1 a = some (.ins C dx [(f, y0)]) ∧ D.nx σ (upd H1 a (.ins C dx [(f, y)])))
    (mono : ∀ R R' : VK, (∀ y H1, R y H1 → R' y H1) → tv σ H R → tv σ H R') (c : Cls K C) (n : NoAttr K C f) : sFld K (tVar i) tv f D σ H := by
  refine mono _ _ (fun y H1 q => ?_) q
  obtain ⟨h, q⟩ := q
  have e : putF f y [(f, y0)] = [(f, y)] := if_pos rfl
  refine ⟨_, hv, a, C, dx, _, rfl, h, c, n, by show 1 < 1000; decide, ?_⟩
  rw [e]
  exact q
end
/-- the words of a list that a test keeps -/
theorem lcW {K : PySem.W.Frag} {tl : TE} {tt : TT} {j : Nat} {σ : L2.St} {H : Hp} {Q : VK} {a : Addr} {as : List Addr} {ws : List Sy.Word} (p : Sy.Word → Bool) (he : ∀ R : VK, R (.ref a) H → tl σ H R) (hx : SqL K H a (as.map V.ref)) (hw : WordsAt H as ws) (hz : as.length ≤ 1000)
    (hwipe : ∀ x : V, wipe ((wipe σ [j]).set j (some x)) [j] = wipe σ [j]) (hj : ∀ x : V, ((wipe σ [j]).set j (some x))[j]? = some (some x))
    (ht : ∀ b w H', Same H H' → WordAt H' b w → ∀ R : Bool → Hp → Prop, (∀ H2, Same H' H2 → R (p w) H2) → tt ((wipe σ [j]).set j (some (.ref b))) H' R)
    (hq : ∀ D bs H', Same H H' → H D = none → H' D = some (.lst (bs.map V.ref)) → WordsAt H' bs (ws.filter p) → Q (.ref D) H') : tLc (iList K tl) (gName j) tt (tVar j) [j] σ H Q := by
  refine he _ ⟨a, rfl, ⟨_, hx⟩, fun D hD => ?_⟩
  have hwl := WordsAt.len hw
  refine lc_list (K := K) (a := a) (xs := as.map V.ref) (fun i H' => ∃ bs, Same H H' ∧ H' D = some (.lst (bs.map V.ref)) ∧ WordsAt H' bs ((ws.take i).filter p) ∧ bs.length ≤ i) ⟨[], Same.new hD, upd_same, .nil, Nat.le_refl _⟩ (fun i H' _ q => Same.seq q.choose_spec.1 hx) ?_ ?_
  · rintro i x H' hi ⟨bs, sm, hb, hbs, hbl⟩
    obtain ⟨ai, hai, rfl⟩ : ∃ ai, as[i]? = some ai ∧ x = V.ref ai := by
      rw [List.getElem?_map] at hi
      cases ea : as[i]? with
      | none => rw [ea] at hi; cases hi
      | some ai => rw [ea] at hi; exact ⟨ai, rfl, (Option.some.inj hi).symm⟩
    have hlt := (List.getElem?_eq_some_iff.mp hai).1
    obtain ⟨a', w, ha', hw', hword⟩ := WordsAt.at (i := i) hw hlt
    have eai : a' = ai := Option.some.inj (ha'.symm.trans hai)
    subst eai
    refine ⟨hwipe _, ht a' w H' sm (WordAt.same sm hword) _ fun H2 s2 => ?_⟩
    have htk : ws.take (i + 1) = ws.take i ++ [w] := take_more hw'
    refine ifb (fun g => ?_) (fun g => ?_)
    · refine ⟨_, hj _, bs.map V.ref, s2 _ _ hb, by rw [List.length_map]; exact szt (by omega), bs ++ [a'], Same.mut (Same.trans sm s2) hD, ?_, ?_, ?_⟩
      · rw [upd_same, List.map_append]
        rfl
      · rw [htk, List.filter_append]
        have e : [w].filter p = [w] := by simp [g]
        rw [e]
        have sD : Same H' (upd H2 D (.lst (bs.map V.ref ++ [.ref a']))) → True := fun _ => trivial
        refine Paired.snoc ?_ ?_
        · exact Paired.mapP hbs fun b u hu => by
            obtain ⟨r, t, h1, h2, h3⟩ := WordAt.same s2 hu
            exact ⟨r, t, by rw [upd_ne (ne_of h1 (s2 _ _ hb) (by intro z; cases z))]; exact h1, by rw [upd_ne (ne_of h2 (s2 _ _ hb) (by intro z; cases z))]; exact h2, by rw [upd_ne (ne_of h3 (s2 _ _ hb) (by intro z; cases z))]; exact h3⟩
        · exact WordAt.same (Same.mut (Same.trans sm s2) hD) hword
      · rw [List.length_append, List.length_singleton]
        omega
    · refine ⟨bs, Same.trans sm s2, s2 _ _ hb, ?_, by omega⟩
      rw [htk, List.filter_append]
      have e : [w].filter p = [] := by simp [g]
      rw [e, List.append_nil]
      exact WordsAt.same s2 hbs
  · rintro H' ⟨bs, sm, hb, hbs, _⟩
    rw [List.length_map, List.take_of_length_le (by omega)] at hbs
    exact hq D bs H' sm hD hb hbs
theorem lexLt_bf : ∀ l m : List Nat, HT.lexLt (l.map fun (n : Nat) => (n : Int)) (m.map fun (n : Nat) => (n : Int)) = Sy.before l m
  | [], [] => rfl
  | [], _ :: _ => rfl
  | _ :: _, [] => rfl
  | a :: l, b :: m => by
    show (if (a : Int) = b then HT.lexLt _ _ else decide ((a : Int) < b)) = _
    rw [lexLt_bf l m, Bool.eq_iff_iff, Lx.bf_cons]
    by_cases h : (a : Int) = b
    · have h2 : a = b := by omega
      rw [if_pos h, h2]
      simp
    · have h2 : ¬ a = b := by omega
      rw [if_neg h, decide_eq_true_eq]
      constructor
      · intro g
        exact .inl (by omega)
      · rintro (g | ⟨g, _⟩)
        · omega
        · exact absurd g h2
/-! ### the lexicon -/
def LexAt (C : Addr) (H : Hp) (x : Addr) (L : List Sy.Word) : Prop := ∃ (dx r : Addr) (as : List Addr), H x = some (.ins C dx [("rows", .ref r)]) ∧ H r = some (.lst (as.map V.ref)) ∧ WordsAt H as L
theorem LexAt.same {C : Addr} {H H' : Hp} {x : Addr} {L : List Sy.Word} (e : Same H H') (h : LexAt C H x L) : LexAt C H' x L := by
  obtain ⟨dx, r, as, h1, h2, h3⟩ := h
  exact ⟨dx, r, as, e _ _ h1, e _ _ h2, WordsAt.same e h3⟩
/-- all but the object stands; its rows are new -/
def Keep (x : Addr) (H H' : Hp) : Prop := (∀ b o, H b = some o → b ≠ x → H' b = some o) ∧ ∀ C dx r, H' x = some (.ins C dx [("rows", .ref r)]) → H r = none
structure TxL (K : PySem.W.Frag) (C : Addr) : Prop where
  cl : Cls K C
  nR : NoAttr K C "rows"
/-- a new list under rows -/
theorem LexAt.put {C : Addr} {H H' : Hp} {x dx r : Addr} {as : List Addr} {L : List Sy.Word} (h1 : H' r = some (.lst (as.map V.ref))) (h2 : WordsAt H' as L) (hx : H' x = some (.ins C dx [("rows", .ref r)])) : LexAt C H' x L := ⟨dx, r, as, hx, h1, h2⟩
theorem WordAt.upd_ins {H : Hp} {x C dx : Addr} {fs fs' : List (PySem.Str × V)} {a : Addr} {w : Sy.Word} (hx : H x = some (.ins C dx fs)) (h : WordAt H a w) : WordAt (upd H x (.ins C dx fs')) a w := by
  obtain ⟨r, t, h1, h2, h3⟩ := h
  exact ⟨r, t, by rw [upd_ne (ne_of h1 hx (by intro z; cases z))]; exact h1, by rw [upd_ne (ne_of h2 hx (by intro z; cases z))]; exact h2, by rw [upd_ne (ne_of h3 hx (by intro z; cases z))]; exact h3⟩
theorem LexAt.stored {C : Addr} {H : Hp} {x dx r : Addr} {fs : List (PySem.Str × V)} {as : List Addr} {L : List Sy.Word} (hx : H x = some (.ins C dx fs)) (h1 : H r = some (.lst (as.map V.ref))) (h2 : WordsAt H as L) : LexAt C (upd H x (.ins C dx [("rows", .ref r)])) x L :=
  ⟨dx, r, as, upd_same, by rw [upd_ne (ne_of h1 hx (by intro z; cases z))]; exact h1, Paired.mapP h2 fun _ _ h => WordAt.upd_ins hx h⟩
theorem Keep.stored {H H' : Hp} {x C dx p : Addr} (e : Same H H') (hp : H p = none) : Keep x H (upd H' x (.ins C dx [("rows", .ref p)])) := by
  refine ⟨fun b u hb hn => ?_, fun C' dx' r h => ?_⟩
  · rw [upd_ne hn]
    exact e _ _ hb
  · rw [upd_same] at h
    injection h with h
    injection h with _ _ h
    injection h with h _
    cases (show V.ref p = V.ref r from congrArg Prod.snd h)
    exact hp
def idxZ (o : Option Nat) : Int := match o with
  | some i => (i : Int)
  | none => -1
section
variable {P : Program} {w : World} {K : PySem.W.Frag} {mg : PySem.Str → Option Value} {base : Heap} {C : Addr}
/-! Lexicon.__init__ -/
abbrev s_linit : Stmt := inClass (top 28) 0
theorem sc_linit : FnScope ["self"] ["self"] (defScope s_linit) := ⟨rfl, rfl, rfl, by decide +kernel, rfl, by decide +kernel, by decide +kernel⟩
def sp_linit (C : Addr) : Sp := fun vs H Q _ => ∃ (p dx : Addr), vs = [.ref p] ∧ H p = some (.ins C dx []) ∧ ∀ H', LexAt C H' p [] → Keep p H H' → Q .non H'
theorem ok_linit (D : MakAt K mg "Lexicon" C "Lexicon.__init__" s_linit ["self"]) (T : TxL K C) : C8.Mak P w K mg base 1 "Lexicon" C (sp_linit C) [] := by
  refine mak_of D sc_linit (fun vs H Q E h => ?_) (fun f cdv A outer s H vs Q E hr h => ?_)
  · obtain ⟨p, dx, rfl, _⟩ := h
    rfl
  · obtain ⟨p, dx, rfl, hp, k⟩ := h
    refine ⟨_, pss_one (ps_fld (pv 0) (pe_lst pa_nil) rfl), ?_⟩
    refine ⟨Nat.zero_le _, fun r hr1 => ⟨_, rfl, p, C, dx, [], rfl, ?_, T.cl, T.nR, by show 0 < 1000; decide, ?_⟩⟩
    · rw [upd_ne (ne_of_none hp hr1)]
      exact hp
    · refine k _ (LexAt.stored (fs := []) (by rw [upd_ne (ne_of_none hp hr1)]; exact hp) (as := []) upd_same .nil) (Keep.stored (Same.new hr1) hr1)
/-! take -/
abbrev s_take : Stmt := inClass (top 28) 1
theorem sc_take : FnScope ["self", "words"] ["self", "words"] (defScope s_take) := ⟨rfl, rfl, rfl, by decide +kernel, rfl, by decide +kernel, by decide +kernel⟩
def sp_take (K : PySem.W.Frag) (C : Addr) : Sp := fun vs H Q _ => ∃ (x a : Addr) (L : List Sy.Word) (as : List Addr) (ws : List Sy.Word), vs = [.ref x, .ref a] ∧ LexAt C H x L ∧ SqL K H a (as.map V.ref) ∧ WordsAt H as ws ∧
  ∀ H', LexAt C H' x (ws.mergeSort Lx.wle) → Keep x H H' → Q .non H'
theorem ok_take (D : MetAt K C "take" "Lexicon.take" s_take ["self", "words"]) (T : Txt mg) (TL : TxL K C) : C8.Met P w K mg base 1 C "take" (sp_take K C) [] := by
  refine met_of D sc_take (fun vs H Q E h => ?_) (fun f cdv A outer s H vs Q E hr h => ?_)
  · obtain ⟨x, a, L, as, ws, rfl, _⟩ := h
    rfl
  · obtain ⟨x, a, L, as, ws, rfl, ⟨dx, r, as0, hx, _, _⟩, ha, hw, k⟩ := h
    refine ⟨_, pss_one (ps_fld (pv 0) (pe_callB (cr_sortedW hr) (by rfl) T.sorted (by decide +kernel) (pa_cons (pv 1) pa_nil)) rfl), ?_⟩
    refine ⟨_, rfl, a, as, ws, rfl, ha, hw, fun p bs hp hb => ?_⟩
    have hx2 := Same.new (o := .lst (bs.map V.ref)) hp _ _ hx
    refine ⟨_, rfl, x, C, dx, _, rfl, hx2, TL.cl, TL.nR, by show 1 < 1000; decide, ?_⟩
    exact k _ (LexAt.stored hx2 upd_same (WordsAt.same (Same.new hp) hb)) (Keep.stored (Same.new hp) hp)
/-! size -/
abbrev s_size : Stmt := inClass (top 28) 2
theorem sc_size : FnScope ["self"] ["self"] (defScope s_size) := ⟨rfl, rfl, rfl, by decide +kernel, rfl, by decide +kernel, by decide +kernel⟩
def sp_size (C : Addr) : Sp := fun vs H Q _ => ∃ (x : Addr) (L : List Sy.Word), vs = [.ref x] ∧ LexAt C H x L ∧ Q (.int (L.length : Int)) H
theorem ok_size (D : MetAt K C "size" "Lexicon.size" s_size ["self"]) (T : Txt mg) (TL : TxL K C) : C8.Met P w K mg base 1 C "size" (sp_size C) [] := by
  refine met_of D sc_size (fun vs H Q E h => ?_) (fun f cdv A outer s H vs Q E hr h => ?_)
  · obtain ⟨x, L, rfl, _⟩ := h
    rfl
  · obtain ⟨x, L, rfl, ⟨dx, r, as, hx, hr1, hw⟩, k⟩ := h
    refine ⟨_, pss_one (ps_ret (pe_callB call_len_seq (by rfl) T.len PySem.boot_len (pa_cons (pe_fld (pv 0) rfl) pa_nil))), ?_⟩
    walk_at "sx"
    refine w_fld rfl hx TL.cl TL.nR ?_
    walk_at "sx"
    refine ⟨_, .inl (SqL.of hr1), ?_⟩
    rw [List.length_map, WordsAt.len hw]
    exact k
/-! has -/
abbrev s_has : Stmt := inClass (top 28) 3
theorem sc_has : FnScope ["self", "number"] ["self", "number"] (defScope s_has) := ⟨rfl, rfl, rfl, by decide +kernel, rfl, by decide +kernel, by decide +kernel⟩
def sp_has (C : Addr) : Sp := fun vs H Q _ => ∃ (x : Addr) (L : List Sy.Word) (n : Nat), vs = [.ref x, .int (n : Int)] ∧ LexAt C H x L ∧ Q (.bl (decide (n < L.length))) H
theorem ok_has (D : MetAt K C "has" "Lexicon.has" s_has ["self", "number"]) (T : Txt mg) (TL : TxL K C) : C8.Met P w K mg base 1 C "has" (sp_has C) [] := by
  refine met_of D sc_has (fun vs H Q E h => ?_) (fun f cdv A outer s H vs Q E hr h => ?_)
  · obtain ⟨x, L, n, rfl, _⟩ := h
    rfl
  · obtain ⟨x, L, n, rfl, ⟨dx, r, as, hx, hr1, hw⟩, k⟩ := h
    refine ⟨_, pss_one (ps_ret (pe_cmpR op_lt (pv 1) (pe_callB call_len_seq (by rfl) T.len PySem.boot_len (pa_cons (pe_fld (pv 0) rfl) pa_nil)) (nomark _))), ?_⟩
    walk_at "sx"
    refine w_fld rfl hx TL.cl TL.nR ?_
    walk_at "sx"
    refine ⟨_, .inl (SqL.of hr1), ?_⟩
    rw [List.length_map, WordsAt.len hw]
    have e : decide (n < L.length) = decide ((n : Int) < (L.length : Int)) := decide_eq_decide.mpr (by omega)
    rw [e] at k
    exact k
/-! word -/
abbrev s_word : Stmt := inClass (top 28) 4
theorem sc_word : FnScope ["self", "number"] ["self", "number"] (defScope s_word) := ⟨rfl, rfl, rfl, by decide +kernel, rfl, by decide +kernel, by decide +kernel⟩
def sp_word (C : Addr) : Sp := fun vs H Q _ => ∃ (x : Addr) (L : List Sy.Word) (n : Nat), vs = [.ref x, .int (n : Int)] ∧ LexAt C H x L ∧ n < L.length ∧ ∀ a w, L[n]? = some w → WordAt H a w → Q (.ref a) H
theorem ok_word (D : MetAt K C "word" "Lexicon.word" s_word ["self", "number"]) (TL : TxL K C) : C8.Met P w K mg base 1 C "word" (sp_word C) [] := by
  refine met_of D sc_word (fun vs H Q E h => ?_) (fun f cdv A outer s H vs Q E hr h => ?_)
  · obtain ⟨x, L, n, rfl, _⟩ := h
    rfl
  · obtain ⟨x, L, n, rfl, ⟨dx, r, as, hx, hr1, hw⟩, hn, k⟩ := h
    refine ⟨_, pss_one (ps_ret (pe_ix ix_list (pe_fld (pv 0) rfl) (pv 1) (fun _ _ => rfl))), ?_⟩
    obtain ⟨a, u, ha, hu, hau⟩ := WordsAt.at (i := n) hw (by rw [WordsAt.len hw]; exact hn)
    walk_at "sx"
    refine w_fld rfl hx TL.cl TL.nR ?_
    walk_at "sx"
    exact ⟨_, SqL.of hr1, _, atI_nat (j := n) (by rw [List.getElem?_map, ha]; rfl), k a u hu hau⟩
end
end Sx
/-! ## W6 -/
namespace Lx
open Sy
def nm (r t : Text) : Word → Bool := fun w => w.reading == r && w.text == t
theorem nw_hit {L : List Word} {r t : Text} {i : Nat} {w : Word} (h : (L.take i).all (fun w => !nm r t w) = true) (hi : L[i]? = some w) (hw : nm r t w = true) : numberOfWord L r t = some i := by
  unfold numberOfWord
  rw [List.findIdx?_eq_some_iff_getElem]
  obtain ⟨h1, h2⟩ := List.getElem?_eq_some_iff.mp hi
  refine ⟨h1, by rw [h2]; exact hw, fun j hj => ?_⟩
  have := List.all_eq_true.mp h (L[j]) (List.mem_iff_getElem.mpr ⟨j, by rw [List.length_take]; omega, by rw [List.getElem_take]⟩)
  rw [Bool.not_eq_true'] at this
  intro q
  exact absurd (this.symm.trans q) (by decide)
theorem nw_none {L : List Word} {r t : Text} (h : L.all (fun w => !nm r t w) = true) : numberOfWord L r t = none := by
  unfold numberOfWord
  rw [List.findIdx?_eq_none_iff]
  intro x hx
  have := List.all_eq_true.mp h x hx
  rw [Bool.not_eq_true'] at this
  exact this
theorem wall_more {p : Word → Bool} {L : List Word} {i : Nat} {w : Word} (hi : L[i]? = some w) (h : (L.take i).all p = true) (hw : p w = true) : (L.take (i + 1)).all p = true := by
  rw [Sx.take_more hi, List.all_append, h]
  show p w && true = true
  rw [hw]
  rfl
theorem nw_lt {L : List Word} {r t : Text} {i : Nat} (h : numberOfWord L r t = some i) : i < L.length := by
  unfold numberOfWord at h
  rw [List.findIdx?_eq_some_iff_getElem] at h
  exact h.1
end Lx
namespace Sx
open PySem PySem.Spec PyProof.Rows L2
theorem cutW {α : Type} (f : α → V) (l : List α) (lo hi : Option Int) : cutV (l.map f) lo hi = ((l.drop (HT.sIx l.length 0 lo)).take (HT.sIx l.length l.length hi - HT.sIx l.length 0 lo)).map f := by
  unfold cutV
  rw [List.length_map, ← List.map_drop, ← List.map_take]
theorem cut_erase {α : Type} (f : α → V) (l : List α) {n : Nat} (hn : n < l.length) : cutV (l.map f) none (some (n : Int)) ++ cutV (l.map f) (some ((n : Int) + 1)) none = (l.eraseIdx n).map f := by
  rw [cutW, cutW, HT.sIx_none, HT.sIx_nat, HT.sIx_none, show ((n : Int) + 1) = ((n + 1 : Nat) : Int) by omega, HT.sIx_nat, Nat.min_eq_left (by omega), Nat.min_eq_left (by omega), List.drop_zero, Nat.sub_zero, ← List.map_append, List.eraseIdx_eq_take_drop_succ,
    List.take_of_length_le (l := l.drop (n + 1)) (by rw [List.length_drop]; omega)]
theorem WordsAt.eraseIdx : ∀ {H : Hp} {as : List Addr} {ws : List Sy.Word} (n : Nat), WordsAt H as ws → WordsAt H (as.eraseIdx n) (ws.eraseIdx n)
  | _, _, _, _, .nil => .nil
  | _, _, _, 0, .cons _ t => t
  | _, _, _, n + 1, .cons h t => .cons h (WordsAt.eraseIdx n t)
/-- a loop over the places of a list -/
theorem sforR {tb : TS} {D : Ends} {σ : L2.St} {H : Hp} {j : Nat} {ta : TA} {n : Nat} (he : ∀ R : List V → Hp → Prop, R [.int (n : Int)] H → ta σ H R) (hn : n ≤ 100000000) (Pv : Nat → L2.St → Hp → Prop) (h0 : Pv 0 σ H)
    (hs : ∀ i σ H, i < n → Pv i σ H → tb { D with nx := Pv (i + 1), ct := Pv (i + 1), bk := D.nx } (σ.set j (some (V.int (i : Int)))) H) (hd : ∀ σ H, Pv n σ H → D.nx σ H) : tFor (iRng1 ta) (gName j) tb D σ H := by
  refine he _ ⟨(n : Int), rfl, by omega, by omega, ?_⟩
  rw [Int.toNat_natCast]
  exact for_range (lo := 0) (n := n) Pv h0 (fun i σ H hi p => by
    have := hs i σ H hi p
    rw [Int.zero_add]
    exact this) hd
section
variable {P : Program} {w : World} {K : PySem.W.Frag} {mg : PySem.Str → Option Value} {base : Heap} {C : Addr}
/-! number_of -/
abbrev s_lnum : Stmt := inClass (top 28) 5
theorem sc_lnum : FnScope ["self", "reading", "text", "number"] ["self", "reading", "text"] (defScope s_lnum) := ⟨rfl, rfl, rfl, by decide +kernel, rfl, by decide +kernel, by decide +kernel⟩
def sp_lnum (K : PySem.W.Frag) (C : Addr) : Sp := fun vs H Q _ => ∃ (x : Addr) (L : List Sy.Word) (y z : V) (r t : List Nat), vs = [.ref x, y, z] ∧ LexAt C H x L ∧ L.length ≤ 1000 ∧ RowAt K H y r ∧ RowAt K H z t ∧ ∀ H', Same H H' → Q (.int (idxZ (Sy.numberOfWord L r t))) H'
theorem ok_lnum (D : MetAt K C "number_of" "Lexicon.number_of" s_lnum ["self", "reading", "text"]) (T : Txt mg) (TL : TxL K C) (G : C8.Cal P w K mg base 1 "has_name" (sp_hasn K) []) : C8.Met P w K mg base 2 C "number_of" (sp_lnum K C) [] := by
  refine met_of D sc_lnum (fun vs H Q E h => ?_) (fun f cdv A outer s H vs Q E hr h => ?_)
  · obtain ⟨x, L, y, z, r, t, rfl, _⟩ := h
    rfl
  · obtain ⟨x, L, y, z, r, t, rfl, ⟨dx, ar, as, hx, har, hw⟩, hL, hy, hz, k⟩ := h
    refine ⟨_, pss_cons (ps_for PassesOwn.never rfl (pi_range1 rfl T.range (pa_cons (pe_callB call_len_seq (by rfl) T.len PySem.boot_len (pa_cons (pe_fld (pv 0) rfl) pa_nil)) pa_nil)) (pg_name (i := 3) sc_lnum.nd rfl (.inl rfl))
        (pss_one (ps_if (pt_val (C8.pe_c G hr (by decide) rfl (pa_cons (pe_ix ix_list (pe_fld (pv 0) rfl) (pv 3) (fun _ _ => rfl)) (pa_cons (pv 1) (pa_cons (pv 2) pa_nil))))) (pss_one (ps_ret (pv 3))) pss_nil)))
      (pss_one (ps_ret (pe_un un_neg pe_int))), ?_⟩
    refine sforR (n := L.length) (fun R q => ?_) (by omega) (fun i σ H' => (∃ v, σ = [some (.ref x), some y, some z, v]) ∧ Same H H' ∧ (L.take i).all (fun w => !Lx.nm r t w) = true) ⟨⟨_, rfl⟩, Same.refl H, rfl⟩ ?_ ?_
    · walk_at "sx"
      refine w_fld rfl hx TL.cl TL.nR ?_
      walk_at "sx"
      refine ⟨_, .inl (SqL.of har), ?_⟩
      rw [List.length_map, WordsAt.len hw]
      exact q
    · rintro i σ H' hi ⟨⟨v, rfl⟩, sm, hall⟩
      obtain ⟨a, u, ha, hu, hau⟩ := WordsAt.at (i := i) hw (by rw [WordsAt.len hw]; exact hi)
      walk_at "sx"
      refine w_fld rfl (sm _ _ hx) TL.cl TL.nR ?_
      walk_at "sx"
      refine ⟨_, SqL.of (sm _ _ har), _, atI_nat (j := i) (by rw [List.getElem?_map, ha]; rfl), a, u, y, z, r, t, rfl, WordAt.same sm hau, RowAt.same sm hy, RowAt.same sm hz, fun H2 s2 => ?_⟩
      walk_at "sx"
      refine ⟨fun g => ?_, fun g => ⟨Same.trans sm s2, Lx.wall_more hu hall (by simp only [Lx.nm, g, Bool.not_false])⟩⟩
      have e := Lx.nw_hit (r := r) (t := t) hall hu g
      have q := k H2 (Same.trans sm s2)
      rw [e] at q
      exact q
    · rintro σ H' ⟨⟨v, rfl⟩, sm, hall⟩
      walk_at "sx"
      rw [List.take_length] at hall
      have q := k H' sm
      rw [Lx.nw_none hall] at q
      exact q
/-! is_full_for -/
abbrev s_full : Stmt := inClass (top 28) 6
theorem sc_full : FnScope ["self", "reading", "text"] ["self", "reading", "text"] (defScope s_full) := ⟨rfl, rfl, rfl, by decide +kernel, rfl, by decide +kernel, by decide +kernel⟩
def sp_full (K : PySem.W.Frag) (C : Addr) : Sp := fun vs H Q _ => ∃ (x : Addr) (L : List Sy.Word) (y z : V) (r t : List Nat), vs = [.ref x, y, z] ∧ LexAt C H x L ∧ L.length ≤ 1000 ∧ RowAt K H y r ∧ RowAt K H z t ∧ ∀ H', Same H H' → Q (.bl (decide (128 ≤ L.length) && (Sy.numberOfWord L r t).isNone)) H'
theorem ok_full (D : MetAt K C "is_full_for" "Lexicon.is_full_for" s_full ["self", "reading", "text"]) (T : Txt mg) (TL : TxL K C) (G : C8.Met P w K mg base 2 C "number_of" (sp_lnum K C) []) : C8.Met P w K mg base 3 C "is_full_for" (sp_full K C) [] := by
  refine met_of D sc_full (fun vs H Q E h => ?_) (fun f cdv A outer s H vs Q E hr h => ?_)
  · obtain ⟨x, L, y, z, r, t, rfl, _⟩ := h
    rfl
  · obtain ⟨x, L, y, z, r, t, rfl, hL0, hL, hy, hz, k⟩ := h
    obtain ⟨dx, ar, as, hx, har, hw⟩ := id hL0
    refine ⟨_, pss_one (ps_ret (pe_and (pe_cmpR op_ge (pe_callB call_len_seq (by rfl) T.len PySem.boot_len (pa_cons (pe_fld (pv 0) rfl) pa_nil)) (pe_gi rfl T.mwl) (nomark _))
      (pe_one (pe_cmpR op_lt (C8.pe_mt G hr (by decide) (pv 0) (pa_cons (pv 1) (pa_cons (pv 2) pa_nil))) pe_int (nomark _))))), ?_⟩
    walk_at "sx"
    refine w_fld rfl hx TL.cl TL.nR ?_
    walk_at "sx"
    refine ⟨_, .inl (SqL.of har), fun g => ?_, fun g => ?_⟩
    · rw [List.length_map, WordsAt.len hw] at g
      refine w_met rfl hx (by decide +kernel) ?_
      walk_at "sx"
      refine ⟨x, L, y, z, r, t, rfl, hL0, hL, hy, hz, fun H' sm => ?_⟩
      walk_at "sx"
      have q := k H' sm
      rw [decide_eq_true (by omega : 128 ≤ L.length), Bool.true_and] at q
      cases e : Sy.numberOfWord L r t with
      | none => rw [e] at q; exact q
      | some i =>
        rw [e] at q
        have e2 : decide (idxZ (some i) < 0) = false := decide_eq_false (by show ¬ ((i : Int) < 0); omega)
        rw [e2]
        exact q
    · rw [List.length_map, WordsAt.len hw] at g
      have q := k H (Same.refl H)
      rw [decide_eq_false (by omega : ¬ 128 ≤ L.length)] at q
      exact q
/-! drop -/
abbrev s_ldrop : Stmt := inClass (top 28) 7
theorem sc_ldrop : FnScope ["self", "number"] ["self", "number"] (defScope s_ldrop) := ⟨rfl, rfl, rfl, by decide +kernel, rfl, by decide +kernel, by decide +kernel⟩
def sp_ldrop (C : Addr) : Sp := fun vs H Q _ => ∃ (x : Addr) (L : List Sy.Word) (n : Nat), vs = [.ref x, .int (n : Int)] ∧ LexAt C H x L ∧ n < L.length ∧ L.length ≤ 1000 ∧ ∀ H', LexAt C H' x (L.eraseIdx n) → Keep x H H' → Q .non H'
theorem ok_ldrop (D : MetAt K C "drop" "Lexicon.drop" s_ldrop ["self", "number"]) (TL : TxL K C) : C8.Met P w K mg base 1 C "drop" (sp_ldrop C) [] := by
  refine met_of D sc_ldrop (fun vs H Q E h => ?_) (fun f cdv A outer s H vs Q E hr h => ?_)
  · obtain ⟨x, L, n, rfl, _⟩ := h
    rfl
  · obtain ⟨x, L, n, rfl, ⟨dx, r, as, hx, hr1, hw⟩, hn, hL, k⟩ := h
    have hwl := WordsAt.len hw
    refine ⟨_, pss_one (ps_fld (pv 0) (pe_op op_cat (pe_slice sl_list (pe_fld (pv 0) rfl) po_none (po_some (pv 1))) (pe_slice sl_list (pe_fld (pv 0) rfl) (po_some (pe_op op_add (pv 1) pe_int)) po_none)) rfl), ?_⟩
    unfold sFld
    walk_at "sx"
    refine w_fld rfl hx TL.cl TL.nR ?_
    walk_at "sx"
    refine ⟨_, SqL.of hr1, fun p hp => ?_⟩
    have s1 : Same H (upd H p (.lst (cutV (as.map V.ref) none (some (n : Int))))) := Same.new hp
    refine w_fld rfl (s1 _ _ hx) TL.cl TL.nR ?_
    walk_at "sx"
    refine ⟨_, SqL.of (s1 _ _ hr1), fun q hq => ?_⟩
    have s2 := Same.new (o := .lst (cutV (as.map V.ref) (some ((n : Int) + 1)) none)) hq
    refine ⟨_, s2 _ _ upd_same, _, upd_same, ?_, fun u hu => ?_⟩
    · have e := congrArg List.length (cut_erase V.ref as (n := n) (by omega))
      rw [List.length_append, List.length_map] at e
      rw [e]
      have := List.length_eraseIdx_le as n
      exact szl (by omega)
    · have s3 : Same H (upd _ u (.lst (cutV (as.map V.ref) none (some (n : Int)) ++ cutV (as.map V.ref) (some ((n : Int) + 1)) none))) := Same.trans (Same.trans s1 s2) (Same.new hu)
      refine ⟨C, dx, _, s3 _ _ hx, TL.cl, TL.nR, by show 1 < 1000; decide, ?_⟩
      rw [cut_erase V.ref as (by omega)] at s3 ⊢
      exact k _ (LexAt.stored (s3 _ _ hx) upd_same (WordsAt.same s3 (WordsAt.eraseIdx n hw))) (Keep.stored s3 (Same.free (Same.trans s1 s2) hu))
end
end Sx
/-! ## W7 -/
namespace Lx
open Sy
/-- what is put in: those of another name, the word behind them, sorted -/
def putL (L : List Word) (w : Word) : List Word := ((L.filter fun q => !q.same w) ++ [w]).mergeSort wle
def rank (L : List Word) (r : Text) : List Word := (L.filter fun q => r.isPrefixOf q.reading).mergeSort kle
end Lx
namespace Sx
open PySem PySem.Spec PyProof.Rows L2
theorem LexAt.row {C : Addr} {H : Hp} {x : Addr} {L : List Sy.Word} (h : LexAt C H x L) : ∃ dx r as, H x = some (.ins C dx [("rows", .ref r)]) ∧ H r = some (.lst (as.map V.ref)) ∧ WordsAt H as L ∧ as.length = L.length := by
  obtain ⟨dx, r, as, h1, h2, h3⟩ := h
  exact ⟨dx, r, as, h1, h2, h3, WordsAt.len h3⟩
theorem rLtT_N {K : PySem.W.Frag} {H : Hp} {a b : Addr} {l m : List Nat} {Q : VK} (h1 : SqT K H a (vN l)) (h2 : SqT K H b (vN m)) (q : Q (.bl (Sy.before l m)) H) : rLtT K (.ref a) (.ref b) H Q := by
  rw [vN_ints] at h1 h2
  refine ⟨a, b, _, _, rfl, rfl, h1, h2, ?_⟩
  rw [lexLt_bf]
  exact q
theorem ix_tupK {X : Cx} {K : PySem.W.Frag} (h : X.K = K) : IxR X (rIxT K) := by
  rw [← h]
  exact ix_tup
theorem op_ltTK {X : Cx} {K : PySem.W.Frag} (h : X.K = K) (hu : X.A.units < cLine) : OpR X (compareOp .Lt) (rLtT K) := by
  rw [← h]
  exact op_ltT hu
theorem op_eqDK {X : Cx} {K : PySem.W.Frag} (h : X.K = K) (hu : X.A.units + 64 < cLine) : OpR X (compareOp .Eq) (rEqD K) := by
  rw [← h]
  exact op_eqD hu
theorem pe_tupK {X : Cx} {K : PySem.W.Frag} {a : Expr} {ta : TE} {p pos : Pos} (h : X.K = K) (ha : PE X a ta) (hg : Gl X "tuple") (hm : X.mg "tuple" = none) (na : starEach [a] X.env = (false, eval a X.env) :: starEach [] X.env) :
    PE X (.Call (.Name "tuple" p) [a] [] pos) (tThen ta (kTup K)) := by
  rw [← h]
  exact pe_tupleOf hg hm ha na
section
variable {P : Program} {w : World} {K : PySem.W.Frag} {mg : PySem.Str → Option Value} {base : Heap} {C : Addr}
/-! put -/
abbrev s_lput : Stmt := inClass (top 28) 8
theorem sc_lput : FnScope ["self", "word", "others", "other"] ["self", "word"] (defScope s_lput) := ⟨rfl, rfl, rfl, by decide +kernel, rfl, by decide +kernel, by decide +kernel⟩
def sp_lput (C : Addr) : Sp := fun vs H Q _ => ∃ (x a : Addr) (L : List Sy.Word) (u : Sy.Word), vs = [.ref x, .ref a] ∧ LexAt C H x L ∧ L.length ≤ 128 ∧ WordAt H a u ∧ ∀ H', LexAt C H' x (Lx.putL L u) → Keep x H H' → Q (.int (idxZ (Sy.numberOfWord (Lx.putL L u) u.reading u.text))) H'
theorem ok_lput (D : MetAt K C "put" "Lexicon.put" s_lput ["self", "word"]) (T : Txt mg) (TL : TxL K C) (G1 : C8.Cal P w K mg base 1 "has_name" (sp_hasn K) []) (G2 : C8.Met P w K mg base 2 C "number_of" (sp_lnum K C) []) : C8.Met P w K mg base 3 C "put" (sp_lput C) [] := by
  refine met_of D sc_lput (fun vs H Q E h => ?_) (fun f cdv A outer s H vs Q E hr h => ?_)
  · obtain ⟨x, a, L, u, rfl, _⟩ := h
    rfl
  · obtain ⟨x, a, L, u, rfl, hL0, hL, hu, k⟩ := h
    obtain ⟨dx, ar, as, hx, har, hw, hwl⟩ := LexAt.row hL0
    obtain ⟨r, t, hu1, hu2, hu3⟩ := id hu
    refine ⟨_, pss_cons (ps_setLc (i := 2) (own := [("other", 3)]) (g := gName 3) rfl sc_lput.nd rfl rfl (sw_true rfl rfl rfl (by decide +kernel)) (pi_list (pe_fld (pv 0) rfl)) (blkOk_by (own := [("other", 3)]) (N := ["self", "word", "others", "other"]) (sc := defScope s_lput) (by decide +kernel))
        (fun _ _ _ _ _ => pg_name (i := 3) sc_lput.nd rfl (.inl rfl)) (fun _ _ _ _ _ => pts_one (pt_not (pt_val (C8.pe_c G1 hr (by decide) rfl (pa_cons (pv 3) (pa_cons (pe_ix (ix_tupK (K := K) rfl) (pv 1) pe_int (fun _ _ => rfl)) (pa_cons (pe_ix (ix_tupK (K := K) rfl) (pv 1) pe_int (fun _ _ => rfl)) pa_nil)))))))
        (fun _ _ _ _ _ => pv 3))
      (pss_cons (ps_fld (pv 0) (pe_callB (cr_sortedW hr) (by rfl) T.sorted (by decide +kernel) (pa_cons (pe_op op_cat (pv 2) (pe_lst (pa_cons (pv 1) pa_nil))) pa_nil)) rfl)
      (pss_one (ps_ret (C8.pe_mt G2 hr (by decide) (pv 0) (pa_cons (pe_ix ix_tup (pv 1) pe_int (fun _ _ => rfl)) (pa_cons (pe_ix ix_tup (pv 1) pe_int (fun _ _ => rfl)) pa_nil)))))), ?_⟩
    walk_at "sx"
    refine lcW (fun q => !q.same u) (fun R q => w_fld rfl hx TL.cl TL.nR q) (SqL.of har) hw (by omega) (fun _ => rfl) (fun _ => rfl) ?_ ?_
    · intro b v H' sm hb R q
      show (tNot (tB _)) [some (V.ref x), some (V.ref a), none, some (V.ref b)] H' R
      walk_at "sx"
      refine ⟨_, SqT.of (sm _ _ hu1), _, atI_nat (j := 0) rfl, _, SqT.of (sm _ _ hu1), _, atI_nat (j := 2) rfl, b, v, _, _, u.reading, u.text, rfl, hb, ⟨r, rfl, .inr (SqT.of (sm _ _ hu2))⟩, ⟨t, rfl, .inr (SqT.of (sm _ _ hu3))⟩, fun H2 s2 => ?_⟩
      exact ⟨_, rfl, q H2 s2⟩
    · intro o bs H' sm ho hob hbw
      unfold sFld
      walk_at "sx"
      refine ⟨by decide, fun p1 hp1 => ?_⟩
      have s1 := Same.new (o := .lst [V.ref a]) hp1
      refine ⟨_, s1 _ _ hob, _, upd_same, ?_, fun p2 hp2 => ?_⟩
      · have h1 := WordsAt.len hbw
        have h2 := List.length_filter_le (fun q => !q.same u) L
        rw [List.length_map]
        exact szl (by simp only [List.length_cons, List.length_nil]; omega)
      have s2 := Same.new (o := .lst (bs.map V.ref ++ [.ref a])) hp2
      have s02 := Same.trans sm (Same.trans s1 s2)
      have hba : WordsAt _ (bs ++ [a]) ((L.filter fun q => !q.same u) ++ [u]) := Paired.snoc (WordsAt.same (Same.trans s1 s2) hbw) (WordAt.same s02 hu)
      refine ⟨p2, bs ++ [a], _, rfl, SqL.of (by rw [upd_same, List.map_append]; rfl), hba, fun p3 cs hp3 hcs => ?_⟩
      have s3 := Same.new (o := .lst (cs.map V.ref)) hp3
      have s03 := Same.trans s02 s3
      refine ⟨C, dx, _, s03 _ _ hx, TL.cl, TL.nR, by show 1 < 1000; decide, ?_⟩
      have hLA : LexAt C (upd (upd _ p3 (.lst (cs.map V.ref))) x (.ins C dx (putF "rows" (V.ref p3) [("rows", V.ref ar)]))) x (Lx.putL L u) := LexAt.stored (s03 _ _ hx) upd_same (WordsAt.same s3 hcs)
      have hKp : Keep x H (upd (upd _ p3 (.lst (cs.map V.ref))) x (.ins C dx (putF "rows" (V.ref p3) [("rows", V.ref ar)]))) := Keep.stored s03 (Same.free s02 hp3)
      have hxt : ∀ (b : Addr) (ys : List V), H b = some (.tup ys) → b ≠ x := fun b ys hb z => by rw [z, hx] at hb; cases hb
      have hk1 := hKp.1 _ _ hu1 (hxt _ _ hu1)
      have hk2 := hKp.1 _ _ hu2 (hxt _ _ hu2)
      have hk3 := hKp.1 _ _ hu3 (hxt _ _ hu3)
      generalize hG : upd (upd _ p3 (.lst (cs.map V.ref))) x (.ins C dx (putF "rows" (V.ref p3) [("rows", V.ref ar)])) = H4 at hLA hKp hk1 hk2 hk3
      have hx4 : H4 x = some (.ins C dx [("rows", .ref p3)]) := by rw [← hG]; exact upd_same
      refine w_met rfl hx4 (by decide +kernel) ?_
      walk_at "sx"
      have hpl : (Lx.putL L u).length ≤ 1000 := by
        unfold Lx.putL
        have h2 := List.length_filter_le (fun q => !q.same u) L
        rw [List.length_mergeSort, List.length_append, List.length_singleton]
        omega
      refine ⟨_, SqT.of hk1, _, atI_nat (j := 0) rfl, _, SqT.of hk1, _, atI_nat (j := 2) rfl, x, Lx.putL L u, _, _, u.reading, u.text, rfl, hLA, hpl, ⟨r, rfl, .inr (SqT.of hk2)⟩, ⟨t, rfl, .inr (SqT.of hk3)⟩, fun H5 s5 => ?_⟩
      refine k H5 (LexAt.same s5 hLA) ⟨fun b o hb hn => s5 _ _ (hKp.1 b o hb hn), fun C' dx' r h => hKp.2 C' dx' r (hx4.trans ?_)⟩
      rw [← s5 _ _ hx4]
      exact h
/-! before -/
abbrev s_lbef : Stmt := inClass (top 28) 9
theorem sc_lbef : FnScope ["self", "row", "word"] ["self", "row"] (defScope s_lbef) := ⟨rfl, rfl, rfl, by decide +kernel, rfl, by decide +kernel, by decide +kernel⟩
def sp_lbef (K : PySem.W.Frag) (C : Addr) : Sp := fun vs H Q _ => ∃ (x b : Addr) (L : List Sy.Word) (l : List Nat), vs = [.ref x, .ref b] ∧ LexAt C H x L ∧ L.length ≤ 1000 ∧ SqL K H b (vN l) ∧ ∀ H', Same H H' → Q (.int (Sy.firstOf L l : Nat)) H'
theorem ok_lbef (D : MetAt K C "before" "Lexicon.before" s_lbef ["self", "row"]) (T : Txt mg) (TL : TxL K C) (G : C8.Cal P w K mg base 1 "reading_of" sp_rof []) : C8.Met P w K mg base 2 C "before" (sp_lbef K C) [] := by
  refine met_of D sc_lbef (fun vs H Q E h => ?_) (fun f cdv A outer s H vs Q E hr h => ?_)
  · obtain ⟨x, b, L, l, rfl, _⟩ := h
    rfl
  · obtain ⟨x, b, L, l, rfl, hL0, hL, hb, k⟩ := h
    obtain ⟨dx, ar, as, hx, har, hw, hwl⟩ := LexAt.row hL0
    refine ⟨_, pss_one (ps_ret (pe_callB call_len_seq (by rfl) T.len PySem.boot_len (pa_cons (pe_lc (own := [("word", 2)]) (g := gName 2) rfl sc_lbef.nd (pi_list (pe_fld (pv 0) rfl)) (blkOk_by (own := [("word", 2)]) (N := ["self", "row", "word"]) (sc := defScope s_lbef) (by decide +kernel))
        (fun _ _ _ _ _ => pg_name (i := 2) sc_lbef.nd rfl (.inl rfl)) (fun _ _ _ _ _ => pts_one (pt_cmpR (op_ltTK (K := K) rfl hr.units0) (C8.pe_c G hr (by decide) rfl (pa_cons (pv 2) pa_nil)) (pe_tupK (K := K) rfl (pv 1) rfl T.tuple rfl) (nomark _)))
        (fun _ _ _ _ _ => pv 2)) pa_nil))), ?_⟩
    walk_at "sx"
    refine lcW (fun q => Sy.before q.reading l) (fun R q => w_fld rfl hx TL.cl TL.nR q) (SqL.of har) hw (by omega) (fun _ => rfl) (fun _ => rfl) ?_ ?_
    · intro c v H' sm hc R q
      obtain ⟨r, t, hc1, hc2, hc3⟩ := id hc
      show (tTest (tOp (rLtT K) (tCall sp_rof [] _ (tCons (tVar 2) tNil)) (tThen (tVar 1) (kTup K)))) [some (V.ref x), some (V.ref b), some (V.ref c)] H' R
      refine ⟨_, rfl, c, v, rfl, hc, fun r' hr' => ⟨_, rfl, kTup_row ⟨b, rfl, .inl (Same.seq sm hb)⟩ fun p H2 s2 hp => rLtT_N (SqT.of (s2 _ _ hr')) hp ⟨_, rfl, q H2 s2⟩⟩⟩
    · intro o bs H' sm ho hob hbw
      walk_at "sx"
      refine ⟨_, .inl (SqL.of hob), ?_⟩
      rw [List.length_map, WordsAt.len hbw]
      exact k H' sm
/-! found -/
abbrev s_lfound : Stmt := inClass (top 28) 10
theorem sc_lfound : FnScope ["self", "row", "many", "word"] ["self", "row"] (defScope s_lfound) := ⟨rfl, rfl, rfl, by decide +kernel, rfl, by decide +kernel, by decide +kernel⟩
def sp_lfound (K : PySem.W.Frag) (C : Addr) : Sp := fun vs H Q _ => ∃ (x b : Addr) (L : List Sy.Word) (l : List Nat), vs = [.ref x, .ref b] ∧ LexAt C H x L ∧ L.length ≤ 1000 ∧ SqL K H b (vN l) ∧ RNew (vN [Sy.manyOf L l, Sy.firstOf L l]) H Q
theorem ok_lfound (D : MetAt K C "found" "Lexicon.found" s_lfound ["self", "row"]) (T : Txt mg) (TL : TxL K C) (G : C8.Cal P w K mg base 1 "reading_of" sp_rof []) (G2 : C8.Met P w K mg base 2 C "before" (sp_lbef K C) []) : C8.Met P w K mg base 3 C "found" (sp_lfound K C) [] := by
  refine met_of D sc_lfound (fun vs H Q E h => ?_) (fun f cdv A outer s H vs Q E hr h => ?_)
  · obtain ⟨x, b, L, l, rfl, _⟩ := h
    rfl
  · obtain ⟨x, b, L, l, rfl, hL0, hL, hb, k⟩ := h
    obtain ⟨dx, ar, as, hx, har, hw, hwl⟩ := LexAt.row hL0
    refine ⟨_, pss_cons (ps_set (i := 2) sc_lfound.nd rfl (.inl rfl) (pe_callB call_len_seq (by rfl) T.len PySem.boot_len (pa_cons (pe_lc (own := [("word", 3)]) (g := gName 3) rfl sc_lfound.nd (pi_list (pe_fld (pv 0) rfl)) (blkOk_by (own := [("word", 3)]) (N := ["self", "row", "many", "word"]) (sc := defScope s_lfound) (by decide +kernel))
        (fun _ _ _ _ _ => pg_name (i := 3) sc_lfound.nd rfl (.inl rfl)) (fun _ _ _ _ _ => pts_one (pt_cmpR (op_eqDK (K := K) rfl hr.units) (C8.pe_c G hr (by decide) rfl (pa_cons (pv 3) pa_nil)) (pe_tupK (K := K) rfl (pv 1) rfl T.tuple rfl) (nomark _)))
        (fun _ _ _ _ _ => pv 3)) pa_nil)))
      (pss_one (ps_ret (pe_lst (pa_cons (pv 2) (pa_cons (C8.pe_mt G2 hr (by decide) (pv 0) (pa_cons (pv 1) pa_nil)) pa_nil))))), ?_⟩
    walk_at "sx"
    refine lcW (fun q => q.reading == l) (fun R q => w_fld rfl hx TL.cl TL.nR q) (SqL.of har) hw (by omega) (fun _ => rfl) (fun _ => rfl) ?_ ?_
    · intro c v H' sm hc R q
      show (tTest (tOp (rEqD K) (tCall sp_rof [] _ (tCons (tVar 3) tNil)) (tThen (tVar 1) (kTup K)))) [some (V.ref x), some (V.ref b), none, some (V.ref c)] H' R
      refine ⟨_, rfl, c, v, rfl, hc, fun r' hr' => ⟨_, rfl, kTup_row ⟨b, rfl, .inl (Same.seq sm hb)⟩ fun p H2 s2 hp => rEqD_T (SqT.of (s2 _ _ hr')) hp ⟨_, rfl, ?_⟩⟩⟩
      have e := q H2 s2
      rw [Bool.beq_eq_decide_eq] at e
      exact e
    · intro o bs H' sm ho hob hbw
      walk_at "sx"
      refine ⟨_, .inl (SqL.of hob), ?_⟩
      refine w_met rfl (sm _ _ hx) (by decide +kernel) ?_
      walk_at "sx"
      refine ⟨x, b, L, l, rfl, LexAt.same sm hL0, hL, Same.seq sm hb, fun H2 s2 => ⟨by decide, fun p hp => ?_⟩⟩
      rw [List.length_map, WordsAt.len hbw]
      have s02 := Same.trans sm s2
      exact k p _ (Same.free s02 hp) (Same.trans s02 (Same.new hp)) upd_same
/-! onward -/
abbrev s_lon : Stmt := inClass (top 28) 12
theorem sc_lon : FnScope ["self", "row", "word"] ["self", "row"] (defScope s_lon) := ⟨rfl, rfl, rfl, by decide +kernel, rfl, by decide +kernel, by decide +kernel⟩
def sp_lon (K : PySem.W.Frag) (C : Addr) : Sp := fun vs H Q _ => ∃ (x b : Addr) (L : List Sy.Word) (l : List Nat), vs = [.ref x, .ref b] ∧ LexAt C H x L ∧ L.length ≤ 1000 ∧ SqL K H b (vN l) ∧
  ∀ p bs H', Same H H' → H p = none → H' p = some (.lst (bs.map V.ref)) → WordsAt H' bs (L.filter fun q => l.isPrefixOf q.reading) → Q (.ref p) H'
theorem ok_lon (D : MetAt K C "onward" "Lexicon.onward" s_lon ["self", "row"]) (T : Txt mg) (TL : TxL K C) (G : C8.Cal P w K mg base 1 "reading_of" sp_rof []) (G2 : C8.Cal P w K mg base 1 "begins" (sp_beg K) []) : C8.Met P w K mg base 2 C "onward" (sp_lon K C) [] := by
  refine met_of D sc_lon (fun vs H Q E h => ?_) (fun f cdv A outer s H vs Q E hr h => ?_)
  · obtain ⟨x, b, L, l, rfl, _⟩ := h
    rfl
  · obtain ⟨x, b, L, l, rfl, hL0, hL, hb, k⟩ := h
    obtain ⟨dx, ar, as, hx, har, hw, hwl⟩ := LexAt.row hL0
    refine ⟨_, pss_one (ps_ret (pe_lc (own := [("word", 2)]) (g := gName 2) rfl sc_lon.nd (pi_list (pe_fld (pv 0) rfl)) (blkOk_by (own := [("word", 2)]) (N := ["self", "row", "word"]) (sc := defScope s_lon) (by decide +kernel))
        (fun _ _ _ _ _ => pg_name (i := 2) sc_lon.nd rfl (.inl rfl)) (fun _ _ _ _ _ => pts_one (pt_val (C8.pe_c G2 hr (by decide) rfl (pa_cons (pv 1) (pa_cons (C8.pe_c G hr (by decide) rfl (pa_cons (pv 2) pa_nil)) pa_nil)))))
        (fun _ _ _ _ _ => pv 2))), ?_⟩
    walk_at "sx"
    refine lcW (fun q => l.isPrefixOf q.reading) (fun R q => w_fld rfl hx TL.cl TL.nR q) (SqL.of har) hw (by omega) (fun _ => rfl) (fun _ => rfl) ?_ ?_
    · intro c v H' sm hc R q
      show (tB (tCall (sp_beg K) [] _ (tCons (tVar 1) (tCons (tCall sp_rof [] _ (tCons (tVar 2) tNil)) tNil)))) [some (V.ref x), some (V.ref b), some (V.ref c)] H' R
      refine ⟨_, rfl, _, rfl, c, v, rfl, hc, fun r' hr' => ⟨b, r', l, v.reading, rfl, Same.seq sm hb, SqT.of hr', fun H2 s2 => ⟨_, rfl, q H2 s2⟩⟩⟩
    · intro o bs H' sm ho hob hbw
      exact k o bs H' sm ho hob hbw
/-! likely -/
abbrev s_llik : Stmt := inClass (top 28) 13
theorem sc_llik : FnScope ["self", "place", "row", "ranked"] ["self", "place", "row"] (defScope s_llik) := ⟨rfl, rfl, rfl, by decide +kernel, rfl, by decide +kernel, by decide +kernel⟩
def sp_llik (K : PySem.W.Frag) (C : Addr) : Sp := fun vs H Q _ => ∃ (x b : Addr) (L : List Sy.Word) (l : List Nat) (i : Nat), vs = [.ref x, .int (i : Int), .ref b] ∧ LexAt C H x L ∧ L.length ≤ 1000 ∧ SqL K H b (vN l) ∧
  ∀ H', Same H H' → Q (.int (idxZ ((Lx.rank L l)[i]?.bind fun u => Sy.numberOfWord L u.reading u.text))) H'
theorem ok_llik (D : MetAt K C "likely" "Lexicon.likely" s_llik ["self", "place", "row"]) (T : Txt mg) (TL : TxL K C) (G1 : ∃ (f : Addr) (fd : FuncData), FnOk P w K mg base CX0 1 f fd ["word"] sp_byc ∧ mg "by_cost" = some (.ref f) ∧ Binds K fd ["word"] [])
    (G2 : C8.Met P w K mg base 2 C "onward" (sp_lon K C) []) (G3 : C8.Met P w K mg base 2 C "number_of" (sp_lnum K C) []) : C8.Met P w K mg base 4 C "likely" (sp_llik K C) [] := by
  obtain ⟨fk, fdk, Fk, mk, bk⟩ := G1
  refine met_of D sc_llik (fun vs H Q E h => ?_) (fun f cdv A outer s H vs Q E hr h => ?_)
  · obtain ⟨x, b, L, l, i, rfl, _⟩ := h
    rfl
  · obtain ⟨x, b, L, l, i, rfl, hL0, hL, hb, k⟩ := h
    obtain ⟨dx, ar, as, hx, har, hw, hwl⟩ := LexAt.row hL0
    refine ⟨_, pss_cons (ps_set (i := 3) sc_llik.nd rfl (.inl rfl) (pe_callBK (cr_sortedK Fk bk hr) (by rfl) T.sorted (by decide +kernel) (pa_cons (C8.pe_mt G2 hr (by decide) (pv 0) (pa_cons (pv 2) pa_nil)) pa_nil) (pk_cons (pe_glob (v := .ref fk) rfl mk rfl) pk_nil)))
      (pss_cons (ps_if (pt_cmpR op_ge (pv 1) (pe_callB call_len_seq (by rfl) T.len PySem.boot_len (pa_cons (pv 3) pa_nil)) (nomark _)) (pss_one (ps_ret (pe_un un_neg pe_int))) pss_nil)
      (pss_one (ps_ret (C8.pe_mt G3 hr (by decide) (pv 0) (pa_cons (pe_ix ix_tup (pe_ix ix_list (pv 3) (pv 1) (fun _ _ => rfl)) pe_int (fun _ _ => rfl)) (pa_cons (pe_ix ix_tup (pe_ix ix_list (pv 3) (pv 1) (fun _ _ => rfl)) pe_int (fun _ _ => rfl)) pa_nil)))))), ?_⟩
    unfold tCKw
    walk_at "sx"
    refine w_met rfl hx (by decide +kernel) ?_
    walk_at "sx"
    refine ⟨x, b, L, l, rfl, hL0, hL, hb, fun p bs H1 s1 hp hp1 hbw => ⟨p, bs, _, rfl, rfl, SqL.of hp1, hbw, fun q cs H2 s2 hq hcw hq2 => ?_⟩⟩
    have s02 := Same.trans s1 s2
    have hcl := WordsAt.len hcw
    walk_at "sx"
    refine ⟨_, .inl (SqL.of hq2), fun g => ?_, fun g => ?_⟩
    · rw [List.length_map] at g
      have e := k H2 s02
      have e2 : (Lx.rank L l)[i]? = none := List.getElem?_eq_none (by unfold Lx.rank; omega)
      rw [e2] at e
      exact e
    · rw [List.length_map] at g
      obtain ⟨c, u, hc, hu, hcu⟩ := WordsAt.at (i := i) hcw (by omega)
      obtain ⟨r, t, hu1, hu2, hu3⟩ := id hcu
      have hat : atI (cs.map V.ref) (i : Int) = some (V.ref c) := atI_nat (by rw [List.getElem?_map, hc]; rfl)
      refine w_met rfl (s02 _ _ hx) (by decide +kernel) ?_
      walk_at "sx"
      refine ⟨_, SqL.of hq2, _, hat, c, rfl, _, SqT.of hu1, _, atI_nat (j := 0) rfl, _, SqL.of hq2, _, hat, c, rfl, _, SqT.of hu1, _, atI_nat (j := 2) rfl, x, L, _, _, u.reading, u.text, rfl, LexAt.same s02 hL0, hL, ⟨r, rfl, .inr (SqT.of hu2)⟩, ⟨t, rfl, .inr (SqT.of hu3)⟩, fun H3 s3 => ?_⟩
      have e := k H3 (Same.trans s02 s3)
      have e2 : (Lx.rank L l)[i]? = some u := hu
      rw [e2] at e
      exact e
/-- a loop over the numbers from 1 on -/
theorem sforR1 {tb : TS} {D : Ends} {σ : L2.St} {H : Hp} {j : Nat} {ta : TA} {n : Nat} (he : ∀ R : List V → Hp → Prop, R [.int 1, .int ((n : Int) + 1)] H → ta σ H R) (hn : n ≤ 100000000) (Pv : Nat → L2.St → Hp → Prop) (h0 : Pv 0 σ H)
    (hs : ∀ i σ H, i < n → Pv i σ H → tb { D with nx := Pv (i + 1), ct := Pv (i + 1), bk := D.nx } (σ.set j (some (V.int ((i + 1 : Nat) : Int)))) H) (hd : ∀ σ H, Pv n σ H → D.nx σ H) : tFor (iRng2 ta) (gName j) tb D σ H := by
  refine he _ ⟨1, (n : Int) + 1, rfl, ⟨by omega, by omega, by omega, by omega⟩, ?_⟩
  rw [show ((n : Int) + 1 - 1).toNat = n by omega]
  exact for_range (lo := 1) (n := n) Pv h0 (fun i σ H hi p => by
    have := hs i σ H hi p
    rw [show (1 : Int) + (i : Int) = ((i + 1 : Nat) : Int) by omega]
    exact this) hd
/-! lengths -/
abbrev s_llen : Stmt := inClass (top 28) 11
theorem sc_llen : FnScope ["self", "row", "told", "long", "many", "first"] ["self", "row"] (defScope s_llen) := ⟨rfl, rfl, rfl, by decide +kernel, rfl, by decide +kernel, by decide +kernel⟩
/-- a list of lists of numbers -/
def RowsAt (H : Hp) (qs : List Addr) (nss : List (List Nat)) : Prop := Paired (fun q ns => H q = some (.lst (vN ns))) qs nss
theorem RowsAt.same {H H' : Hp} (e : Same H H') {qs : List Addr} {nss : List (List Nat)} (h : RowsAt H qs nss) : RowsAt H' qs nss := Paired.mapP h fun _ _ z => e _ _ z
/-- .. where another list is written -/
theorem RowsAt.other {H : Hp} {p : Addr} {o : HO} : ∀ {qs : List Addr} {nss : List (List Nat)}, p ∉ qs → RowsAt H qs nss → RowsAt (upd H p o) qs nss
  | _, _, _, .nil => .nil
  | q :: qs, _, h, .cons e t => .cons (by rw [upd_ne (fun z => h (by rw [z]; simp))]; exact e) (RowsAt.other (fun z => h (List.mem_cons_of_mem _ z)) t)
def sp_llen (K : PySem.W.Frag) (C : Addr) : Sp := fun vs H Q _ => ∃ (x b : Addr) (L : List Sy.Word) (l : List Nat), vs = [.ref x, .ref b] ∧ LexAt C H x L ∧ L.length ≤ 1000 ∧ SqL K H b (vN l) ∧ l.length ≤ 1000 ∧
  ∀ p qs H', Same H H' → H p = none → H' p = some (.lst (qs.map V.ref)) → RowsAt H' qs (Sy.beginsHere L l) → Q (.ref p) H'
/-- those up to a length -/
def upTo (L : List Sy.Word) (l : List Nat) (i : Nat) : List (List Nat) := ((List.range (i + 1)).filter fun j => decide (0 < j) && decide (0 < Sy.manyOf L (l.take j))).map fun j => [j, Sy.firstOf L (l.take j), Sy.manyOf L (l.take j)]
theorem upTo_more (L : List Sy.Word) (l : List Nat) (i : Nat) : upTo L l (i + 1) = upTo L l i ++ (if 0 < Sy.manyOf L (l.take (i + 1)) then [[i + 1, Sy.firstOf L (l.take (i + 1)), Sy.manyOf L (l.take (i + 1))]] else []) := by
  unfold upTo
  rw [List.range_succ (n := i + 1), List.filter_append, List.map_append]
  congr 1
  by_cases h : 0 < Sy.manyOf L (l.take (i + 1))
  · rw [if_pos h]
    simp [h]
  · rw [if_neg h]
    simp [h]
theorem ok_llen (D : MetAt K C "lengths" "Lexicon.lengths" s_llen ["self", "row"]) (T : Txt mg) (TL : TxL K C) (G : C8.Met P w K mg base 3 C "found" (sp_lfound K C) []) : C8.Met P w K mg base 4 C "lengths" (sp_llen K C) [] := by
  refine met_of D sc_llen (fun vs H Q E h => ?_) (fun f cdv A outer s H vs Q E hr h => ?_)
  · obtain ⟨x, b, L, l, rfl, _⟩ := h
    rfl
  · obtain ⟨x, b, L, l, rfl, hL0, hL, hb, hl, k⟩ := h
    obtain ⟨dx, ar, as, hx, har, hw, hwl⟩ := LexAt.row hL0
    refine ⟨_, pss_cons (ps_set (i := 2) sc_llen.nd rfl (.inl rfl) (pe_lst pa_nil))
      (pss_cons (ps_for PassesOwn.never rfl (pi_range2 rfl T.range (pa_cons pe_int (pa_cons (pe_op op_add (pe_callB call_len_seq (by rfl) T.len PySem.boot_len (pa_cons (pv 1) pa_nil)) pe_int) pa_nil))) (pg_name (i := 3) sc_llen.nd rfl (.inl rfl))
        (pss_cons (ps_asg (C8.pe_mt G hr (by decide) (pv 0) (pa_cons (pe_slice sl_list (pv 1) po_none (po_some (pv 3))) pa_nil)) (pg_unl (n := 2) rfl (pgs_cons (pg_name (i := 4) sc_llen.nd rfl (.inl rfl)) (pgs_cons (pg_name (i := 5) sc_llen.nd rfl (.inl rfl)) pgs_nil))))
        (pss_one (ps_if (pt_cmpR op_gt (pv 4) pe_int (nomark _)) (pss_one (ps_expr (pe_bm PySem.F.plainAttrs_list PySem.F.slot_list_append PySem.F.type_list_append mt_append (pv 2) (pa_cons (pe_lst (pa_cons (pv 3) (pa_cons (pv 5) (pa_cons (pv 4) pa_nil)))) pa_nil)))) pss_nil))))
      (pss_one (ps_ret (pv 2)))), ?_⟩
    walk_at "sx"
    refine ⟨Nat.zero_le _, fun p hp => ?_⟩
    refine sforR1 (n := l.length) (fun R q => ?_) (by omega) (fun i σ H' => ∃ (u v z : Option V) (qs : List Addr), σ = [some (.ref x), some (.ref b), some (.ref p), u, v, z] ∧ Same H H' ∧ H' p = some (.lst (qs.map V.ref)) ∧ RowsAt H' qs (upTo L l i) ∧ qs.length ≤ i ∧ p ∉ qs)
      ⟨_, _, _, [], rfl, Same.new hp, upd_same, .nil, Nat.le_refl _, by simp⟩ ?_ ?_
    · walk_at "sx"
      refine ⟨_, .inl (Same.seq (Same.new hp) hb), ?_⟩
      rw [vN_len]
      exact q
    · rintro i σ H' hi ⟨u, v, z, qs, rfl, sm, hp1, hqs, hql, hpq⟩
      walk_at "sx"
      refine w_met rfl (sm _ _ hx) (by decide +kernel) ?_
      walk_at "sx"
      refine ⟨_, Same.seq sm hb, fun q hq => ?_⟩
      rw [cut_to]
      have s2 := Same.new (o := .lst (vN (l.take (i + 1)))) hq
      have s02 := Same.trans sm s2
      refine ⟨x, q, L, l.take (i + 1), rfl, LexAt.same s02 hL0, hL, SqL.of upd_same, fun q2 H2 hq2 s3 hn2 => ?_⟩
      have s03 := Same.trans s02 s3
      have s23 := Same.trans s2 s3
      refine ⟨q2, rfl, _, SqL.of hn2, rfl, _, _, rfl, _, _, rfl, rfl, ?_⟩
      walk_at "sx"
      have hmore := upTo_more L l i
      refine ⟨fun g => ⟨ty_list (s23 _ _ hp1), by decide, fun q3 hq3 => ?_⟩, fun g => ?_⟩
      · have s4 := Same.new (o := .lst [.int ((i + 1 : Nat) : Int), .int (Sy.firstOf L (l.take (i + 1)) : Nat), .int (Sy.manyOf L (l.take (i + 1)) : Nat)]) hq3
        have hpq3 : p ≠ q3 := ne_of_none (s23 _ _ hp1) hq3
        rw [if_pos (by omega)] at hmore
        refine ⟨_, by rw [upd_ne hpq3]; exact s23 _ _ hp1, by rw [List.length_map]; exact szt (by omega), Same.mut (Same.trans s03 s4) hp, qs ++ [q3], by rw [upd_same, List.map_append]; rfl, ?_, by rw [List.length_append, List.length_singleton]; omega, ?_⟩
        · rw [hmore]
          refine Paired.snoc (RowsAt.other hpq (RowsAt.same (Same.trans s23 s4) hqs)) ?_
          rw [upd_ne (Ne.symm hpq3), upd_same]
          rfl
        · rw [List.mem_append, List.mem_singleton]
          rintro (z | z)
          · exact hpq z
          · exact hpq3 z
      · rw [if_neg (by omega), List.append_nil] at hmore
        exact ⟨s03, qs, s23 _ _ hp1, by rw [hmore]; exact RowsAt.same s23 hqs, by omega, hpq⟩
    · rintro σ H' ⟨u, v, z, qs, rfl, sm, hp1, hqs, hql, hpq⟩
      walk_at "sx"
      exact k p qs H' sm hp hp1 hqs
end
end Sx
/-! ## W8 -/
namespace Lx
open Sy
/-- a row parted at each of a sign -/
def parN (s : Nat) : List Nat → List (List Nat)
  | [] => [[]]
  | c :: r => if c = s then [] :: parN s r else match parN s r with
    | p :: ps => (c :: p) :: ps
    | [] => [[c]]
theorem par_all {s : Nat} : ∀ {m : List Nat}, (∀ c ∈ m, c ≠ s) → parN s m = [m]
  | [], _ => rfl
  | c :: m, h => by
    unfold parN
    rw [if_neg (h c List.mem_cons_self), par_all fun d hd => h d (List.mem_cons_of_mem _ hd)]
theorem par_cut {s : Nat} {r : List Nat} : ∀ {m : List Nat}, (∀ c ∈ m, c ≠ s) → parN s (m ++ s :: r) = m :: parN s r
  | [], _ => by
    show (if s = s then [] :: parN s r else _) = _
    rw [if_pos rfl]
  | c :: m, h => by
    show (if c = s then [] :: parN s (m ++ s :: r) else match parN s (m ++ s :: r) with | p :: ps => (c :: p) :: ps | [] => [[c]]) = _
    rw [if_neg (h c List.mem_cons_self), par_cut fun d hd => h d (List.mem_cons_of_mem _ hd)]
theorem par_ne (s : Nat) (l : List Nat) : parN s l ≠ [] := by
  cases l with
  | nil => exact List.cons_ne_nil _ _
  | cons c r =>
    unfold parN
    split
    · exact List.cons_ne_nil _ _
    · split <;> exact List.cons_ne_nil _ _
theorem par_len (s : Nat) : ∀ l : List Nat, (parN s l).length ≤ l.length + 1
  | [] => Nat.le_refl _
  | c :: r => by
    have ih := par_len s r
    unfold parN
    split
    · rw [List.length_cons, List.length_cons]
      omega
    · split
      · rename_i p ps e
        rw [e, List.length_cons] at ih
        rw [List.length_cons, List.length_cons]
        omega
      · rw [List.length_cons, List.length_cons, List.length_nil]
        omega
/-- what parted has found ahead of a place, and where its next part begins -/
structure Par (s : Nat) (l : List Nat) (i b : Nat) (fs : List (List Nat)) : Prop where
  le : b ≤ i
  no : ∀ c ∈ (l.take i).drop b, c ≠ s
  eq : parN s l = fs ++ parN s (l.drop b)
theorem Par.start (s : Nat) (l : List Nat) : Par s l 0 0 [] := ⟨Nat.le_refl _, by simp, by simp⟩
theorem Par.skip {s i b c : Nat} {l : List Nat} {fs : List (List Nat)} (h : Par s l i b fs) (hi : l[i]? = some c) (hc : c ≠ s) : Par s l (i + 1) b fs := by
  refine ⟨Nat.le_succ_of_le h.le, fun d hd => ?_, h.eq⟩
  rw [Sx.take_more hi, List.drop_append_of_le_length (by rw [List.length_take]; have := (List.getElem?_eq_some_iff.mp hi).1; have := h.le; omega)] at hd
  rcases List.mem_append.mp hd with hd | hd
  · exact h.no d hd
  · rw [List.mem_singleton.mp hd]
    exact hc
theorem Par.hit {s i b : Nat} {l : List Nat} {fs : List (List Nat)} (h : Par s l i b fs) (hi : l[i]? = some s) : Par s l (i + 1) (i + 1) (fs ++ [(l.take i).drop b]) := by
  refine ⟨Nat.le_refl _, fun d hd => ?_, ?_⟩
  · rw [List.drop_eq_nil_of_le (by rw [List.length_take]; omega)] at hd
    cases hd
  · have hlt := (List.getElem?_eq_some_iff.mp hi).1
    have e : l.drop b = (l.take i).drop b ++ s :: l.drop (i + 1) := by
      conv => lhs; rw [← List.take_append_drop i l]
      rw [List.drop_append_of_le_length (by rw [List.length_take]; have := h.le; omega), drop_at hi]
    rw [h.eq, e, par_cut h.no, List.append_assoc]
    rfl
theorem Par.done {s b : Nat} {l : List Nat} {fs : List (List Nat)} (h : Par s l l.length b fs) : parN s l = fs ++ [l.drop b] := by
  rw [h.eq, par_all]
  intro c hc
  have := h.no c
  rw [List.take_length] at this
  exact this hc
theorem Par.len {s i b : Nat} {l : List Nat} {fs : List (List Nat)} (h : Par s l i b fs) : fs.length ≤ l.length := by
  have h1 := par_len s l
  rw [h.eq, List.length_append] at h1
  have h2 : 1 ≤ (parN s (l.drop b)).length := List.length_pos_iff.mpr (par_ne s _)
  omega
/-! ### numbers -/
def numOk (l : List Nat) : Bool := !l.isEmpty && (decide (l.length ≤ 1) || l.head? != some 48) && l.all fun c => decide (48 ≤ c) && decide (c ≤ 57)
def clampN (l : List Nat) : Nat := l.foldl (fun n c => min (10 * n + (c - 48)) 1000000) 0
theorem clamp_more {l : List Nat} {i c : Nat} (h : l[i]? = some c) : clampN (l.take (i + 1)) = min (10 * clampN (l.take i) + (c - 48)) 1000000 := by
  unfold clampN
  rw [Sx.take_more h, List.foldl_append]
  rfl
theorem num_digits {l : List Nat} (h : numOk l = true) : ∀ c ∈ l, 48 ≤ c := by
  unfold numOk at h
  rw [Bool.and_eq_true] at h
  intro c hc
  have := List.all_eq_true.mp h.2 c hc
  rw [Bool.and_eq_true, decide_eq_true_eq] at this
  exact this.1
def decN (n : Nat) : List Nat := if h : n < 10 then [48 + n] else decN (n / 10) ++ [48 + n % 10]
termination_by n
decreasing_by omega
def decH (n : Nat) : List Nat := if n < 10 then [] else decN (n / 10)
theorem dec_eq (n : Nat) : decN n = decH n ++ [48 + n % 10] := by
  unfold decH
  by_cases h : n < 10
  · rw [decN, dif_pos h, if_pos h, Nat.mod_eq_of_lt h]
    rfl
  · rw [decN, dif_neg h, if_neg h]
theorem dec_len : ∀ (k n : Nat), n < 10 ^ (k + 1) → (decN n).length ≤ k + 1
  | 0, n, h => by
    rw [decN, dif_pos (by simpa using h)]
    exact Nat.le_refl _
  | k + 1, n, h => by
    by_cases hn : n < 10
    · rw [decN, dif_pos hn]
      simp
    · rw [decN, dif_neg hn, List.length_append, List.length_singleton]
      have := dec_len k (n / 10) (by rw [Nat.div_lt_iff_lt_mul (by decide)]; rw [Nat.pow_succ] at h; exact h)
      omega
def lineN (w : Word) : List Nat := cbs w.reading ++ [32] ++ cbs w.text ++ (([w.left, w.right, w.cost].flatMap fun n => 32 :: decN n) ++ [10])
def partsOk : List (List Nat) → Bool
  | [r, t, x, y, c] => !r.isEmpty && (!t.isEmpty && (r.all isSign && (t.all isSign && (numOk x && (numOk y && numOk c)))))
  | _ => false
def partsN (l : List Nat) : Option (List (List Nat)) := (chN l).bind fun cs => if partsOk (parN 32 cs) = true then some (parN 32 cs) else none
end Lx
namespace Sx
open PySem PySem.Spec PyProof.Rows L2
/-- a loop over a new list of numbers -/
theorem sforNew {K : PySem.W.Frag} {tb : TS} {D : Ends} {σ : L2.St} {H : Hp} {j : Nat} {l : List Nat} {tl : TE} (he : ∀ R : VK, (∀ p, H p = none → R (.ref p) (upd H p (.lst (vN l)))) → tl σ H R)
    (h0 : ∀ p, H p = none → ∃ Pv : Nat → L2.St → Hp → Prop, Pv 0 σ (upd H p (.lst (vN l))) ∧ (∀ i σ H', i ≤ l.length → Pv i σ H' → H' p = some (.lst (vN l))) ∧
      (∀ (i n : Nat) σ H, l[i]? = some n → Pv i σ H → tb { D with nx := Pv (i + 1), ct := Pv (i + 1), bk := D.nx } (σ.set j (some (V.int (n : Int)))) H) ∧ (∀ σ H, Pv l.length σ H → D.nx σ H)) : tFor (iList K tl) (gName j) tb D σ H := by
  refine he _ fun p hp => ?_
  obtain ⟨Pv, h0, h3, h4, h5⟩ := h0 p hp
  refine ⟨p, rfl, ⟨_, SqL.of upd_same⟩, for_list (xs := vN l) Pv h0 (fun i σ H hi q => SqL.of (h3 i σ H (by rw [vN_len] at hi; exact hi) q)) (fun i x σ H hi q => ?_) (fun σ H q => h5 σ H (by rw [vN_len] at q; exact q))⟩
  obtain ⟨n, hn, rfl⟩ := vN_at hi
  exact h4 i n σ H hn q
/-- l == [] -/
theorem rEqD_nil {K : PySem.W.Frag} {H : Hp} {a b : Addr} {l : List Nat} {Q : VK} (h1 : SqL K H a (vN l)) (h2 : SqL K H b []) (q : Q (.bl l.isEmpty) H) : rEqD K (.ref a) (.ref b) H Q := by
  refine ⟨_, .list [], dpL h1, .lst h2 .nil, shapedL l, rfl, ?_⟩
  have e : PyData.eqv (.list (l.map fun (n : Nat) => PyData.int (n : Int))) (.list []) = l.isEmpty := by
    have := eqvL l []
    rw [List.map_nil] at this
    rw [this]
    cases l <;> simp
  rw [e]
  exact q
theorem RowsAt.get : ∀ {H : Hp} {qs : List Addr} {nss : List (List Nat)} {i : Nat}, RowsAt H qs nss → i < qs.length → ∃ q ns, qs[i]? = some q ∧ nss[i]? = some ns ∧ H q = some (.lst (vN ns))
  | _, _, _, _, .nil, h => absurd h (Nat.not_lt_zero _)
  | _, _, _, 0, .cons h _, _ => ⟨_, _, rfl, rfl, h⟩
  | _, _, _, i + 1, .cons _ t, h => by
    obtain ⟨a, w, h1, h2, h3⟩ := RowsAt.get (i := i) t (Nat.lt_of_succ_lt_succ h)
    exact ⟨a, w, h1, h2, h3⟩
theorem RowsAt.len {H : Hp} {qs : List Addr} {nss : List (List Nat)} (h : RowsAt H qs nss) : qs.length = nss.length := Paired.length h
theorem at_refs {qs : List Addr} {i : Nat} {q : Addr} (h : qs[i]? = some q) : atI (qs.map V.ref) (i : Int) = some (V.ref q) := atI_nat (by rw [List.getElem?_map, h]; rfl)
section
variable {P : Program} {w : World} {K : PySem.W.Frag} {mg : PySem.Str → Option Value} {base : Heap}
/-! parted -/
abbrev s_par : Stmt := top 34
theorem sc_par : FnScope ["row", "at_sign", "found", "begin", "at"] ["row", "at_sign"] (defScope s_par) := ⟨rfl, rfl, rfl, by decide +kernel, rfl, by decide +kernel, by decide +kernel⟩
def sp_par (K : PySem.W.Frag) : Sp := fun vs H Q _ => ∃ (a : Addr) (l : List Nat) (s : Nat), vs = [.ref a, .int (s : Int)] ∧ SqL K H a (vN l) ∧ l.length ≤ 100000 ∧ ∀ p qs H', Same H H' → H p = none → H' p = some (.lst (qs.map V.ref)) → RowsAt H' qs (Lx.parN s l) → Q (.ref p) H'
theorem ok_par (D : DefAt K mg "parted" s_par ["row", "at_sign"]) (T : Txt mg) : C8.Cal P w K mg base 1 "parted" (sp_par K) [] := by
  refine cal_of D sc_par (fun vs H Q E h => ?_) (fun f cdv A outer s H vs Q E hr h => ?_)
  · obtain ⟨a, l, s, rfl, _⟩ := h
    rfl
  · obtain ⟨a, l, s, rfl, hl, hz, k⟩ := h
    refine ⟨_, pss_cons (ps_set (i := 2) sc_par.nd rfl (.inl rfl) (pe_lst pa_nil)) (pss_cons (ps_set (i := 3) sc_par.nd rfl (.inl rfl) pe_int)
      (pss_cons (ps_for PassesOwn.never rfl (pi_range1 rfl T.range (pa_cons (pe_callB call_len_seq (by rfl) T.len PySem.boot_len (pa_cons (pv 0) pa_nil)) pa_nil)) (pg_name (i := 4) sc_par.nd rfl (.inl rfl))
        (pss_one (ps_if (pt_cmpR op_eq (pe_ix ix_list (pv 0) (pv 4) (fun _ _ => rfl)) (pv 1) (nomark _))
          (pss_cons (ps_expr (pe_bm PySem.F.plainAttrs_list PySem.F.slot_list_append PySem.F.type_list_append mt_append (pv 2) (pa_cons (pe_slice sl_list (pv 0) (po_some (pv 3)) (po_some (pv 4))) pa_nil)))
          (pss_one (ps_set (i := 3) sc_par.nd rfl (.inl rfl) (pe_op op_add (pv 4) pe_int)))) pss_nil)))
      (pss_cons (ps_expr (pe_bm PySem.F.plainAttrs_list PySem.F.slot_list_append PySem.F.type_list_append mt_append (pv 2) (pa_cons (pe_slice sl_list (pv 0) (po_some (pv 3)) po_none) pa_nil)))
      (pss_one (ps_ret (pv 2)))))), ?_⟩
    walk_at "sx"
    refine ⟨Nat.zero_le _, fun p hp => ?_⟩
    refine sforR (n := l.length) (fun R q => ?_) (by omega) (fun i σ H' => ∃ (b : Nat) (v : Option V) (qs : List Addr) (fs : List (List Nat)), σ = [some (.ref a), some (.int (s : Int)), some (.ref p), some (.int (b : Int)), v] ∧ Same H H' ∧ H' p = some (.lst (qs.map V.ref)) ∧ RowsAt H' qs fs ∧ p ∉ qs ∧ Lx.Par s l i b fs)
      ⟨0, none, [], [], rfl, Same.new hp, upd_same, .nil, by simp, Lx.Par.start s l⟩ ?_ ?_
    · walk_at "sx"
      refine ⟨_, .inl (Same.seq (Same.new hp) hl), ?_⟩
      rw [vN_len]
      exact q
    · rintro i σ H' hi ⟨b, v, qs, fs, rfl, sm, hp1, hqs, hpq, hpar⟩
      obtain ⟨c, hc⟩ : ∃ c, l[i]? = some c := ⟨_, List.getElem?_eq_getElem hi⟩
      have hlen := hpar.len
      walk_at "sx"
      refine ⟨_, Same.seq sm hl, _, atI_nat (vN_get hc), ?_⟩
      walk_at "sx"
      refine ⟨fun g => ?_, fun g => ?_⟩
      · have gs : c = s := by omega
        subst gs
        refine ⟨ty_list hp1, _, Same.seq sm hl, fun q hq => ?_⟩
        rw [cut_nat]
        have s2 := Same.new (o := .lst (vN ((l.take i).drop b))) hq
        have hpq2 : p ≠ q := ne_of_none hp1 hq
        refine ⟨_, s2 _ _ hp1, by rw [List.length_map, RowsAt.len hqs]; exact szt (by omega), i + 1, by omega, Same.mut (Same.trans sm s2) hp, qs ++ [q], by rw [upd_same, List.map_append]; rfl, fs ++ [(l.take i).drop b], ?_, ?_, hpar.hit hc⟩
        · refine Paired.snoc (RowsAt.other hpq (RowsAt.same s2 hqs)) ?_
          rw [upd_ne (Ne.symm hpq2), upd_same]
        · rw [List.mem_append, List.mem_singleton]
          rintro (z | z)
          · exact hpq z
          · exact hpq2 z
      · exact ⟨b, rfl, sm, qs, hp1, fs, hqs, hpq, hpar.skip hc (by omega)⟩
    · rintro σ H' ⟨b, v, qs, fs, rfl, sm, hp1, hqs, hpq, hpar⟩
      have hlen := hpar.len
      walk_at "sx"
      refine ⟨ty_list hp1, _, Same.seq sm hl, fun q hq => ?_⟩
      rw [cut_from]
      have s2 := Same.new (o := .lst (vN (l.drop b))) hq
      have hpq2 : p ≠ q := ne_of_none hp1 hq
      refine ⟨_, s2 _ _ hp1, by rw [List.length_map, RowsAt.len hqs]; exact szt (by omega), ?_⟩
      refine k p (qs ++ [q]) _ (Same.mut (Same.trans sm s2) hp) hp (by rw [upd_same, List.map_append]; rfl) ?_
      rw [hpar.done]
      refine Paired.snoc (RowsAt.other hpq (RowsAt.same s2 hqs)) ?_
      rw [upd_ne (Ne.symm hpq2), upd_same]
/-! is_number -/
abbrev s_isn : Stmt := top 35
theorem sc_isn : FnScope ["part", "sign"] ["part"] (defScope s_isn) := ⟨rfl, rfl, rfl, by decide +kernel, rfl, by decide +kernel, by decide +kernel⟩
def sp_isn (K : PySem.W.Frag) : Sp := fun vs H Q _ => ∃ (a : Addr) (l : List Nat), vs = [.ref a] ∧ SqL K H a (vN l) ∧ ∀ H', Same H H' → Q (.bl (Lx.numOk l)) H'
theorem ok_isn (D : DefAt K mg "is_number" s_isn ["part"]) (T : Txt mg) : C8.Cal P w K mg base 1 "is_number" (sp_isn K) [] := by
  refine cal_of D sc_isn (fun vs H Q E h => ?_) (fun f cdv A outer s H vs Q E hr h => ?_)
  · obtain ⟨a, l, rfl, _⟩ := h
    rfl
  · obtain ⟨a, l, rfl, hl, k⟩ := h
    refine ⟨_, pss_cons (ps_if (PW.pt (pw_or (pt_cmpR (op_eqD hr.units) (pv 0) (pe_lst pa_nil) (nomark _)) (pw_or1 (PW.pt (pw_and (pt_cmpR op_gt (pe_callB call_len_seq (by rfl) T.len PySem.boot_len (pa_cons (pv 0) pa_nil)) pe_int (nomark _))
          (pw_and1 (pt_cmpR op_eq (pe_ix ix_list (pv 0) pe_int (fun _ _ => rfl)) (pe_gi rfl T.zero) (nomark _)))))))) (pss_one (ps_ret pe_bl)) pss_nil)
      (pss_cons (ps_for PassesOwn.never rfl (pi_list (pv 0)) (pg_name (i := 1) sc_isn.nd rfl (.inl rfl)) (pss_one (ps_if (pt_not (pt_chain op_le op_le (pe_gi rfl T.zero) (pv 1) (pe_op op_add (pe_gi rfl T.zero) pe_int))) (pss_one (ps_ret pe_bl)) pss_nil)))
      (pss_one (ps_ret pe_bl))), ?_⟩
    have loop : ∀ {l : List Nat} {H1 : Hp}, SqL K H a (vN l) → Same H H1 → (∀ H', Same H H' → Q (.bl (l.all fun c => decide (48 ≤ c) && decide (c ≤ 57))) H') → tFor (iList K (tVar 0)) (gName 1) (tIfS (tNot (tTest (tChain (rI0 fun i j => V.bl (decide (i ≤ j))) (rI0 fun i j => V.bl (decide (i ≤ j))) (tC (V.int 48)) (tVar 1) (tOp (rI0 fun i j => V.int (i + j)) (tC (V.int 48)) (tC (V.int 9)))))) (tRet (tC (V.bl false))) tNext)
        { nx := tRet (tC (V.bl true)) { nx := fun _ H' => Q V.non H', rt := Q }, rt := Q } [some (V.ref a), none] H1 := by
      intro l H1 hl s1 k
      refine sforN (l := l) rfl (Same.seq s1 hl) (fun i σ H' => H' = H1 ∧ (∃ v, σ = [some (.ref a), v]) ∧ (l.take i).all (fun c => decide (48 ≤ c) && decide (c ≤ 57)) = true) ⟨rfl, ⟨_, rfl⟩, rfl⟩ (fun i σ H' _ p => by rw [p.1]; exact Same.seq s1 hl) ?_ ?_
      · rintro i n σ H' hi ⟨rfl, ⟨v, rfl⟩, ha⟩
        walk_at "sx"
        have bad : (decide (48 ≤ n) && decide (n ≤ 57)) = false → Q (.bl false) H' := fun e => by
          have q := k H' s1
          rw [Lx.all_not hi e] at q
          exact q
        refine ⟨fun g1 => ⟨fun g2 => bad (by rw [decide_eq_false (by omega : ¬ n ≤ 57), Bool.and_false]), fun g2 => Lx.all_more hi ha (by rw [decide_eq_true (by omega : 48 ≤ n), decide_eq_true (by omega : n ≤ 57)]; rfl)⟩, fun g1 => bad (by rw [decide_eq_false (by omega : ¬ 48 ≤ n)]; rfl)⟩
      · rintro σ H' ⟨rfl, ⟨v, rfl⟩, ha⟩
        walk_at "sx"
        have q := k H' s1
        rw [Lx.all_take_end ha] at q
        exact q
    walk_at "sx"
    refine ⟨Nat.zero_le _, fun p hp => rEqD_nil (Same.seq (Same.new hp) hl) (SqL.of upd_same) ?_⟩
    have s1 := Same.new (o := .lst []) hp
    walk_at "sx"
    refine ⟨fun g => ?_, fun g => ⟨_, .inl (Same.seq s1 hl), fun g2 => ⟨_, Same.seq s1 hl, ?_⟩, fun g2 => ?_⟩⟩
    · have q := k _ s1
      unfold Lx.numOk at q
      rw [g] at q
      exact q
    · rw [vN_len] at g2
      obtain ⟨c, r, rfl⟩ : ∃ c r, l = c :: r := by cases l with
        | nil => cases g
        | cons c r => exact ⟨c, r, rfl⟩
      have hl1 : decide ((c :: r).length ≤ 1) = false := decide_eq_false (by omega)
      refine ⟨_, atI_nat (j := 0) rfl, rfl, fun g3 => ?_, fun g3 => ?_⟩
      · have q := k _ s1
        have ec : c = 48 := by have := V.int.inj g3; omega
        subst ec
        unfold Lx.numOk at q
        rw [hl1] at q
        simpa using q
      · have ec : c ≠ 48 := fun z => g3 (by rw [z]; rfl)
        have en : Lx.numOk (c :: r) = (c :: r).all fun c => decide (48 ≤ c) && decide (c ≤ 57) := by
          unfold Lx.numOk
          rw [hl1, g]
          have : (some c != some 48) = true := by simpa using ec
          rw [List.head?_cons, this]
          rfl
        rw [en] at k
        exact loop (l := c :: r) hl s1 k
    · rw [vN_len] at g2
      have en : Lx.numOk l = l.all fun c => decide (48 ≤ c) && decide (c ≤ 57) := by
        unfold Lx.numOk
        rw [g, decide_eq_true (by omega : l.length ≤ 1)]
        rfl
      rw [en] at k
      exact loop hl s1 k
/-! number_of -/
abbrev s_numof : Stmt := top 36
theorem sc_numof : FnScope ["part", "found", "sign"] ["part"] (defScope s_numof) := ⟨rfl, rfl, rfl, by decide +kernel, rfl, by decide +kernel, by decide +kernel⟩
def sp_numof (K : PySem.W.Frag) : Sp := fun vs H Q _ => ∃ (a : Addr) (l : List Nat), vs = [.ref a] ∧ SqL K H a (vN l) ∧ (∀ c ∈ l, 48 ≤ c) ∧ Q (.int (Lx.clampN l : Nat)) H
theorem ok_numof (D : DefAt K mg "number_of" s_numof ["part"]) (T : Txt mg) : C8.Cal P w K mg base 1 "number_of" (sp_numof K) [] := by
  refine cal_of D sc_numof (fun vs H Q E h => ?_) (fun f cdv A outer s H vs Q E hr h => ?_)
  · obtain ⟨a, l, rfl, _⟩ := h
    rfl
  · obtain ⟨a, l, rfl, hl, hd, k⟩ := h
    refine ⟨_, pss_cons (ps_set (i := 1) sc_numof.nd rfl (.inl rfl) pe_int)
      (pss_cons (ps_for PassesOwn.never rfl (pi_list (pv 0)) (pg_name (i := 2) sc_numof.nd rfl (.inl rfl)) (pss_one (ps_set (i := 1) sc_numof.nd rfl (.inl rfl) (pe_callB (call_min2 rfl) (by rfl) T.min (by decide +kernel)
          (pa_cons (pe_op op_sub (pe_op op_add (pe_op op_mul pe_int (pv 1)) (pv 2)) (pe_gi rfl T.zero)) (pa_cons (pe_gi rfl T.great) pa_nil))))))
      (pss_one (ps_ret (pv 1)))), ?_⟩
    walk_at "sx"
    refine sforN (l := l) rfl hl (fun i σ H' => H' = H ∧ (∃ v, σ = [some (.ref a), some (.int (Lx.clampN (l.take i) : Nat)), v])) ⟨rfl, _, rfl⟩ (fun i σ H' _ p => by rw [p.1]; exact hl) ?_ ?_
    · rintro i n σ H' hi ⟨rfl, ⟨v, rfl⟩⟩
      have h48 := hd n (List.mem_of_getElem? hi)
      walk_at "sx"
      refine ⟨.inl (by decide), _, _, ⟨rfl, rfl⟩, ?_⟩
      rw [Lx.clamp_more hi]
      by_cases g : (1000000 : Int) < 10 * ((Lx.clampN (l.take i) : Nat) : Int) + (n : Int) - 48
      · rw [if_pos g]
        omega
      · rw [if_neg g]
        omega
    · rintro σ H' ⟨rfl, ⟨v, rfl⟩⟩
      walk_at "sx"
      rw [List.take_length]
      exact k
/-! are_parts -/
abbrev s_arep : Stmt := top 37
theorem sc_arep : FnScope ["parts"] ["parts"] (defScope s_arep) := ⟨rfl, rfl, rfl, by decide +kernel, rfl, by decide +kernel, by decide +kernel⟩
def sp_arep (K : PySem.W.Frag) : Sp := fun vs H Q _ => ∃ (a : Addr) (qs : List Addr) (nss : List (List Nat)), vs = [.ref a] ∧ SqL K H a (qs.map V.ref) ∧ RowsAt H qs nss ∧ ∀ H', Same H H' → Q (.bl (Lx.partsOk nss)) H'
theorem ok_arep (D : DefAt K mg "are_parts" s_arep ["parts"]) (T : Txt mg) (G1 : C8.Cal P w K mg base 3 "all_may_stand" (sp_allN K Sy.isSign) []) (G2 : C8.Cal P w K mg base 1 "is_number" (sp_isn K) []) : C8.Cal P w K mg base 4 "are_parts" (sp_arep K) [] := by
  refine cal_of D sc_arep (fun vs H Q E h => ?_) (fun f cdv A outer s H vs Q E hr h => ?_)
  · obtain ⟨a, qs, nss, rfl, _⟩ := h
    rfl
  · obtain ⟨a, qs, nss, rfl, hl, hq, k⟩ := h
    refine ⟨_, pss_cons (ps_if (PW.pt (pw_or (pt_cmpR op_ne (pe_callB call_len_seq (by rfl) T.len PySem.boot_len (pa_cons (pv 0) pa_nil)) pe_int (nomark _)) (pw_or (pt_cmpR (op_eqD hr.units) (pe_ix ix_list (pv 0) pe_int (fun _ _ => rfl)) (pe_lst pa_nil) (nomark _))
          (pw_or1 (pt_cmpR (op_eqD hr.units) (pe_ix ix_list (pv 0) pe_int (fun _ _ => rfl)) (pe_lst pa_nil) (nomark _)))))) (pss_one (ps_ret pe_bl)) pss_nil)
      (pss_cons (ps_if (PW.pt (pw_or (pt_not (pt_val (C8.pe_c G1 hr (by decide) rfl (pa_cons (pe_ix ix_list (pv 0) pe_int (fun _ _ => rfl)) pa_nil)))) (pw_or1 (pt_not (pt_val (C8.pe_c G1 hr (by decide) rfl (pa_cons (pe_ix ix_list (pv 0) pe_int (fun _ _ => rfl)) pa_nil))))))) (pss_one (ps_ret pe_bl)) pss_nil)
      (pss_one (ps_ret (pe_and (C8.pe_c G2 hr (by decide) rfl (pa_cons (pe_ix ix_list (pv 0) pe_int (fun _ _ => rfl)) pa_nil)) (pe_and (C8.pe_c G2 hr (by decide) rfl (pa_cons (pe_ix ix_list (pv 0) pe_int (fun _ _ => rfl)) pa_nil)) (pe_one (C8.pe_c G2 hr (by decide) rfl (pa_cons (pe_ix ix_list (pv 0) pe_int (fun _ _ => rfl)) pa_nil)))))))), ?_⟩
    walk_at "sx"
    refine ⟨_, .inl hl, ?_⟩
    rw [List.length_map, RowsAt.len hq]
    refine ⟨fun g => ?_, fun g => ?_⟩
    · have q := k H (Same.refl H)
      have e : Lx.partsOk nss = false := by
        unfold Lx.partsOk
        split
        · simp at g
        · rfl
      rw [e] at q
      exact q
    · have g5 : nss.length = 5 := by omega
      obtain ⟨r, t, x, y, c, rfl⟩ : ∃ r t x y c, nss = [r, t, x, y, c] := by
        match nss, g5 with
        | [r, t, x, y, c], _ => exact ⟨r, t, x, y, c, rfl⟩
      obtain ⟨q0, q1, q2, q3, q4, rfl⟩ : ∃ q0 q1 q2 q3 q4, qs = [q0, q1, q2, q3, q4] := by
        match qs, (RowsAt.len hq).trans g5 with
        | [r, t, x, y, c], _ => exact ⟨r, t, x, y, c, rfl⟩
      cases hq with | cons h0 hq => cases hq with | cons h1 hq => cases hq with | cons h2 hq => cases hq with | cons h3 hq => cases hq with | cons h4 hq =>
      have kk : ∀ H', Same H H' → ∀ b, b = (!r.isEmpty && (!t.isEmpty && (r.all Sy.isSign && (t.all Sy.isSign && (Lx.numOk x && (Lx.numOk y && Lx.numOk c)))))) → Q (.bl b) H' := fun H' sm b e => by rw [e]; exact k H' sm
      refine ⟨_, hl, _, at_refs (i := 0) rfl, Nat.zero_le _, fun p1 hp1 => ?_⟩
      have s1 := Same.new (o := .lst []) hp1
      refine rEqD_nil (SqL.of (s1 _ _ h0)) (SqL.of upd_same) ?_
      walk_at "sx"
      refine ⟨fun g1 => kk _ s1 _ (by rw [g1]; rfl), fun g1 => ⟨_, Same.seq s1 hl, _, at_refs (i := 1) rfl, Nat.zero_le _, fun p2 hp2 => ?_⟩⟩
      have s2 := Same.trans s1 (Same.new (o := .lst []) hp2)
      refine rEqD_nil (SqL.of (s2 _ _ h1)) (SqL.of upd_same) ?_
      walk_at "sx"
      refine ⟨fun g2 => kk _ s2 _ (by rw [g1, g2]; rfl), fun g2 => ⟨_, Same.seq s2 hl, _, at_refs (i := 0) rfl, q0, r, rfl, SqL.of (s2 _ _ h0), ?_⟩⟩
      walk_at "sx"
      refine ⟨fun g3 => kk _ s2 _ (by rw [g1, g2, g3]; rfl), fun g3 => ⟨_, Same.seq s2 hl, _, at_refs (i := 1) rfl, q1, t, rfl, SqL.of (s2 _ _ h1), ?_⟩⟩
      walk_at "sx"
      refine ⟨fun g4 => kk _ s2 _ (by rw [g1, g2, g3, g4]; rfl), fun g4 => ⟨_, Same.seq s2 hl, _, at_refs (i := 2) rfl, q2, x, rfl, SqL.of (s2 _ _ h2), fun H3 s3 => ?_⟩⟩
      have s03 := Same.trans s2 s3
      walk_at "sx"
      refine ⟨fun g5 => ⟨_, Same.seq s03 hl, _, at_refs (i := 3) rfl, q3, y, rfl, SqL.of (s03 _ _ h3), fun H4 s4 => ?_⟩, fun g5 => kk _ s03 _ (by rw [g1, g2, g3, g4, g5]; rfl)⟩
      have s04 := Same.trans s03 s4
      walk_at "sx"
      refine ⟨fun g6 => ⟨_, Same.seq s04 hl, _, at_refs (i := 4) rfl, q4, c, rfl, SqL.of (s04 _ _ h4), fun H5 s5 => ?_⟩, fun g6 => kk _ s04 _ (by rw [g1, g2, g3, g4, g5, g6]; rfl)⟩
      exact kk _ (Same.trans s04 s5) _ (by rw [g1, g2, g3, g4, g5, g6]; rfl)
end
end Sx
/-! ## W9 -/
namespace Lx
open Sy
theorem cbs_ge (l : List Nat) : l.length ≤ (cbs l).length := by
  induction l with
  | nil => exact Nat.le_refl _
  | cons a r ih =>
    have h := (cb_pos a).1
    show r.length + 1 ≤ (cb a ++ cbs r).length
    rw [List.length_append]
    omega
theorem chN_len {l cs : List Nat} (hb : ∀ x ∈ l, x < 256) (h : chN l = some cs) : cs.length ≤ l.length := by
  unfold chN at h
  obtain ⟨h1, h2⟩ := chars_iff.mp h
  have h3 := congrArg bn h2
  rw [bn_ofNat hb, bn_utf8s h1] at h3
  rw [h3]
  exact cbs_ge cs
theorem par_mem {s : Nat} : ∀ {l p : List Nat}, p ∈ parN s l → (∀ c ∈ p, c ∈ l) ∧ p.length ≤ l.length
  | [], p, h => by
    rw [show p = [] from List.mem_singleton.mp h]
    exact ⟨fun c hc => hc, Nat.le_refl _⟩
  | c :: r, p, h => by
    unfold parN at h
    split at h
    · rcases List.mem_cons.mp h with rfl | h
      · exact ⟨fun c hc => (by cases hc), Nat.zero_le _⟩
      · obtain ⟨h1, h2⟩ := par_mem h
        exact ⟨fun d hd => List.mem_cons_of_mem _ (h1 d hd), by rw [List.length_cons]; omega⟩
    · split at h
      · rename_i q ps e
        rcases List.mem_cons.mp h with rfl | h
        · obtain ⟨h1, h2⟩ := par_mem (l := r) (s := s) (p := q) (by rw [e]; exact List.mem_cons_self)
          refine ⟨fun d hd => ?_, by rw [List.length_cons, List.length_cons]; omega⟩
          rcases List.mem_cons.mp hd with rfl | hd
          · exact List.mem_cons_self
          · exact List.mem_cons_of_mem _ (h1 d hd)
        · obtain ⟨h1, h2⟩ := par_mem (l := r) (s := s) (p := p) (by rw [e]; exact List.mem_cons_of_mem _ h)
          exact ⟨fun d hd => List.mem_cons_of_mem _ (h1 d hd), by rw [List.length_cons]; omega⟩
      · rename_i e
        exact absurd e (par_ne s r)
def wordN : List (List Nat) → Option Word
  | [r, t, x, y, c] => if (⟨r, t, clampN x, clampN y, clampN c⟩ : Word).small = true then some ⟨r, t, clampN x, clampN y, clampN c⟩ else none
  | _ => none
def lineW (l : List Nat) : Option Word := (partsN l).bind wordN
def faultN (l : List Nat) (ws : List Word) : Nat := match partsN l with
  | none => 1
  | some nss => match wordN nss with
    | none => 2
    | some w => if ws.any (fun q => q.same w) = true then 3 else if ws.length = 128 then 4 else 0
/-- lines read: the words, the fault's line and kind -/
def readGo : List (List Nat) → Nat → List Word → List Word × Nat × Nat
  | [], _, ws => (ws, 0, 0)
  | [l], i, ws => if l = [] then (ws, 0, 0) else (ws, i, 1)
  | l :: m :: r, i, ws => if 0 < faultN l ws then (ws, i, faultN l ws) else match lineW l with
    | some w => readGo (m :: r) (i + 1) (ws ++ [w])
    | none => (ws, i, 1)
theorem fault_zero {l : List Nat} {ws : List Word} (h : faultN l ws = 0) : ∃ nss w, partsN l = some nss ∧ wordN nss = some w ∧ lineW l = some w ∧ ws.any (fun q => q.same w) = false ∧ ws.length ≠ 128 := by
  unfold faultN at h
  cases e1 : partsN l with
  | none => rw [e1] at h; cases h
  | some nss =>
    rw [e1] at h
    cases e2 : wordN nss with
    | none => simp only [e2] at h; cases h
    | some w =>
      simp only [e2] at h
      split at h
      · cases h
      · split at h
        · cases h
        · rename_i g1 g2
          exact ⟨nss, w, rfl, e2, by unfold lineW; rw [e1]; exact e2, by simpa using g1, g2⟩
theorem parts_ok {l : List Nat} {nss : List (List Nat)} (h : partsN l = some nss) : partsOk nss = true := by
  unfold partsN at h
  cases e : chN l with
  | none => rw [e] at h; cases h
  | some cs =>
    rw [e] at h
    have h' : (if partsOk (parN 32 cs) = true then some (parN 32 cs) else none) = some nss := h
    split at h'
    · rename_i g
      cases h'
      exact g
    · cases h'
theorem ok_five {nss : List (List Nat)} (h : partsOk nss = true) : ∃ r t x y c, nss = [r, t, x, y, c] ∧ 1 ≤ r.length ∧ 1 ≤ t.length ∧ numOk x = true ∧ numOk y = true ∧ numOk c = true := by
  unfold partsOk at h
  split at h
  · rename_i r t x y c
    simp only [Bool.and_eq_true, Bool.not_eq_true'] at h
    obtain ⟨h1, h2, h3, h4, h5, h6, h7⟩ := h
    refine ⟨r, t, x, y, c, rfl, ?_, ?_, h5, h6, h7⟩
    · cases r with
      | nil => cases h1
      | cons _ _ => simp
    · cases t with
      | nil => cases h2
      | cons _ _ => simp
  · cases h
theorem small_iff (r t : Text) (x y c : Nat) (hr : 1 ≤ r.length) (ht : 1 ≤ t.length) : (⟨r, t, x, y, c⟩ : Word).small = (decide (1 ≤ r.length ∧ r.length ≤ 32) && (decide (1 ≤ t.length ∧ t.length ≤ 32) && decide (x ≤ 255 ∧ y ≤ 255 ∧ c ≤ 65535))) := by
  unfold Word.small SIGNS SORTS COST
  rw [Bool.eq_iff_iff]
  simp only [Bool.and_eq_true, decide_eq_true_eq]
  constructor
  · rintro ⟨h1, h2, h3, h4, h5⟩
    exact ⟨⟨hr, h1⟩, ⟨ht, h2⟩, by omega, by omega, h5⟩
  · rintro ⟨⟨_, h1⟩, ⟨_, h2⟩, h3, h4, h5⟩
    exact ⟨h1, h2, by omega, by omega, h5⟩
end Lx
namespace Sx
open PySem PySem.Spec PyProof.Rows L2
/-- a list of one list of lists, or an empty one -/
def TwoAt (H : Hp) (p : Addr) (o : Option (List (List Nat))) : Prop := match o with
  | none => H p = some (.lst [])
  | some nss => ∃ (q : Addr) (qs : List Addr), H p = some (.lst [.ref q]) ∧ H q = some (.lst (qs.map V.ref)) ∧ RowsAt H qs nss
theorem dp_rows {K : PySem.W.Frag} {H : Hp} : ∀ {qs : List Addr} {nss : List (List Nat)}, RowsAt H qs nss → DpAll K H (qs.map V.ref) (nss.map fun ns => PyData.list (ns.map fun (n : Nat) => PyData.int (n : Int)))
  | _, _, .nil => .nil
  | _, _, .cons h t => .cons (dpL (SqL.of h)) (dp_rows t)
theorem canLay_rows : ∀ nss : List (List Nat), PyData.canLayAll0 (nss.map fun ns => PyData.list (ns.map fun (n : Nat) => PyData.int (n : Int))) = true
  | [] => rfl
  | ns :: nss => by
    show (PyData.canLayAll0 (ns.map fun (n : Nat) => PyData.int (n : Int)) && PyData.canLayAll0 (nss.map fun ns => PyData.list (ns.map fun (n : Nat) => PyData.int (n : Int)))) = true
    rw [canLay_ints, canLay_rows nss]
    rfl
theorem depth_rows : ∀ nss : List (List Nat), PyData.depthAll (nss.map fun ns => PyData.list (ns.map fun (n : Nat) => PyData.int (n : Int))) ≤ 1
  | [] => Nat.zero_le _
  | ns :: nss => by
    show max (PyData.depthAll (ns.map fun (n : Nat) => PyData.int (n : Int)) + 1) (PyData.depthAll (nss.map fun ns => PyData.list (ns.map fun (n : Nat) => PyData.int (n : Int)))) ≤ 1
    rw [depth_intsN]
    have := depth_rows nss
    omega
/-- x == [] of a list of one thing or none -/
theorem rEqD_one {K : PySem.W.Frag} {H : Hp} {a b : Addr} {o : Option (List Nat)} {Q : VK} (h1 : OneAt H a o) (h2 : SqL K H b []) (q : Q (.bl o.isNone) H) : rEqD K (.ref a) (.ref b) H Q := by
  cases o with
  | none => exact ⟨.list [], .list [], .lst (SqL.of h1) .nil, .lst h2 .nil, rfl, rfl, q⟩
  | some t =>
    obtain ⟨c, g1, g2⟩ := h1
    refine ⟨.list [.list (t.map fun (n : Nat) => PyData.int (n : Int))], .list [], .lst (SqL.of g1) (.cons (dpL (SqL.of g2)) .nil), .lst h2 .nil, ?_, rfl, q⟩
    unfold SeqAt.shaped
    show ((PyData.canLayAll0 _ && true) && decide (max (PyData.depthAll _ + 1) 0 + 1 ≤ 64)) = true
    rw [canLay_ints, depth_intsN]
    rfl
theorem rEqD_two {K : PySem.W.Frag} {H : Hp} {a b : Addr} {o : Option (List (List Nat))} {Q : VK} (h1 : TwoAt H a o) (h2 : SqL K H b []) (q : Q (.bl o.isNone) H) : rEqD K (.ref a) (.ref b) H Q := by
  cases o with
  | none => exact ⟨.list [], .list [], .lst (SqL.of h1) .nil, .lst h2 .nil, rfl, rfl, q⟩
  | some nss =>
    obtain ⟨c, qs, g1, g2, g3⟩ := h1
    refine ⟨.list [.list (nss.map fun ns => PyData.list (ns.map fun (n : Nat) => PyData.int (n : Int)))], .list [], .lst (SqL.of g1) (.cons (.lst (SqL.of g2) (dp_rows g3)) .nil), .lst h2 .nil, ?_, rfl, q⟩
    unfold SeqAt.shaped
    have hd := depth_rows nss
    show ((PyData.canLayAll0 _ && true) && decide (max (PyData.depthAll _ + 1) 0 + 1 ≤ 64)) = true
    rw [canLay_rows, Bool.and_true, Bool.true_and]
    exact decide_eq_true (by omega)
/-- a word, or an empty tuple -/
def OptAt (H : Hp) (p : Addr) (o : Option Sy.Word) : Prop := match o with
  | none => H p = some (.tup [])
  | some w => WordAt H p w
theorem rEqD_opt {K : PySem.W.Frag} {H : Hp} {a b : Addr} {o : Option Sy.Word} {Q : VK} (h1 : OptAt H a o) (h2 : SqT K H b []) (q : Q (.bl o.isNone) H) : rEqD K (.ref a) (.ref b) H Q := by
  cases o with
  | none => exact ⟨.tuple [], .tuple [], .tup (SqT.of h1) .nil, .tup h2 .nil, rfl, rfl, q⟩
  | some w =>
    refine ⟨encW w, .tuple [], dp_W h1, .tup h2 .nil, ?_, rfl, q⟩
    unfold SeqAt.shaped encW encR
    show ((PyData.canLayAll0 _ && (true && (PyData.canLayAll0 _ && (true && (true && true))))) && decide (max (PyData.depthAll _ + 1) (max 0 (max (PyData.depthAll _ + 1) (max 0 (max 0 0)))) + 1 ≤ 64)) = true
    rw [canLay_ints, canLay_ints, depth_intsN, depth_intsN]
    rfl
section
variable {P : Program} {w : World} {K : PySem.W.Frag} {mg : PySem.Str → Option Value} {base : Heap}
/-! parts_of -/
abbrev s_pof : Stmt := top 38
theorem sc_pof : FnScope ["line", "characters", "parts"] ["line"] (defScope s_pof) := ⟨rfl, rfl, rfl, by decide +kernel, rfl, by decide +kernel, by decide +kernel⟩
def sp_pof (K : PySem.W.Frag) : Sp := fun vs H Q _ => ∃ (a : Addr) (l : List Nat), vs = [.ref a] ∧ SqL K H a (vN l) ∧ l.length ≤ 100000 ∧ (∀ x ∈ l, x < 256) ∧ ∀ p H', Same H H' → H p = none → TwoAt H' p (Lx.partsN l) → Q (.ref p) H'
theorem ok_pof (D : DefAt K mg "parts_of" s_pof ["line"]) (T : Txt mg) (G1 : C8.Cal P w K mg base 3 "characters_of" (sp_chof K) []) (G2 : C8.Cal P w K mg base 1 "parted" (sp_par K) []) (G3 : C8.Cal P w K mg base 4 "are_parts" (sp_arep K) []) : C8.Cal P w K mg base 5 "parts_of" (sp_pof K) [] := by
  refine cal_of D sc_pof (fun vs H Q E h => ?_) (fun f cdv A outer s H vs Q E hr h => ?_)
  · obtain ⟨a, l, rfl, _⟩ := h
    rfl
  · obtain ⟨a, l, rfl, hl, hz, hb, k⟩ := h
    refine ⟨_, pss_cons (ps_set (i := 1) sc_pof.nd rfl (.inl rfl) (C8.pe_c G1 hr (by decide) rfl (pa_cons (pv 0) pa_nil)))
      (pss_cons (ps_if (pt_cmpR (op_eqD hr.units) (pv 1) (pe_lst pa_nil) (nomark _)) (pss_one (ps_ret (pe_lst pa_nil))) pss_nil)
      (pss_cons (ps_set (i := 2) sc_pof.nd rfl (.inl rfl) (C8.pe_c G2 hr (by decide) rfl (pa_cons (pe_ix ix_list (pv 1) pe_int (fun _ _ => rfl)) (pa_cons (pe_gi rfl T.blank) pa_nil))))
      (pss_cons (ps_if (pt_not (pt_val (C8.pe_c G3 hr (by decide) rfl (pa_cons (pv 2) pa_nil)))) (pss_one (ps_ret (pe_lst pa_nil))) pss_nil)
      (pss_one (ps_ret (pe_lst (pa_cons (pv 2) pa_nil))))))), ?_⟩
    walk_at "sx"
    refine ⟨a, l, rfl, hl, hz, hb, fun p1 H1 s1 hp1 h1 => ?_⟩
    walk_at "sx"
    refine ⟨Nat.zero_le _, fun e1 he1 => ?_⟩
    have s2 := Same.trans s1 (Same.new (o := .lst []) he1)
    have h1' : OneAt (upd H1 e1 (.lst [])) p1 (Lx.chN l) := by
      revert h1
      cases Lx.chN l with
      | none => exact fun h1 => (Same.new he1 _ _ h1 : _ = _)
      | some t => exact fun ⟨q, g1, g2⟩ => ⟨q, Same.new he1 _ _ g1, Same.new he1 _ _ g2⟩
    refine rEqD_one h1' (SqL.of upd_same) ?_
    have hpn : Lx.partsN l = (Lx.chN l).bind fun cs => if Lx.partsOk (Lx.parN 32 cs) = true then some (Lx.parN 32 cs) else none := rfl
    have kn : Lx.partsN l = none → ∀ (H3 : Hp) (r : Addr), Same H H3 → H3 r = none → Q (.ref r) (upd H3 r (.lst [])) := fun e H3 r sm hr1 => by
      refine k r _ (Same.trans sm (Same.new hr1)) (Same.free sm hr1) ?_
      rw [e]
      exact upd_same
    cases ec : Lx.chN l with
    | none =>
      rw [ec] at hpn
      walk_at "sx"
      exact ⟨Nat.zero_le _, fun r hr1 => kn hpn _ r s2 hr1⟩
    | some cs =>
      rw [ec] at hpn h1'
      obtain ⟨q, g1, g2⟩ := h1'
      have hcl := Lx.chN_len hb ec
      walk_at "sx"
      refine ⟨_, SqL.of g1, _, atI_nat (j := 0) rfl, q, cs, 32, rfl, SqL.of g2, by omega, fun p2 qs H2 s3 hp2 hp3 hrows => ?_⟩
      have s03 := Same.trans s2 s3
      walk_at "sx"
      refine ⟨p2, qs, _, rfl, SqL.of hp3, hrows, fun H3 s4 => ?_⟩
      have s04 := Same.trans s03 s4
      have hpn' : Lx.partsN l = if Lx.partsOk (Lx.parN 32 cs) = true then some (Lx.parN 32 cs) else none := hpn
      walk_at "sx"
      refine ⟨fun g => ⟨Nat.zero_le _, fun r hr1 => ?_⟩, fun g => ⟨by decide, fun r hr1 => ?_⟩⟩
      · rw [g] at hpn'
        exact kn hpn' _ r s04 hr1
      · rw [g, if_pos rfl] at hpn'
        refine k r _ (Same.trans s04 (Same.new hr1)) (Same.free s04 hr1) ?_
        rw [hpn']
        have s5 := Same.trans s4 (Same.new (o := .lst [V.ref p2]) hr1)
        exact ⟨p2, qs, upd_same, s5 _ _ hp3, RowsAt.same s5 hrows⟩
/-! numbers_of -/
abbrev s_numsof : Stmt := top 39
theorem sc_numsof : FnScope ["parts", "part"] ["parts"] (defScope s_numsof) := ⟨rfl, rfl, rfl, by decide +kernel, rfl, by decide +kernel, by decide +kernel⟩
def sp_numsof (K : PySem.W.Frag) : Sp := fun vs H Q _ => ∃ (a : Addr) (qs : List Addr) (nss : List (List Nat)), vs = [.ref a] ∧ SqL K H a (qs.map V.ref) ∧ RowsAt H qs nss ∧ nss.length ≤ 1000 ∧ (∀ ns ∈ nss.drop 2, ∀ c ∈ ns, 48 ≤ c) ∧ RNew (vN ((nss.drop 2).map Lx.clampN)) H Q
theorem yes_go {σ : L2.St} {H : Hp} {te : TE} {k : VK} {N : Hp → Prop} (h : te σ H k) : tYes σ H (fun b H3 => if b = true then te σ H3 k else N H3) := by
  show (if true = true then te σ H k else N H)
  rw [if_pos rfl]
  exact h
theorem RowsAt.drop : ∀ {H : Hp} {qs : List Addr} {nss : List (List Nat)} (n : Nat), RowsAt H qs nss → RowsAt H (qs.drop n) (nss.drop n)
  | _, _, _, 0, h => h
  | _, _, _, _ + 1, .nil => .nil
  | _, _, _, n + 1, .cons _ t => RowsAt.drop n t
theorem ok_numsof (D : DefAt K mg "numbers_of" s_numsof ["parts"]) (G : C8.Cal P w K mg base 1 "number_of" (sp_numof K) []) : C8.Cal P w K mg base 2 "numbers_of" (sp_numsof K) [] := by
  refine cal_of D sc_numsof (fun vs H Q E h => ?_) (fun f cdv A outer s H vs Q E hr h => ?_)
  · obtain ⟨a, qs, nss, rfl, _⟩ := h
    rfl
  · obtain ⟨a, qs, nss, rfl, hl, hq, hz, hd, k⟩ := h
    refine ⟨_, pss_one (ps_ret (pe_lc (own := [("part", 1)]) (g := gName 1) rfl sc_numsof.nd (pi_list (pe_slice sl_list (pv 0) (po_some pe_int) po_none)) (blkOk_by (own := [("part", 1)]) (N := ["parts", "part"]) (sc := defScope s_numsof) (by decide +kernel))
        (fun _ _ _ _ _ => pg_name (i := 1) sc_numsof.nd rfl (.inl rfl)) (fun _ _ _ _ _ => pts_nil) (fun _ _ _ _ _ => C8.pe_c G hr (by decide) rfl (pa_cons (pv 1) pa_nil)))), ?_⟩
    refine ⟨_, rfl, _, rfl, a, _, rfl, hl, fun p1 hp1 => ?_⟩
    have hcut : cutV (qs.map V.ref) (some 2) none = (qs.drop 2).map V.ref := by
      rw [cutW, show (2 : Int) = ((2 : Nat) : Int) from rfl, HT.sIx_nat, HT.sIx_none]
      congr 1
      rcases Nat.le_total 2 qs.length with h | h
      · rw [Nat.min_eq_left h, List.take_of_length_le (by rw [List.length_drop]; omega)]
      · rw [Nat.min_eq_right h, List.drop_length, List.drop_eq_nil_of_le h, List.take_nil]
    rw [hcut]
    have s1 := Same.new (o := .lst ((qs.drop 2).map V.ref)) hp1
    have hq2 : RowsAt H (qs.drop 2) (nss.drop 2) := RowsAt.drop 2 hq
    have hql := RowsAt.len hq2
    refine ⟨p1, rfl, ⟨_, SqL.of upd_same⟩, fun D1 hD1 => ?_⟩
    have s2 := Same.trans s1 (Same.new (o := .lst []) hD1)
    refine lc_list (K := K) (a := p1) (xs := (qs.drop 2).map V.ref) (fun i H' => Same H H' ∧ H' p1 = some (.lst ((qs.drop 2).map V.ref)) ∧ H' D1 = some (.lst (vN (((nss.drop 2).take i).map Lx.clampN)))) ⟨s2, by rw [upd_ne (ne_of_none upd_same hD1)]; exact upd_same, upd_same⟩ (fun i H' _ q => SqL.of q.2.1) ?_ ?_
    · rintro i x H' hi ⟨sm, g1, g2⟩
      obtain ⟨qi, hqi, rfl⟩ : ∃ qi, (qs.drop 2)[i]? = some qi ∧ x = V.ref qi := by
        rw [List.getElem?_map] at hi
        cases ea : (qs.drop 2)[i]? with
        | none => rw [ea] at hi; cases hi
        | some ai => rw [ea] at hi; exact ⟨ai, rfl, (Option.some.inj hi).symm⟩
      obtain ⟨q', ns, e1, e2, e3⟩ := RowsAt.get (i := i) hq2 (List.getElem?_eq_some_iff.mp hqi).1
      have eq : q' = qi := Option.some.inj (e1.symm.trans hqi)
      subst eq
      have hlt := (List.getElem?_eq_some_iff.mp e2).1
      rw [List.length_drop] at hlt
      refine ⟨rfl, ?_⟩
      refine yes_go ?_
      refine ⟨_, rfl, q', ns, rfl, SqL.of (sm _ _ e3), hd ns (List.mem_of_getElem? e2), _, g2, by rw [vN_len, List.length_map, List.length_take, List.length_drop]; exact szt (by omega), ?_, ?_, ?_⟩
      · have hnD : ∀ b o, H b = some o → b ≠ D1 := fun b o e z => by
          have := s1 _ _ e
          rw [z, hD1] at this
          cases this
        exact fun b o e => by rw [upd_ne (hnD b o e)]; exact sm _ _ e
      · have hne : p1 ≠ D1 := ne_of_none upd_same hD1
        rw [upd_ne hne]
        exact g1
      · rw [upd_same, take_more e2, List.map_append, vN_app]
        rfl
    · rintro H' ⟨sm, g1, g2⟩
      rw [List.length_map, hql, List.take_length] at g2
      exact k D1 H' (Same.free s1 hD1) sm g2
/-! word_of -/
abbrev s_wof : Stmt := top 40
theorem sc_wof : FnScope ["parts", "left", "right", "cost"] ["parts"] (defScope s_wof) := ⟨rfl, rfl, rfl, by decide +kernel, rfl, by decide +kernel, by decide +kernel⟩
def sp_wof (K : PySem.W.Frag) : Sp := fun vs H Q _ => ∃ (a : Addr) (qs : List Addr) (nss : List (List Nat)), vs = [.ref a] ∧ SqL K H a (qs.map V.ref) ∧ RowsAt H qs nss ∧ Lx.partsOk nss = true ∧ ∀ p H', Same H H' → OptAt H' p (Lx.wordN nss) → Q (.ref p) H'
theorem ok_wof (D : DefAt K mg "word_of" s_wof ["parts"]) (G1 : C8.Cal P w K mg base 2 "numbers_of" (sp_numsof K) []) (G2 : C8.Cal P w K mg base 1 "is_short" (sp_short K) []) (G3 : C8.Cal P w K mg base 1 "are_bounded" sp_bounded []) (G4 : C8.Cal P w K mg base 1 "made_word" (sp_made K) []) :
    C8.Cal P w K mg base 3 "word_of" (sp_wof K) [] := by
  refine cal_of D sc_wof (fun vs H Q E h => ?_) (fun f cdv A outer s H vs Q E hr h => ?_)
  · obtain ⟨a, qs, nss, rfl, _⟩ := h
    rfl
  · obtain ⟨a, qs, nss, rfl, hl, hq, hok, k⟩ := h
    refine ⟨_, pss_cons (ps_asg (C8.pe_c G1 hr (by decide) rfl (pa_cons (pv 0) pa_nil)) (pg_unl (n := 3) rfl (pgs_cons (pg_name (i := 1) sc_wof.nd rfl (.inl rfl)) (pgs_cons (pg_name (i := 2) sc_wof.nd rfl (.inl rfl)) (pgs_cons (pg_name (i := 3) sc_wof.nd rfl (.inl rfl)) pgs_nil)))))
      (pss_cons (ps_if (PW.pt (pw_or (pt_not (pt_val (C8.pe_c G2 hr (by decide) rfl (pa_cons (pe_ix ix_list (pv 0) pe_int (fun _ _ => rfl)) pa_nil)))) (pw_or (pt_not (pt_val (C8.pe_c G2 hr (by decide) rfl (pa_cons (pe_ix ix_list (pv 0) pe_int (fun _ _ => rfl)) pa_nil))))
          (pw_or1 (pt_not (pt_val (C8.pe_c G3 hr (by decide) rfl (pa_cons (pv 1) (pa_cons (pv 2) (pa_cons (pv 3) pa_nil)))))))))) (pss_one (ps_ret (pe_tup pa_nil))) pss_nil)
      (pss_one (ps_ret (C8.pe_c G4 hr (by decide) rfl (pa_cons (pe_ix ix_list (pv 0) pe_int (fun _ _ => rfl)) (pa_cons (pe_ix ix_list (pv 0) pe_int (fun _ _ => rfl)) (pa_cons (pv 1) (pa_cons (pv 2) (pa_cons (pv 3) pa_nil))))))))), ?_⟩
    obtain ⟨r, t, x, y, c, rfl, hr1, ht1, hx, hy, hc⟩ := Lx.ok_five hok
    obtain ⟨q0, q1, q2, q3, q4, rfl⟩ : ∃ q0 q1 q2 q3 q4, qs = [q0, q1, q2, q3, q4] := by
      match qs, (RowsAt.len hq) with
      | [r, t, x, y, c], _ => exact ⟨r, t, x, y, c, rfl⟩
    have hwn : Lx.wordN [r, t, x, y, c] = if (⟨r, t, Lx.clampN x, Lx.clampN y, Lx.clampN c⟩ : Sy.Word).small = true then some ⟨r, t, Lx.clampN x, Lx.clampN y, Lx.clampN c⟩ else none := rfl
    have hq' := hq
    cases hq' with | cons h0 hq' => cases hq' with | cons h1 hq' =>
    walk_at "sx"
    refine ⟨a, _, _, rfl, hl, hq, by simp, fun ns hns d hd => ?_, fun p1 H1 hp1 s1 hn1 => ?_⟩
    · rcases List.mem_cons.mp hns with rfl | hns
      · exact Lx.num_digits hx d hd
      · rcases List.mem_cons.mp hns with rfl | hns
        · exact Lx.num_digits hy d hd
        · rcases List.mem_cons.mp hns with rfl | hns
          · exact Lx.num_digits hc d hd
          · cases hns
    · rw [Lx.small_iff _ _ _ _ _ hr1 ht1] at hwn
      have kn : Lx.wordN [r, t, x, y, c] = none → ∀ (H3 : Hp) (u : Addr), Same H H3 → H3 u = none → Q (.ref u) (upd H3 u (.tup [])) := fun e H3 u sm hu => by
        refine k u _ (Same.trans sm (Same.new hu)) ?_
        rw [e]
        exact upd_same
      refine ⟨p1, rfl, _, SqL.of hn1, rfl, _, _, rfl, _, _, rfl, _, _, rfl, rfl, ?_⟩
      refine ⟨_, Same.seq s1 hl, _, at_refs (i := 0) rfl, q0, r, rfl, SqL.of (s1 _ _ h0), ?_⟩
      walk_at "sx"
      refine ⟨fun g1 => ⟨Nat.zero_le _, fun u hu => kn ?_ H1 u s1 hu⟩, fun g1 => ⟨_, Same.seq s1 hl, _, at_refs (i := 1) rfl, q1, t, rfl, SqL.of (s1 _ _ h1), ?_⟩⟩
      · rw [hwn, decide_eq_false g1]
        rfl
      walk_at "sx"
      refine ⟨fun g2 => ⟨Nat.zero_le _, fun u hu => kn ?_ H1 u s1 hu⟩, fun g2 => ⟨Lx.clampN x, Lx.clampN y, Lx.clampN c, rfl, ?_⟩⟩
      · rw [hwn, decide_eq_false g2, Bool.false_and, Bool.and_false]
        rfl
      walk_at "sx"
      refine ⟨fun g3 => ⟨Nat.zero_le _, fun u hu => kn ?_ H1 u s1 hu⟩, fun g3 => ⟨_, Same.seq s1 hl, _, at_refs (i := 0) rfl, _, Same.seq s1 hl, _, at_refs (i := 1) rfl, q0, q1, ⟨r, t, Lx.clampN x, Lx.clampN y, Lx.clampN c⟩, rfl, SqL.of (s1 _ _ h0), SqL.of (s1 _ _ h1), fun p2 H2 s2 h2 => ?_⟩⟩
      · rw [hwn, decide_eq_false g3, Bool.and_false, Bool.and_false]
        rfl
      · refine k p2 H2 (Same.trans s1 s2) ?_
        rw [hwn, decide_eq_true g1, decide_eq_true g2, decide_eq_true g3]
        exact h2
/-! is_told -/
abbrev s_ist : Stmt := top 41
theorem sc_ist : FnScope ["words", "word", "other"] ["words", "word"] (defScope s_ist) := ⟨rfl, rfl, rfl, by decide +kernel, rfl, by decide +kernel, by decide +kernel⟩
def sp_ist (K : PySem.W.Frag) : Sp := fun vs H Q _ => ∃ (a b : Addr) (as : List Addr) (ws : List Sy.Word) (u : Sy.Word), vs = [.ref a, .ref b] ∧ SqL K H a (as.map V.ref) ∧ WordsAt H as ws ∧ WordAt H b u ∧ ∀ H', Same H H' → Q (.bl (ws.any fun q => q.same u)) H'
theorem ok_ist (D : DefAt K mg "is_told" s_ist ["words", "word"]) (G : C8.Cal P w K mg base 1 "has_name" (sp_hasn K) []) : C8.Cal P w K mg base 2 "is_told" (sp_ist K) [] := by
  refine cal_of D sc_ist (fun vs H Q E h => ?_) (fun f cdv A outer s H vs Q E hr h => ?_)
  · obtain ⟨a, b, as, ws, u, rfl, _⟩ := h
    rfl
  · obtain ⟨a, b, as, ws, u, rfl, hl, hw, hu, k⟩ := h
    obtain ⟨r, t, hu1, hu2, hu3⟩ := id hu
    refine ⟨_, pss_cons (ps_for PassesOwn.never rfl (pi_list (pv 0)) (pg_name (i := 2) sc_ist.nd rfl (.inl rfl)) (pss_one (ps_if (pt_val (C8.pe_c G hr (by decide) rfl (pa_cons (pv 2) (pa_cons (pe_ix ix_tup (pv 1) pe_int (fun _ _ => rfl)) (pa_cons (pe_ix ix_tup (pv 1) pe_int (fun _ _ => rfl)) pa_nil))))) (pss_one (ps_ret pe_bl)) pss_nil)))
      (pss_one (ps_ret pe_bl)), ?_⟩
    refine sforL (xs := as.map V.ref) rfl hl (fun i σ H' => (∃ v, σ = [some (.ref a), some (.ref b), v]) ∧ Same H H' ∧ (ws.take i).all (fun q => !q.same u) = true) ⟨⟨_, rfl⟩, Same.refl H, rfl⟩ (fun i σ H' _ p => Same.seq p.2.1 hl) ?_ ?_
    · rintro i x σ H' hi ⟨⟨v, rfl⟩, sm, ha⟩
      obtain ⟨ai, hai, rfl⟩ : ∃ ai, as[i]? = some ai ∧ x = V.ref ai := by
        rw [List.getElem?_map] at hi
        cases ea : as[i]? with
        | none => rw [ea] at hi; cases hi
        | some ai => rw [ea] at hi; exact ⟨ai, rfl, (Option.some.inj hi).symm⟩
      obtain ⟨a', w', ha', hw', hword⟩ := WordsAt.at (i := i) hw (List.getElem?_eq_some_iff.mp hai).1
      have eai : a' = ai := Option.some.inj (ha'.symm.trans hai)
      subst eai
      walk_at "sx"
      refine ⟨_, SqT.of (sm _ _ hu1), _, atI_nat (j := 0) rfl, _, SqT.of (sm _ _ hu1), _, atI_nat (j := 2) rfl, a', w', _, _, u.reading, u.text, rfl, WordAt.same sm hword, ⟨r, rfl, .inr (SqT.of (sm _ _ hu2))⟩, ⟨t, rfl, .inr (SqT.of (sm _ _ hu3))⟩, fun H2 s2 => ?_⟩
      walk_at "sx"
      refine ⟨fun g => ?_, fun g => ⟨Same.trans sm s2, Lx.wall_more hw' ha ?_⟩⟩
      · have q := k H2 (Same.trans sm s2)
        have e : (ws.any fun q => q.same u) = true := List.any_eq_true.mpr ⟨w', List.mem_of_getElem? hw', g⟩
        rw [e] at q
        exact q
      · have e : w'.same u = false := g
        rw [e]
        rfl
    · rintro σ H' ⟨⟨v, rfl⟩, sm, ha⟩
      rw [List.length_map, WordsAt.len hw, List.take_length] at ha
      walk_at "sx"
      have q := k H' sm
      have e : (ws.any fun q => q.same u) = false := by
        rw [List.any_eq_false]
        intro x hx
        have := List.all_eq_true.mp ha x hx
        rw [Bool.not_eq_true'] at this
        rw [this]
        decide
      rw [e] at q
      exact q
/-! decimal_bytes -/
abbrev s_decb : Stmt := top 42
theorem sc_decb : FnScope ["number", "found"] ["number"] (defScope s_decb) := ⟨rfl, rfl, rfl, by decide +kernel, rfl, by decide +kernel, by decide +kernel⟩
def sp_decb : Sp := fun vs H Q _ => ∃ n : Nat, vs = [.int (n : Int)] ∧ n ≤ 1000000 ∧ RNew (vN (Lx.decN n)) H Q
theorem ok_decb (D : DefAt K mg "decimal_bytes" s_decb ["number"]) (T : Txt mg) : C8.Cal P w K mg base 1 "decimal_bytes" sp_decb [] := by
  refine cal_of D sc_decb (fun vs H Q E h => ?_) (fun f cdv A outer s H vs Q E hr h => ?_)
  · obtain ⟨n, rfl, _⟩ := h
    rfl
  · obtain ⟨n, rfl, hn, k⟩ := h
    refine ⟨_, pss_cons (ps_set (i := 1) sc_decb.nd rfl (.inl rfl) (pe_lst (pa_cons (pe_op op_add (pe_gi rfl T.zero) (pe_op op_mod (pv 0) pe_int)) pa_nil)))
      (pss_cons (ps_while PassesOwn.never (pt_cmpR op_ge (pv 0) pe_int (nomark _)) (pss_cons (ps_set (i := 0) sc_decb.nd rfl (.inl rfl) (pe_op op_fdiv (pv 0) pe_int))
        (pss_one (ps_set (i := 1) sc_decb.nd rfl (.inl rfl) (pe_op op_cat (pe_lst (pa_cons (pe_op op_add (pe_gi rfl T.zero) (pe_op op_mod (pv 0) pe_int)) pa_nil)) (pv 1))))))
      (pss_one (ps_ret (pv 1)))), ?_⟩
    walk_at "sx"
    refine ⟨by decide, by decide, fun p hp => ?_⟩
    refine while_by (fun σ H' => ∃ (m : Nat) (q : Addr) (fs : List Nat), σ = [some (.int (m : Int)), some (.ref q)] ∧ Same H H' ∧ H q = none ∧ H' q = some (.lst (vN fs)) ∧ Lx.decN n = Lx.decH m ++ fs ∧ m + fs.length ≤ n + 1)
      (fun σ _ => match σ with | some (.int i) :: _ => i.toNat | _ => 0) ⟨n, p, [48 + n % 10], rfl, Same.new hp, hp, upd_same, Lx.dec_eq n, Nat.le_refl _⟩ ?_ ?_
    · rintro σ H' ⟨m, q, fs, rfl, sm, hq0, hq, e, hz⟩
      walk_at "sx"
      refine ⟨fun g => ⟨⟨by decide, by decide⟩, by decide, by decide, fun p1 hp1 => ?_⟩, fun g => ?_⟩
      · have s1 := Same.new (o := .lst [V.int (48 + (m : Int) / 10 % 10)]) hp1
        refine ⟨_, upd_same, _, s1 _ _ hq, by rw [vN_len]; simp only [List.length_cons, List.length_nil]; exact szl (by omega), fun p2 hp2 => ?_⟩
        have s2 := Same.trans sm (Same.trans s1 (Same.new (o := .lst ([V.int (48 + (m : Int) / 10 % 10)] ++ vN fs)) hp2))
        have hne : (0 : Nat) < 10 := by decide
        refine ⟨⟨m / 10, p2, ⟨by omega, rfl⟩, s2, ?_, (48 + m / 10 % 10) :: fs, by rw [upd_same]; rfl, ?_, ?_⟩, by omega⟩
        · exact Same.free sm (Same.free s1 hp2)
        · have e2 : Lx.decH m = Lx.decN (m / 10) := by
            unfold Lx.decH
            rw [if_neg (by omega)]
          rw [e, e2, Lx.dec_eq (m / 10), List.append_assoc]
          rfl
        · rw [List.length_cons]
          omega
      · have e2 : Lx.decN n = fs := by
          rw [e]
          unfold Lx.decH
          rw [if_pos (by omega)]
          rfl
        rw [e2] at k
        exact k q H' hq0 sm hq
    · intro σ H Q Q' hq h
      obtain ⟨v, h1, i, j, e1, e2, k2, e3, hh⟩ := h
      exact ⟨v, h1, i, j, e1, e2, k2, e3, hq _ _ hh⟩
/-! line_bytes -/
abbrev s_lineb : Stmt := top 43
theorem sc_lineb : FnScope ["word", "reading", "cost", "text", "left", "right", "found", "number"] ["word"] (defScope s_lineb) := ⟨rfl, rfl, rfl, by decide +kernel, rfl, by decide +kernel, by decide +kernel⟩
def Small (u : Sy.Word) : Prop := u.reading.length ≤ 32 ∧ u.text.length ≤ 32 ∧ u.left ≤ 255 ∧ u.right ≤ 255 ∧ u.cost ≤ 65535
def sp_lineb : Sp := fun vs H Q _ => ∃ (a : Addr) (u : Sy.Word), vs = [.ref a] ∧ WordAt H a u ∧ Small u ∧ RNew (vN (Lx.lineN u)) H Q
theorem ok_lineb (D : DefAt K mg "line_bytes" s_lineb ["word"]) (T : Txt mg) (G1 : C8.Cal P w K mg base 2 "row_bytes" (sp_rowb K) []) (G2 : C8.Cal P w K mg base 1 "decimal_bytes" sp_decb []) : C8.Cal P w K mg base 3 "line_bytes" sp_lineb [] := by
  refine cal_of D sc_lineb (fun vs H Q E h => ?_) (fun f cdv A outer s H vs Q E hr h => ?_)
  · obtain ⟨a, u, rfl, _⟩ := h
    rfl
  · obtain ⟨a, u, rfl, ⟨r, t, hu1, hu2, hu3⟩, ⟨z1, z2, z3, z4, z5⟩, k⟩ := h
    refine ⟨_, pss_cons (ps_asg (pv 0) (pg_tup (n := 5) rfl (pgs_cons (pg_name (i := 1) sc_lineb.nd rfl (.inl rfl)) (pgs_cons (pg_name (i := 2) sc_lineb.nd rfl (.inl rfl)) (pgs_cons (pg_name (i := 3) sc_lineb.nd rfl (.inl rfl)) (pgs_cons (pg_name (i := 4) sc_lineb.nd rfl (.inl rfl)) (pgs_cons (pg_name (i := 5) sc_lineb.nd rfl (.inl rfl)) pgs_nil)))))))
      (pss_cons (ps_set (i := 6) sc_lineb.nd rfl (.inl rfl) (pe_op op_cat (pe_op op_cat (C8.pe_c G1 hr (by decide) rfl (pa_cons (pv 1) pa_nil)) (pe_lst (pa_cons (pe_gi rfl T.blank) pa_nil))) (C8.pe_c G1 hr (by decide) rfl (pa_cons (pv 3) pa_nil))))
      (pss_cons (ps_for PassesOwn.never rfl (pi_list (pe_lst (pa_cons (pv 4) (pa_cons (pv 5) (pa_cons (pv 2) pa_nil))))) (pg_name (i := 7) sc_lineb.nd rfl (.inl rfl)) (pss_one (ps_set (i := 6) sc_lineb.nd rfl (.inl rfl) (pe_op op_cat (pe_op op_cat (pv 6) (pe_lst (pa_cons (pe_gi rfl T.blank) pa_nil))) (C8.pe_c G2 hr (by decide) rfl (pa_cons (pv 7) pa_nil))))))
      (pss_one (ps_ret (pe_op op_cat (pv 6) (pe_lst (pa_cons (pe_gi rfl T.feed) pa_nil))))))), ?_⟩
    have hb1 := Lx.cbs_len u.reading
    have hb2 := Lx.cbs_len u.text
    walk_at "sx"
    refine ⟨_, SqT.of hu1, rfl, _, _, rfl, _, _, rfl, _, _, rfl, _, _, rfl, _, _, rfl, rfl, ?_⟩
    refine ⟨r, u.reading, rfl, SqT.of hu2, by omega, fun p1 H1 hp1 s1 h1 => ?_⟩
    walk_at "sx"
    refine ⟨by decide, fun p2 hp2 => ?_⟩
    have s2 := Same.new (o := .lst [V.int 32]) hp2
    refine ⟨_, s2 _ _ h1, _, upd_same, by rw [vN_len]; simp only [List.length_cons, List.length_nil]; exact szl (by omega), fun p3 hp3 => ?_⟩
    have s3 := Same.new (o := .lst (vN (Lx.cbs u.reading) ++ [V.int 32])) hp3
    have s03 := Same.trans s1 (Same.trans s2 s3)
    refine ⟨t, u.text, rfl, SqT.of (s03 _ _ hu3), by omega, fun p4 H4 hp4 s4 h4 => ?_⟩
    walk_at "sx"
    refine ⟨_, s4 _ _ upd_same, _, h4, by rw [List.length_append, vN_len, vN_len]; simp only [List.length_cons, List.length_nil]; exact szl (by omega), fun p5 hp5 => ?_⟩
    have s5 := Same.new (o := .lst (vN (Lx.cbs u.reading) ++ [V.int 32] ++ vN (Lx.cbs u.text))) hp5
    have s05 := Same.trans s03 (Same.trans s4 s5)
    have hbase : (vN (Lx.cbs u.reading) ++ [V.int 32] ++ vN (Lx.cbs u.text)) = vN (Lx.cbs u.reading ++ [32] ++ Lx.cbs u.text) := by
      rw [vN_app, vN_app]
      rfl
    have hbl : (Lx.cbs u.reading ++ [32] ++ Lx.cbs u.text).length ≤ 300 := by
      rw [List.length_append, List.length_append, List.length_singleton]
      omega
    have hfin : Lx.lineN u = (Lx.cbs u.reading ++ [32] ++ Lx.cbs u.text) ++ ([u.left, u.right, u.cost].flatMap fun n => 32 :: Lx.decN n) ++ [10] := by
      unfold Lx.lineN
      rw [List.append_assoc (Lx.cbs u.reading ++ [32] ++ Lx.cbs u.text)]
    rw [hbase]
    rw [hbase] at s5 s05
    generalize Lx.cbs u.reading ++ [32] ++ Lx.cbs u.text = bb at hbl hfin s5 s05
    have hq5 : H p5 = none := Same.free (Same.trans s03 s4) hp5
    refine sforNew (l := [u.left, u.right, u.cost]) (fun R q => ?_) (fun p6 hp6 => ⟨fun i σ H' => ∃ (q : Addr) (fs : List Nat) (v : Option V), σ = [some (.ref a), some (.ref r), some (.int (u.cost : Int)), some (.ref t), some (.int (u.left : Int)), some (.int (u.right : Int)), some (.ref q), v] ∧ Same H H' ∧ H q = none ∧ H' q = some (.lst (vN fs)) ∧
        H' p6 = some (.lst (vN [u.left, u.right, u.cost])) ∧ fs = bb ++ (([u.left, u.right, u.cost].take i).flatMap fun n => 32 :: Lx.decN n) ∧ fs.length ≤ 300 + 10 * i,
      ⟨p5, bb, none, rfl, Same.trans s05 (Same.new hp6), hq5, Same.new hp6 _ _ upd_same, upd_same, by simp, by omega⟩, fun i σ H' _ q => q.choose_spec.choose_spec.choose_spec.2.2.2.2.1, ?_, ?_⟩)
    · walk_at "sx"
      exact ⟨by decide, fun p hp => q p hp⟩
    · rintro i n σ H' hi ⟨q, fs, v, rfl, sm, hq0, hq, h6, hfs, hfl⟩
      have hi3 : i < 3 := (List.getElem?_eq_some_iff.mp hi).1
      have hn : n ≤ 65535 := by
        have := List.mem_of_getElem? hi
        simp only [List.mem_cons, List.not_mem_nil, or_false] at this
        omega
      have hdl := Lx.dec_len 5 n (by omega)
      walk_at "sx"
      refine ⟨by decide, fun b1 hb1 => ?_⟩
      have t1 := Same.new (o := .lst [V.int 32]) hb1
      refine ⟨_, t1 _ _ hq, _, upd_same, by rw [vN_len]; simp only [List.length_cons, List.length_nil]; exact szl (by omega), fun b2 hb2 => ?_⟩
      have t2 := Same.new (o := .lst (vN fs ++ [V.int 32])) hb2
      refine ⟨n, rfl, by omega, fun b3 H3 hb3 t3 h3 => ?_⟩
      walk_at "sx"
      refine ⟨_, t3 _ _ upd_same, _, h3, by rw [List.length_append, vN_len, vN_len]; simp only [List.length_cons, List.length_nil]; exact szl (by omega), fun b4 hb4 => ?_⟩
      have t4 := Same.new (o := .lst (vN fs ++ [V.int 32] ++ vN (Lx.decN n))) hb4
      have t03 := Same.trans t1 (Same.trans t2 t3)
      refine ⟨Same.trans sm (Same.trans t03 t4), Same.free (Same.trans sm t03) hb4, fs ++ 32 :: Lx.decN n, ?_, Same.trans t03 t4 _ _ h6, ?_, ?_⟩
      · rw [upd_same, List.append_assoc, vN_app]
        rfl
      · rw [take_more hi, List.flatMap_append, hfs, List.append_assoc]
        simp only [List.flatMap_cons, List.flatMap_nil, List.append_nil]
      · rw [List.length_append, List.length_cons]
        omega
    · rintro σ H' ⟨q, fs, v, rfl, sm, hq0, hq, h6, hfs, hfl⟩
      walk_at "sx"
      refine ⟨by decide, fun b1 hb1 => ?_⟩
      have t1 := Same.new (o := .lst [V.int 10]) hb1
      refine ⟨_, t1 _ _ hq, _, upd_same, by rw [vN_len]; simp only [List.length_cons, List.length_nil] at hfl ⊢; exact szl (by omega), fun b2 hb2 => ?_⟩
      have t2 := Same.new (o := .lst (vN fs ++ [V.int 10])) hb2
      have t02 := Same.trans sm (Same.trans t1 t2)
      refine k b2 _ (Same.free sm (Same.free t1 hb2)) t02 ?_
      rw [List.take_length] at hfs
      rw [upd_same, hfin, ← hfs, vN_app]
      rfl
end
end Sx
/-! ## W10 -/
namespace Sx
open PySem PySem.Spec PyProof.Rows L2
theorem rNeD_nil {K : PySem.W.Frag} {H : Hp} {a b : Addr} {l : List Nat} {Q : VK} (h1 : SqL K H a (vN l)) (h2 : SqL K H b []) (q : Q (.bl (!l.isEmpty)) H) : rNeD K (.ref a) (.ref b) H Q := by
  obtain ⟨d, e, g1, g2, g3, g4, g5⟩ := rEqD_nil (Q := fun v _ => v = .bl l.isEmpty) h1 h2 rfl
  exact ⟨d, e, g1, g2, g3, g4, by rw [V.bl.inj g5]; exact q⟩
theorem TwoAt.same {H H' : Hp} (e : Same H H') {p : Addr} {o : Option (List (List Nat))} (h : TwoAt H p o) : TwoAt H' p o := by
  cases o with
  | none => exact (e _ _ h : _ = _)
  | some t =>
    obtain ⟨q, qs, g1, g2, g3⟩ := h
    exact ⟨q, qs, e _ _ g1, e _ _ g2, RowsAt.same e g3⟩
theorem OptAt.same {H H' : Hp} (e : Same H H') {p : Addr} {o : Option Sy.Word} (h : OptAt H p o) : OptAt H' p o := by
  cases o with
  | none => exact (e _ _ h : _ = _)
  | some t => exact WordAt.same e h
theorem drop_at {α : Type} {l : List α} {i : Nat} {x : α} (h : l[i]? = some x) : l.drop i = x :: l.drop (i + 1) := by
  obtain ⟨hi, e⟩ := List.getElem?_eq_some_iff.mp h
  rw [List.drop_eq_getElem_cons hi, e]
theorem WordAt.upd_lst {H : Hp} {p a : Addr} {xs ys : List V} {w : Sy.Word} (hp : H p = some (.lst xs)) (h : WordAt H a w) : WordAt (upd H p (.lst ys)) a w := by
  obtain ⟨r, t, h1, h2, h3⟩ := h
  exact ⟨r, t, by rw [upd_ne (ne_of h1 hp (by intro z; cases z))]; exact h1, by rw [upd_ne (ne_of h2 hp (by intro z; cases z))]; exact h2, by rw [upd_ne (ne_of h3 hp (by intro z; cases z))]; exact h3⟩
theorem RowsAt.notin : ∀ {H : Hp} {p : Addr} {qs : List Addr} {nss : List (List Nat)}, RowsAt H qs nss → H p = none → p ∉ qs
  | _, _, _, _, .nil, _ => by simp
  | _, _, _, _, .cons e t, hp => by
    intro h
    rcases List.mem_cons.mp h with rfl | h
    · rw [hp] at e
      cases e
    · exact RowsAt.notin t hp h
section
variable {P : Program} {w : World} {K : PySem.W.Frag} {mg : PySem.Str → Option Value} {base : Heap}
/-! fault_of -/
abbrev s_fault : Stmt := top 46
theorem sc_fault : FnScope ["line", "words", "parts", "word"] ["line", "words"] (defScope s_fault) := ⟨rfl, rfl, rfl, by decide +kernel, rfl, by decide +kernel, by decide +kernel⟩
def sp_fault (K : PySem.W.Frag) : Sp := fun vs H Q _ => ∃ (a b : Addr) (l : List Nat) (as : List Addr) (ws : List Sy.Word), vs = [.ref a, .ref b] ∧ SqL K H a (vN l) ∧ l.length ≤ 100000 ∧ (∀ x ∈ l, x < 256) ∧ SqL K H b (as.map V.ref) ∧ WordsAt H as ws ∧ ws.length ≤ 1000 ∧
  ∀ H', Same H H' → Q (.int (Lx.faultN l ws : Int)) H'
theorem ok_fault (D : DefAt K mg "fault_of" s_fault ["line", "words"]) (T : Txt mg) (G1 : C8.Cal P w K mg base 5 "parts_of" (sp_pof K) []) (G2 : C8.Cal P w K mg base 3 "word_of" (sp_wof K) []) (G3 : C8.Cal P w K mg base 2 "is_told" (sp_ist K) []) :
    C8.Cal P w K mg base 6 "fault_of" (sp_fault K) [] := by
  refine cal_of D sc_fault (fun vs H Q E h => ?_) (fun f cdv A outer s H vs Q E hr h => ?_)
  · obtain ⟨a, b, l, as, ws, rfl, _⟩ := h
    rfl
  · obtain ⟨a, b, l, as, ws, rfl, hl, hz, hb, hws, hww, hwz, k⟩ := h
    refine ⟨_, pss_cons (ps_set (i := 2) sc_fault.nd rfl (.inl rfl) (C8.pe_c G1 hr (by decide) rfl (pa_cons (pv 0) pa_nil)))
      (pss_cons (ps_if (pt_cmpR (op_eqD hr.units) (pv 2) (pe_lst pa_nil) (nomark _)) (pss_one (ps_ret pe_int)) pss_nil)
      (pss_cons (ps_set (i := 3) sc_fault.nd rfl (.inl rfl) (C8.pe_c G2 hr (by decide) rfl (pa_cons (pe_ix ix_list (pv 2) pe_int (fun _ _ => rfl)) pa_nil)))
      (pss_cons (ps_if (pt_cmpR (op_eqD hr.units) (pv 3) (pe_tup pa_nil) (nomark _)) (pss_one (ps_ret pe_int)) pss_nil)
      (pss_cons (ps_if (pt_val (C8.pe_c G3 hr (by decide) rfl (pa_cons (pv 1) (pa_cons (pv 3) pa_nil)))) (pss_one (ps_ret pe_int)) pss_nil)
      (pss_cons (ps_if (pt_cmpR op_eq (pe_callB call_len_seq (by rfl) T.len PySem.boot_len (pa_cons (pv 1) pa_nil)) (pe_gi rfl T.mwr) (nomark _)) (pss_one (ps_ret pe_int)) pss_nil)
      (pss_one (ps_ret pe_int))))))), ?_⟩
    walk_at "sx"
    refine ⟨a, l, rfl, hl, hz, hb, fun p1 H1 s1 hp1 h1 => ?_⟩
    walk_at "sx"
    refine ⟨Nat.zero_le _, fun e1 he1 => ?_⟩
    have n1 := Same.new (o := .lst []) he1
    have s2 := Same.trans s1 n1
    refine rEqD_two (TwoAt.same n1 h1) (SqL.of upd_same) ?_
    have hfa : Lx.faultN l ws = match Lx.partsN l with
      | none => 1
      | some nss => match Lx.wordN nss with
        | none => 2
        | some u => if ws.any (fun q => q.same u) = true then 3 else if ws.length = 128 then 4 else 0 := rfl
    cases ec : Lx.partsN l with
    | none =>
      rw [ec] at hfa
      walk_at "sx"
      have q := k _ s2
      rw [hfa] at q
      exact q
    | some nss =>
      rw [ec] at hfa h1
      obtain ⟨q1, qs, g1, g2, g3⟩ := TwoAt.same n1 h1
      walk_at "sx"
      refine ⟨_, SqL.of g1, _, atI_nat (j := 0) rfl, q1, qs, nss, rfl, SqL.of g2, g3, Lx.parts_ok ec, fun p2 H2 s3 h2 => ?_⟩
      have s03 := Same.trans s2 s3
      walk_at "sx"
      refine ⟨Nat.zero_le _, fun e2 he2 => ?_⟩
      have n2 := Same.new (o := .tup []) he2
      have s04 := Same.trans s03 n2
      refine rEqD_opt (OptAt.same n2 h2) (SqT.of upd_same) ?_
      cases ew : Lx.wordN nss with
      | none =>
        simp only [ew] at hfa
        walk_at "sx"
        have q := k _ s04
        rw [hfa] at q
        exact q
      | some u =>
        simp only [ew] at hfa
        rw [ew] at h2
        walk_at "sx"
        refine ⟨b, p2, as, ws, u, rfl, Same.seq s04 hws, WordsAt.same s04 hww, WordAt.same n2 h2, fun H4 s5 => ?_⟩
        have s05 := Same.trans s04 s5
        have hbl : (as.map V.ref).length = ws.length := by rw [List.length_map, WordsAt.len hww]
        have q := k _ s05
        rw [hfa] at q
        walk_at "sx"
        refine ⟨fun g => ?_, fun g => ⟨_, .inl (Same.seq s05 hws), ?_⟩⟩
        · rw [if_pos g] at q
          exact q
        · rw [if_neg (by rw [g]; decide)] at q
          rw [hbl]
          refine ⟨fun g2 => ?_, fun g2 => ?_⟩
          · rw [if_pos (by omega)] at q
            exact q
          · rw [if_neg (by omega)] at q
            exact q
/-! read_words -/
abbrev s_readw : Stmt := top 47
theorem sc_readw : FnScope ["row", "lines", "words", "at", "kind"] ["row"] (defScope s_readw) := ⟨rfl, rfl, rfl, by decide +kernel, rfl, by decide +kernel, by decide +kernel⟩
/-- what read_words answers -/
def readR (l : List Nat) : List Sy.Word × Nat × Nat := Lx.readGo (Lx.parN 10 l) 0 []
def sp_readw (K : PySem.W.Frag) : Sp := fun vs H Q _ => ∃ (a : Addr) (l : List Nat), vs = [.ref a] ∧ SqL K H a (vN l) ∧ l.length ≤ 100000 ∧ (∀ x ∈ l, x < 256) ∧
  ∀ p p2 as H', Same H H' → H p = none → H' p = some (.lst [.ref p2, .int ((readR l).2.1 : Int), .int ((readR l).2.2 : Int)]) → H' p2 = some (.lst (as.map V.ref)) → WordsAt H' as (readR l).1 → (readR l).1.length ≤ 128 → Q (.ref p) H'
theorem ok_readw (D : DefAt K mg "read_words" s_readw ["row"]) (T : Txt mg) (G1 : C8.Cal P w K mg base 5 "parts_of" (sp_pof K) []) (G2 : C8.Cal P w K mg base 3 "word_of" (sp_wof K) []) (G3 : C8.Cal P w K mg base 6 "fault_of" (sp_fault K) []) (G4 : C8.Cal P w K mg base 1 "parted" (sp_par K) []) :
    C8.Cal P w K mg base 7 "read_words" (sp_readw K) [] := by
  refine cal_of D sc_readw (fun vs H Q E h => ?_) (fun f cdv A outer s H vs Q E hr h => ?_)
  · obtain ⟨a, l, rfl, _⟩ := h
    rfl
  · obtain ⟨a, l, rfl, hl, hz, hb, k⟩ := h
    refine ⟨_, pss_cons (ps_set (i := 1) sc_readw.nd rfl (.inl rfl) (C8.pe_c G4 hr (by decide) rfl (pa_cons (pv 0) (pa_cons (pe_gi rfl T.feed) pa_nil))))
      (pss_cons (ps_set (i := 2) sc_readw.nd rfl (.inl rfl) (pe_lst pa_nil))
      (pss_cons (ps_for PassesOwn.never rfl (pi_range1 rfl T.range (pa_cons (pe_op op_sub (pe_callB call_len_seq (by rfl) T.len PySem.boot_len (pa_cons (pv 1) pa_nil)) pe_int) pa_nil)) (pg_name (i := 3) sc_readw.nd rfl (.inl rfl))
        (pss_cons (ps_set (i := 4) sc_readw.nd rfl (.inl rfl) (C8.pe_c G3 hr (by decide) rfl (pa_cons (pe_ix ix_list (pv 1) (pv 3) (fun _ _ => rfl)) (pa_cons (pv 2) pa_nil))))
        (pss_cons (ps_if (pt_cmpR op_gt (pv 4) pe_int (nomark _)) (pss_one (ps_ret (pe_lst (pa_cons (pv 2) (pa_cons (pv 3) (pa_cons (pv 4) pa_nil)))))) pss_nil)
        (pss_one (ps_expr (pe_bm PySem.F.plainAttrs_list PySem.F.slot_list_append PySem.F.type_list_append mt_append (pv 2)
          (pa_cons (C8.pe_c G2 hr (by decide) rfl (pa_cons (pe_ix ix_list (C8.pe_c G1 hr (by decide) rfl (pa_cons (pe_ix ix_list (pv 1) (pv 3) (fun _ _ => rfl)) pa_nil)) pe_int (fun _ _ => rfl)) pa_nil)) pa_nil)))))))
      (pss_cons (ps_if (pt_cmpR (op_neD hr.units) (pe_ix ix_list (pv 1) (pe_op op_sub (pe_callB call_len_seq (by rfl) T.len PySem.boot_len (pa_cons (pv 1) pa_nil)) pe_int) (fun _ _ => rfl)) (pe_lst pa_nil) (nomark _))
        (pss_one (ps_ret (pe_lst (pa_cons (pv 2) (pa_cons (pe_op op_sub (pe_callB call_len_seq (by rfl) T.len PySem.boot_len (pa_cons (pv 1) pa_nil)) pe_int) (pa_cons pe_int pa_nil)))))) pss_nil)
      (pss_one (ps_ret (pe_lst (pa_cons (pv 2) (pa_cons pe_int (pa_cons pe_int pa_nil))))))))), ?_⟩
    walk_at "sx"
    refine ⟨a, l, 10, rfl, hl, hz, fun p1 qs H1 s1 hp1 h1 hrows => ?_⟩
    have hne := Lx.par_ne 10 l
    have hmem : ∀ m ∈ Lx.parN 10 l, (∀ x ∈ m, x < 256) ∧ m.length ≤ 100000 := fun m hm => by
      obtain ⟨g1, g2⟩ := Lx.par_mem hm
      exact ⟨fun x hx => hb x (g1 x hx), by omega⟩
    have hpl := Lx.par_len 10 l
    have hk := k
    unfold readR at hk
    generalize Lx.parN 10 l = ll at hne hmem hrows hpl hk
    have hql := RowsAt.len hrows
    obtain ⟨n, hn⟩ : ∃ n, ll.length = n + 1 := ⟨ll.length - 1, by cases ll with | nil => exact absurd rfl hne | cons _ _ => rfl⟩
    walk_at "sx"
    refine ⟨Nat.zero_le _, fun p2 hp2 => ?_⟩
    have n2 := Same.new (o := .lst []) hp2
    have hni : p2 ∉ qs := RowsAt.notin hrows hp2
    have h12 : p1 ≠ p2 := ne_of_none h1 hp2
    have hp20 : H p2 = none := Same.free s1 hp2
    refine sforR (n := n) (fun R q => ?_) (by omega) (fun i σ H' => ∃ (v1 v2 : Option V) (as : List Addr) (ws : List Sy.Word), σ = [some (.ref a), some (.ref p1), some (.ref p2), v1, v2] ∧ Same H H' ∧ H' p1 = some (.lst (qs.map V.ref)) ∧ RowsAt H' qs ll ∧ H' p2 = some (.lst (as.map V.ref)) ∧ WordsAt H' as ws ∧ ws.length ≤ 128 ∧
        Lx.readGo ll 0 [] = Lx.readGo (ll.drop i) i ws)
      ⟨none, none, [], [], rfl, Same.trans s1 n2, n2 _ _ h1, RowsAt.same n2 hrows, upd_same, .nil, Nat.zero_le _, rfl⟩ ?_ ?_
    · walk_at "sx"
      refine ⟨_, .inl (SqL.of (n2 _ _ h1)), ?_⟩
      rw [List.length_map, hql, hn]
      rw [show ((n + 1 : Nat) : Int) - 1 = (n : Int) by omega]
      exact q
    · rintro i σ H' hi ⟨v1, v2, as, ws, rfl, sm, g1, g2, g3, g4, hwl, hgo⟩
      obtain ⟨q, m, e1, e2, e3⟩ := RowsAt.get (i := i) g2 (by omega)
      obtain ⟨e4, e5⟩ := hmem m (List.mem_of_getElem? e2)
      obtain ⟨m2, e6⟩ : ∃ m2, ll[i + 1]? = some m2 := ⟨_, List.getElem?_eq_getElem (by omega)⟩
      have hdr : ll.drop i = m :: m2 :: ll.drop (i + 2) := by
        rw [drop_at e2, drop_at e6]
      have hgo2 : Lx.readGo (ll.drop i) i ws = if 0 < Lx.faultN m ws then (ws, i, Lx.faultN m ws) else match Lx.lineW m with
          | some u => Lx.readGo (m2 :: ll.drop (i + 2)) (i + 1) (ws ++ [u])
          | none => (ws, i, 1) := by
        rw [hdr]
        rfl
      have hwz := WordsAt.len g4
      walk_at "sx"
      refine ⟨_, SqL.of g1, _, at_refs e1, q, p2, m, as, ws, rfl, SqL.of e3, e5, e4, SqL.of g3, g4, by omega, fun H2 s2 => ?_⟩
      have s02 := Same.trans sm s2
      walk_at "sx"
      refine ⟨fun g => ⟨by decide, fun p hp => ?_⟩, fun g => ⟨ty_list (s2 _ _ g3), _, SqL.of (s2 _ _ g1), _, at_refs e1, q, m, rfl, SqL.of (s2 _ _ e3), e5, e4, fun p3 H3 s3 hp3 h3 => ?_⟩⟩
      · rw [hgo, hgo2, if_pos (by omega)] at hk
        have s4 := Same.new (o := .lst [V.ref p2, V.int (i : Int), V.int (Lx.faultN m ws : Int)]) hp
        exact hk p p2 as _ (Same.trans s02 s4) (Same.free s02 hp) upd_same (s4 _ _ (s2 _ _ g3)) (WordsAt.same (Same.trans s2 s4) g4) hwl
      · obtain ⟨nss, u, f1, f2, f3, f4, f5⟩ := Lx.fault_zero (l := m) (ws := ws) (by omega)
        rw [f1] at h3
        obtain ⟨q1, qs1, j1, j2, j3⟩ := h3
        refine ⟨_, rfl, _, SqL.of j1, _, atI_nat (j := 0) rfl, q1, qs1, nss, rfl, SqL.of j2, j3, Lx.parts_ok f1, fun p4 H4 s4 h4 => ?_⟩
        rw [f2] at h4
        have s24 := Same.trans s2 (Same.trans s3 s4)
        have g34 := s24 _ _ g3
        refine ⟨_, g34, by rw [List.length_map]; exact szt (by omega), ?_⟩
        refine ⟨Same.mut (Same.trans sm s24) hp20, by rw [upd_ne h12]; exact s24 _ _ g1, RowsAt.other hni (RowsAt.same s24 g2), as ++ [p4], by rw [upd_same, List.map_append]; rfl, ws ++ [u], ?_, by rw [List.length_append, List.length_singleton]; omega, ?_⟩
        · exact Paired.snoc (Paired.mapP (WordsAt.same s24 g4) fun _ _ z => WordAt.upd_lst g34 z) (WordAt.upd_lst g34 h4)
        · rw [hgo, hgo2, if_neg (by omega), f3, drop_at e6]
    · rintro σ H' ⟨v1, v2, as, ws, rfl, sm, g1, g2, g3, g4, hwl, hgo⟩
      obtain ⟨q, m, e1, e2, e3⟩ := RowsAt.get (i := n) g2 (by omega)
      have hdr : ll.drop n = [m] := by
        rw [drop_at e2, List.drop_eq_nil_of_le (by omega)]
      rw [hgo, hdr] at hk
      have hgo2 : Lx.readGo [m] n ws = if m = [] then (ws, 0, 0) else (ws, n, 1) := rfl
      rw [hgo2] at hk
      have hnn : ((List.map V.ref qs).length : Int) - 1 = (n : Int) := by
        rw [List.length_map]
        omega
      walk_at "sx"
      refine ⟨_, .inl (SqL.of g1), _, SqL.of g1, ?_⟩
      rw [hnn]
      refine ⟨_, at_refs e1, Nat.zero_le _, fun b1 hb1 => ?_⟩
      have t1 := Same.new (o := .lst []) hb1
      refine rNeD_nil (SqL.of (t1 _ _ e3)) (SqL.of upd_same) ?_
      have s01 := Same.trans sm t1
      walk_at "sx"
      refine ⟨fun g => ?_, fun g => ?_⟩
      · rw [if_neg (by rintro rfl; cases g)] at hk
        refine ⟨_, .inl (SqL.of (t1 _ _ g1)), ?_⟩
        rw [hnn]
        refine ⟨by decide, fun p hp => ?_⟩
        have s4 := Same.new (o := .lst [V.ref p2, V.int (n : Int), V.int 1]) hp
        exact hk p p2 as _ (Same.trans s01 s4) (Same.free s01 hp) upd_same (s4 _ _ (t1 _ _ g3)) (WordsAt.same (Same.trans t1 s4) g4) hwl
      · rw [if_pos (List.isEmpty_iff.mp g)] at hk
        refine ⟨by decide, fun p hp => ?_⟩
        have s4 := Same.new (o := .lst [V.ref p2, V.int 0, V.int 0]) hp
        exact hk p p2 as _ (Same.trans s01 s4) (Same.free s01 hp) upd_same (s4 _ _ (t1 _ _ g3)) (WordsAt.same (Same.trans t1 s4) g4) hwl
end
end Sx
/-! ## W11 -/
namespace Lx
open Sy
def rowsF (nss : List (List Nat)) : Int := if nss.any (fun l => decide (64 < l.length)) = true then -1 else if nss.all (fun l => l.all isChar) = true then 0 else -3
theorem pall_more {α : Type} {p : α → Bool} {l : List α} {i : Nat} {x : α} (hx : l[i]? = some x) (h : (l.take i).all p = true) (g : p x = true) : (l.take (i + 1)).all p = true := by
  rw [Sx.take_more hx, List.all_append, h, Bool.true_and]
  show (p x && true) = true
  rw [g]
  rfl
end Lx
namespace Sx
open PySem PySem.Spec PyProof.Rows L2
/-- numbers as values -/
def vI (zs : List Int) : List V := zs.map V.int
/-- all but objects with fields stands -/
def KeepN (H H' : Hp) : Prop := ∀ b o, H b = some o → (∀ C dx fs, o ≠ .ins C dx fs) → H' b = some o
theorem KeepN.same {H H' : Hp} (e : Same H H') : KeepN H H' := fun b o h _ => e b o h
theorem KeepN.trans {H1 H2 H3 : Hp} (e : KeepN H1 H2) (f : KeepN H2 H3) : KeepN H1 H3 := fun b o h n => f b o (e b o h n) n
theorem KeepN.keep {H H' : Hp} {x C dx : Addr} {fs : List (PySem.Str × V)} (hx : H x = some (.ins C dx fs)) (e : Keep x H H') : KeepN H H' := fun b o h n => e.1 b o h fun z => by
  subst z
  rw [hx] at h
  exact n C dx fs (Option.some.inj h).symm
theorem KeepN.set {H : Hp} {x C dx : Addr} {fs fs' : List (PySem.Str × V)} (hx : H x = some (.ins C dx fs)) : KeepN H (upd H x (.ins C dx fs')) := fun b o h n => by
  by_cases z : b = x
  · subst z
    rw [hx] at h
    exact absurd (Option.some.inj h).symm (n C dx fs)
  · rw [upd_ne z]
    exact h
theorem KeepN.word {H H' : Hp} (e : KeepN H H') {a : Addr} {w : Sy.Word} (h : WordAt H a w) : WordAt H' a w := by
  obtain ⟨r, t, h1, h2, h3⟩ := h
  exact ⟨r, t, e _ _ h1 (by intro _ _ _ z; cases z), e _ _ h2 (by intro _ _ _ z; cases z), e _ _ h3 (by intro _ _ _ z; cases z)⟩
theorem KeepN.lex {C : Addr} {H H' : Hp} {x : Addr} {L : List Sy.Word} (e : KeepN H H') (hx : ∀ o, H x = some o → H' x = some o) (h : LexAt C H x L) : LexAt C H' x L := by
  obtain ⟨dx, r, as, h1, h2, h3⟩ := h
  exact ⟨dx, r, as, hx _ h1, e _ _ h2 (by intro _ _ _ z; cases z), Paired.mapP h3 fun _ _ z => KeepN.word e z⟩
/-- free where no tracked thing stood: an object stands still -/
theorem KeepN.lst {H H' : Hp} (e : KeepN H H') {a : Addr} {xs : List V} (h : H a = some (.lst xs)) : H' a = some (.lst xs) := e _ _ h (by intro _ _ _ z; cases z)
/-- nothing is gone -/
def Live (H H' : Hp) : Prop := ∀ p, H' p = none → H p = none
theorem Live.same {H H' : Hp} (e : Same H H') : Live H H' := fun _ h => Same.free e h
theorem Live.trans {H1 H2 H3 : Hp} (e : Live H1 H2) (f : Live H2 H3) : Live H1 H3 := fun p h => e p (f p h)
theorem Live.set {H : Hp} {x : Addr} {o : HO} : Live H (upd H x o) := fun p h => by
  by_cases z : p = x
  · subst z
    rw [upd_same] at h
    cases h
  · rw [upd_ne z] at h
    exact h
theorem Live.keep {C : Addr} {H H' : Hp} {x : Addr} {L : List Sy.Word} (e : Keep x H H') (hx : LexAt C H' x L) : Live H H' := fun p h => by
  cases z : H p with
  | none => rfl
  | some o =>
    by_cases y : p = x
    · subst y
      obtain ⟨dx, r, as, h1, _⟩ := hx
      rw [h1] at h
      cases h
    · rw [e.1 p o z y] at h
      cases h
/-- the desk: its lexicon -/
def DeskAt (CD CL : Addr) (H : Hp) (d : Addr) (L : List Sy.Word) : Prop := ∃ dd x, H d = some (.ins CD dd [("lexicon", .ref x)]) ∧ LexAt CL H x L
theorem DeskAt.same {CD CL : Addr} {H H' : Hp} {d : Addr} {L : List Sy.Word} (e : Same H H') (h : DeskAt CD CL H d L) : DeskAt CD CL H' d L := by
  obtain ⟨dd, x, h1, h2⟩ := h
  exact ⟨dd, x, e _ _ h1, LexAt.same e h2⟩
/-- where the desk's rows stand -/
def DRow (H : Hp) (d r : Addr) : Prop := ∃ C0 dd x C dx, H d = some (.ins C0 dd [("lexicon", .ref x)]) ∧ H x = some (.ins C dx [("rows", .ref r)])
/-- nothing is gone, and the desk's rows are the same or new -/
def LvD (H H' : Hp) (d : Addr) : Prop := Live H H' ∧ ∀ r, DRow H' d r → H r = none ∨ DRow H d r
theorem LvD.trans {H1 H2 H3 : Hp} {d : Addr} (e : LvD H1 H2 d) (f : LvD H2 H3 d) : LvD H1 H3 d := ⟨Live.trans e.1 f.1, fun r h => by
  rcases f.2 r h with g | g
  · exact .inl (e.1 r g)
  · exact e.2 r g⟩
theorem DRow.one {H : Hp} {d r r' : Addr} (h : DRow H d r) (h' : DRow H d r') : r = r' := by
  obtain ⟨C0, dd, x, C, dx, h1, h2⟩ := h
  obtain ⟨C0', dd', x', C', dx', h1', h2'⟩ := h'
  rw [h1] at h1'
  injection h1' with h1'
  injection h1' with _ _ h1'
  injection h1' with h1' _
  cases (show V.ref x = V.ref x' from congrArg Prod.snd h1')
  rw [h2] at h2'
  injection h2' with h2'
  injection h2' with _ _ h2'
  injection h2' with h2' _
  cases (show V.ref r = V.ref r' from congrArg Prod.snd h2')
  rfl
theorem DeskAt.row {CD CL : Addr} {H : Hp} {d : Addr} {L : List Sy.Word} (h : DeskAt CD CL H d L) : ∃ (r : Addr) (as : List Addr), DRow H d r ∧ H r = some (.lst (as.map V.ref)) := by
  obtain ⟨dd, x, h1, dx, r, as, h2, h3, _⟩ := h
  exact ⟨r, as, ⟨CD, dd, x, CL, dx, h1, h2⟩, h3⟩
theorem DRow.same {H H' : Hp} {d r : Addr} (e : Same H H') (h : DRow H d r) : DRow H' d r := by
  obtain ⟨C0, dd, x, C, dx, h1, h2⟩ := h
  exact ⟨C0, dd, x, C, dx, e _ _ h1, e _ _ h2⟩
theorem LvD.same {CD CL : Addr} {H H' : Hp} {d : Addr} {L : List Sy.Word} (e : Same H H') (hD : DeskAt CD CL H d L) : LvD H H' d := ⟨Live.same e, fun r h => by
  obtain ⟨r0, _, g, _⟩ := DeskAt.row hD
  cases DRow.one (DRow.same e g) h
  exact .inr g⟩
/-- a list of numbers told, the desk then -/
def RD (CD CL : Addr) (H : Hp) (d : Addr) (L' : List Sy.Word) (zs : List Int) (Q : VK) : Prop := ∀ p H', H p = none → KeepN H H' → LvD H H' d → DeskAt CD CL H' d L' → H' p = some (.lst (vI zs)) → Q (.ref p) H'
theorem RD.new {CD CL : Addr} {H H1 : Hp} {d : Addr} {L' : List Sy.Word} {zs : List Int} {Q : VK} {xs : List V} (k : RD CD CL H d L' zs Q) (hk : KeepN H H1) (hn : LvD H H1 d) (hd : DeskAt CD CL H1 d L') (e : xs = vI zs) :
    ∀ p, H1 p = none → Q (.ref p) (upd H1 p (.lst xs)) := fun p hp => by
  subst e
  exact k p _ (hn.1 p hp) (KeepN.trans hk (KeepN.same (Same.new hp))) (LvD.trans hn (LvD.same (Same.new hp) hd)) (DeskAt.same (Same.new hp) hd) upd_same
theorem DeskAt.kept {CD CL : Addr} {H H' : Hp} {d dd x : Addr} {L L' : List Sy.Word} (hd : H d = some (.ins CD dd [("lexicon", .ref x)])) (hx : LexAt CL H x L) (hl : LexAt CL H' x L') (hk : Keep x H H') : DeskAt CD CL H' d L' ∧ KeepN H H' ∧ LvD H H' d := by
  obtain ⟨dx, r, as, h1, _⟩ := hx
  suffices hne : d ≠ x by
    refine ⟨⟨dd, x, hk.1 _ _ hd hne, hl⟩, KeepN.keep h1 hk, Live.keep hk hl, fun r' h => .inl ?_⟩
    obtain ⟨C0, dd', x', C', dx', g1, g2⟩ := h
    rw [hk.1 _ _ hd hne] at g1
    injection g1 with g1
    injection g1 with _ _ g1
    injection g1 with g1 _
    cases (show V.ref x = V.ref x' from congrArg Prod.snd g1)
    exact hk.2 _ _ _ g2
  intro z
  subst z
  rw [hd] at h1
  injection h1 with h1
  injection h1 with _ _ h1
  injection h1 with h1 _
  exact absurd (show ("lexicon" : PySem.Str) = "rows" from congrArg Prod.fst h1) (by decide)
structure TxD (K : PySem.W.Frag) (C : Addr) : Prop where
  cl : Cls K C
  nL : NoAttr K C "lexicon"
section
variable {K : PySem.W.Frag} {σ : L2.St} {H : Hp} {i : Nat} {d dd CD x C dx : Addr} {f m : PySem.Str} {v : V} {Q : VK} {sp : Sp} {E : XK} {t : TA}
theorem w_metF (T : TxD K CD) (hv : σ[i]? = some (some (.ref d))) (hd : H d = some (.ins CD dd [("lexicon", .ref x)])) (hx : H x = some (.ins C dx [(f, v)])) (l : (m == f) = false) (q : t σ H fun vs H2 => sp (.ref x :: (vs ++ [])) H2 Q E) :
    tMeth C m sp [] E (tFld K (tVar i) "lexicon") t σ H Q :=
  w_fld hv hd T.cl T.nL ⟨x, dx, _, rfl, hx, (lk_past l).trans rfl, q⟩
end
theorem pe_mk0 {X : Cx} {k j : Nat} {C : Addr} {sp : Sp} {dvs : List V} {x : PySem.Str} {p pos : Pos} (c : C8.Mak X.prog X.w X.K X.mg X.base k x C sp dvs) (hr : Room j X.A) (hk : k + 1 ≤ j) (hg : Gl X x) (hdb : (x == ("__debug__" : PySem.Str)) = false := by decide) :
    PE X (.Call (.Name x p) [] [] pos) (tMake C sp dvs E0 tNil) := by
  obtain ⟨f, fd, ps, ds, M, F, hm, b, d⟩ := c.ex
  exact pe_make0 M F (hr.mono hk) hg hm b d pass0 hdb
section
variable {P : Program} {w : World} {K : PySem.W.Frag} {mg : PySem.Str → Option Value} {base : Heap} {CD CL : Addr}
/-! fault_of_rows -/
abbrev s_frows : Stmt := top 51
theorem sc_frows : FnScope ["rows", "row"] ["rows"] (defScope s_frows) := ⟨rfl, rfl, rfl, by decide +kernel, rfl, by decide +kernel, by decide +kernel⟩
def sp_frows (K : PySem.W.Frag) : Sp := fun vs H Q _ => ∃ (a : Addr) (qs : List Addr) (nss : List (List Nat)), vs = [.ref a] ∧ SqL K H a (qs.map V.ref) ∧ Paired (fun q ns => SqL K H q (vN ns)) qs nss ∧ Q (.int (Lx.rowsF nss)) H
theorem pget {α β : Type} {R : α → β → Prop} : ∀ {as : List α} {bs : List β} {i : Nat} {a : α}, Paired R as bs → as[i]? = some a → ∃ b, bs[i]? = some b ∧ R a b
  | _, _, _, _, .nil, h => by simp at h
  | _, _, 0, _, .cons e _, h => ⟨_, rfl, by cases (Option.some.inj h : _ = _); exact e⟩
  | _, _, i + 1, _, .cons _ t, h => pget (i := i) t h
theorem ok_frows (D : DefAt K mg "fault_of_rows" s_frows ["rows"]) (T : Txt mg) (G : C8.Cal P w K mg base 2 "are_characters" (sp_allN K Sy.isChar) []) : C8.Cal P w K mg base 3 "fault_of_rows" (sp_frows K) [] := by
  refine cal_of D sc_frows (fun vs H Q E h => ?_) (fun f cdv A outer s H vs Q E hr h => ?_)
  · obtain ⟨a, qs, nss, rfl, _⟩ := h
    rfl
  · obtain ⟨a, qs, nss, rfl, hl, hq, k⟩ := h
    have hql := Paired.length hq
    refine ⟨_, pss_cons (ps_for PassesOwn.never rfl (pi_list (pv 0)) (pg_name (i := 1) sc_frows.nd rfl (.inl rfl)) (pss_one (ps_if (pt_cmpR op_gt (pe_callB call_len_seq (by rfl) T.len PySem.boot_len (pa_cons (pv 1) pa_nil)) (pe_gi rfl T.mrow) (nomark _)) (pss_one (ps_ret (pe_un un_neg pe_int))) pss_nil)))
      (pss_cons (ps_for PassesOwn.never rfl (pi_list (pv 0)) (pg_name (i := 1) sc_frows.nd rfl (.inl rfl)) (pss_one (ps_if (pt_not (pt_val (C8.pe_c G hr (by decide) rfl (pa_cons (pv 1) pa_nil)))) (pss_one (ps_ret (pe_un un_neg pe_int))) pss_nil)))
      (pss_one (ps_ret pe_int))), ?_⟩
    refine sforL (xs := qs.map V.ref) rfl hl (fun i σ H' => (∃ v, σ = [some (.ref a), v]) ∧ H' = H ∧ (nss.take i).all (fun l => !decide (64 < l.length)) = true) ⟨⟨_, rfl⟩, rfl, rfl⟩ (fun i σ H' _ p => by rw [p.2.1]; exact hl) ?_ ?_
    · rintro i x σ H' hi ⟨⟨v, rfl⟩, rfl, ha⟩
      obtain ⟨q, hqi, rfl⟩ : ∃ q, qs[i]? = some q ∧ x = V.ref q := by
        rw [List.getElem?_map] at hi
        cases ea : qs[i]? with
        | none => rw [ea] at hi; cases hi
        | some ai => rw [ea] at hi; exact ⟨ai, rfl, (Option.some.inj hi).symm⟩
      obtain ⟨ns, hns, hqn⟩ := pget hq hqi
      walk_at "sx"
      refine ⟨_, .inl hqn, ?_⟩
      rw [vN_len]
      refine ⟨fun g => ?_, fun g => ?_⟩
      · have e : nss.any (fun l => decide (64 < l.length)) = true := List.any_eq_true.mpr ⟨ns, List.mem_of_getElem? hns, by rw [decide_eq_true_eq]; omega⟩
        unfold Lx.rowsF at k
        rw [if_pos e] at k
        exact k
      · refine Lx.pall_more hns ha ?_
        rw [decide_eq_false (by omega)]
        rfl
    · rintro σ H' ⟨⟨v, rfl⟩, rfl, ha⟩
      rw [List.length_map, hql, List.take_length] at ha
      have e : ¬ nss.any (fun l => decide (64 < l.length)) = true := by
        intro e
        obtain ⟨x, hx, g⟩ := List.any_eq_true.mp e
        have := List.all_eq_true.mp ha x hx
        rw [g] at this
        cases this
      unfold Lx.rowsF at k
      rw [if_neg e] at k
      refine sforL (xs := qs.map V.ref) rfl hl (fun i σ H'' => (∃ v, σ = [some (.ref a), v]) ∧ H'' = H' ∧ (nss.take i).all (fun l => l.all Sy.isChar) = true) ⟨⟨_, rfl⟩, rfl, rfl⟩ (fun i σ H'' _ p => by rw [p.2.1]; exact hl) ?_ ?_
      · rintro i x σ H'' hi ⟨⟨v, rfl⟩, rfl, ha2⟩
        obtain ⟨q, hqi, rfl⟩ : ∃ q, qs[i]? = some q ∧ x = V.ref q := by
          rw [List.getElem?_map] at hi
          cases ea : qs[i]? with
          | none => rw [ea] at hi; cases hi
          | some ai => rw [ea] at hi; exact ⟨ai, rfl, (Option.some.inj hi).symm⟩
        obtain ⟨ns, hns, hqn⟩ := pget hq hqi
        walk_at "sx"
        refine ⟨q, ns, rfl, hqn, _, rfl, fun g => ?_, fun g => ⟨rfl, Lx.pall_more hns ha2 g⟩⟩
        have e2 : ¬ nss.all (fun l => l.all Sy.isChar) = true := by
          intro e2
          have := List.all_eq_true.mp e2 ns (List.mem_of_getElem? hns)
          rw [g] at this
          cases this
        rw [if_neg e2] at k
        exact k
      · rintro σ H'' ⟨⟨v, rfl⟩, rfl, ha2⟩
        rw [List.length_map, hql, List.take_length] at ha2
        rw [if_pos ha2] at k
        walk_at "sx"
        exact k
end
end Sx
/-! ## W12 -/
namespace Lx
open Sy
def dRead (L : List Word) (l : List Nat) : List Word × List Int :=
  if 65536 < l.length then (L, [-1]) else
  if 0 < (Sx.readR l).2.2 then (L, [-2, ((Sx.readR l).2.1 : Int), ((Sx.readR l).2.2 : Int)]) else ((Sx.readR l).1.mergeSort wle, [((Sx.readR l).1.length : Int)])
end Lx
namespace Sx
open PySem PySem.Spec PyProof.Rows L2
section
variable {P : Program} {w : World} {K : PySem.W.Frag} {mg : PySem.Str → Option Value} {base : Heap} {CD CL : Addr}
/-! Desk.__init__ -/
abbrev s_dinit : Stmt := inClass (top 52) 0
theorem sc_dinit : FnScope ["self"] ["self"] (defScope s_dinit) := ⟨rfl, rfl, rfl, by decide +kernel, rfl, by decide +kernel, by decide +kernel⟩
def sp_dinit (CD CL : Addr) : Sp := fun vs H Q _ => ∃ (d dd : Addr), vs = [.ref d] ∧ H d = some (.ins CD dd []) ∧ ∀ H', DeskAt CD CL H' d [] → KeepN H H' → Live H H' → Q .non H'
/-- a new lexicon kept by the desk -/
theorem desk_new {H : Hp} {d dd : Addr} {fs : List (PySem.Str × V)} {p dx : Addr} {H' : Hp} (hd : H d = some (.ins CD dd fs)) (hp : H p = none) (hdx : H dx = none) (hk : Keep p (upd (upd H dx (.own p)) p (.ins CL dx [])) H') (hl : LexAt CL H' p []) :
    H' d = some (.ins CD dd fs) ∧ DeskAt CD CL (upd H' d (.ins CD dd [("lexicon", .ref p)])) d [] ∧ KeepN H (upd H' d (.ins CD dd [("lexicon", .ref p)])) ∧ LvD H (upd H' d (.ins CD dd [("lexicon", .ref p)])) d := by
  have h1 : ∀ b o, H b = some o → H' b = some o := fun b o h => by
    have n1 : b ≠ p := ne_of_none h hp
    have n2 : b ≠ dx := ne_of_none h hdx
    refine hk.1 b o ?_ n1
    rw [upd_ne n1, upd_ne n2]
    exact h
  have hd' := h1 _ _ hd
  refine ⟨hd', ⟨dd, p, upd_same, ?_⟩, KeepN.trans (fun b o h _ => h1 b o h) (KeepN.set hd'), Live.trans (Live.same (fun b o h => h1 b o h)) Live.set, fun r h => .inl ?_⟩
  · refine KeepN.lex (KeepN.set hd') (fun o h => ?_) hl
    rw [upd_ne (Ne.symm (ne_of_none hd hp))]
    exact h
  · obtain ⟨C0, dd', x', C', dx', q1, q2⟩ := h
    rw [upd_same] at q1
    injection q1 with q1
    injection q1 with _ _ q1
    injection q1 with q1 _
    cases (show V.ref p = V.ref x' from congrArg Prod.snd q1)
    rw [upd_ne (Ne.symm (ne_of_none hd hp))] at q2
    have q3 := hk.2 _ _ _ q2
    cases q4 : H r with
    | none => rfl
    | some o =>
      rw [upd_ne (ne_of_none q4 hp), upd_ne (ne_of_none q4 hdx), q4] at q3
      cases q3
theorem ok_dinit (D : MakAt K mg "Desk" CD "Desk.__init__" s_dinit ["self"]) (T : TxD K CD) (G : C8.Mak P w K mg base 1 "Lexicon" CL (sp_linit CL) []) : C8.Mak P w K mg base 3 "Desk" CD (sp_dinit CD CL) [] := by
  refine mak_of D sc_dinit (fun vs H Q E h => ?_) (fun f cdv A outer s H vs Q E hr h => ?_)
  · obtain ⟨d, dd, rfl, _⟩ := h
    rfl
  · obtain ⟨d, dd, rfl, hd, k⟩ := h
    refine ⟨_, pss_one (ps_fld (pv 0) (pe_mk0 G hr (by decide) rfl) rfl), ?_⟩
    refine fun p dx hp hdx hne => ⟨p, dx, rfl, upd_same, fun H' hl hk => ⟨rfl, ?_⟩⟩
    obtain ⟨g1, g2, g3, g4⟩ := desk_new hd hp hdx hk hl
    exact ⟨_, rfl, d, CD, dd, [], rfl, g1, T.cl, T.nL, by show 0 < 1000; decide, k _ g2 g3 g4.1⟩
/-! begin -/
abbrev s_dbeg : Stmt := inClass (top 52) 1
theorem sc_dbeg : FnScope ["self"] ["self"] (defScope s_dbeg) := ⟨rfl, rfl, rfl, by decide +kernel, rfl, by decide +kernel, by decide +kernel⟩
def sp_dbeg (CD CL : Addr) : Sp := fun vs H Q _ => ∃ (d : Addr) (L : List Sy.Word), vs = [.ref d] ∧ DeskAt CD CL H d L ∧ RD CD CL H d [] [0] Q
theorem ok_dbeg (D : MetAt K CD "begin" "Desk.begin" s_dbeg ["self"]) (T : TxD K CD) (G : C8.Mak P w K mg base 1 "Lexicon" CL (sp_linit CL) []) : C8.Met P w K mg base 3 CD "begin" (sp_dbeg CD CL) [] := by
  refine met_of D sc_dbeg (fun vs H Q E h => ?_) (fun f cdv A outer s H vs Q E hr h => ?_)
  · obtain ⟨d, L, rfl, _⟩ := h
    rfl
  · obtain ⟨d, L, rfl, ⟨dd, x, hd, hx⟩, k⟩ := h
    refine ⟨_, pss_cons (ps_fld (pv 0) (pe_mk0 G hr (by decide) rfl) rfl) (pss_one (ps_ret (pe_lst (pa_cons pe_int pa_nil)))), ?_⟩
    refine fun p dx hp hdx hne => ⟨p, dx, rfl, upd_same, fun H' hl hk => ⟨rfl, ?_⟩⟩
    obtain ⟨g1, g2, g3, g4⟩ := desk_new hd hp hdx hk hl
    refine ⟨_, rfl, d, CD, dd, _, rfl, g1, T.cl, T.nL, by show 1 < 1000; decide, ?_⟩
    exact ⟨by decide, RD.new k g3 g4 g2 rfl⟩
/-! read -/
abbrev s_dread : Stmt := inClass (top 52) 2
theorem sc_dread : FnScope ["self", "row", "words", "line", "kind"] ["self", "row"] (defScope s_dread) := ⟨rfl, rfl, rfl, by decide +kernel, rfl, by decide +kernel, by decide +kernel⟩
def sp_dread (K : PySem.W.Frag) (CD CL : Addr) : Sp := fun vs H Q _ => ∃ (d a : Addr) (L : List Sy.Word) (l : List Nat), vs = [.ref d, .ref a] ∧ DeskAt CD CL H d L ∧ SqL K H a (vN l) ∧ l.length ≤ 100000 ∧ (∀ x ∈ l, x < 256) ∧ RD CD CL H d (Lx.dRead L l).1 (Lx.dRead L l).2 Q
theorem ok_dread (D : MetAt K CD "read" "Desk.read" s_dread ["self", "row"]) (T : Txt mg) (TD : TxD K CD) (G1 : C8.Cal P w K mg base 7 "read_words" (sp_readw K) []) (G2 : C8.Met P w K mg base 1 CL "take" (sp_take K CL) []) : C8.Met P w K mg base 8 CD "read" (sp_dread K CD CL) [] := by
  refine met_of D sc_dread (fun vs H Q E h => ?_) (fun f cdv A outer s H vs Q E hr h => ?_)
  · obtain ⟨d, a, L, l, rfl, _⟩ := h
    rfl
  · obtain ⟨d, a, L, l, rfl, hD, hl, hz, hb, k⟩ := h
    refine ⟨_, pss_cons (ps_if (pt_cmpR op_gt (pe_callB call_len_seq (by rfl) T.len PySem.boot_len (pa_cons (pv 1) pa_nil)) (pe_gi rfl T.mby) (nomark _)) (pss_one (ps_ret (pe_lst (pa_cons (pe_un un_neg pe_int) pa_nil)))) pss_nil)
      (pss_cons (ps_asg (C8.pe_c G1 hr (by decide) rfl (pa_cons (pv 1) pa_nil)) (pg_unl (n := 3) rfl (pgs_cons (pg_name (i := 2) sc_dread.nd rfl (.inl rfl)) (pgs_cons (pg_name (i := 3) sc_dread.nd rfl (.inl rfl)) (pgs_cons (pg_name (i := 4) sc_dread.nd rfl (.inl rfl)) pgs_nil)))))
      (pss_cons (ps_if (pt_cmpR op_gt (pv 4) pe_int (nomark _)) (pss_one (ps_ret (pe_lst (pa_cons (pe_un un_neg pe_int) (pa_cons (pv 3) (pa_cons (pv 4) pa_nil)))))) pss_nil)
      (pss_cons (ps_expr (C8.pe_mt G2 hr (by decide) (pe_fld (pv 0) rfl) (pa_cons (pv 2) pa_nil)))
      (pss_one (ps_ret (pe_lst (pa_cons (pe_callB call_len_seq (by rfl) T.len PySem.boot_len (pa_cons (pv 2) pa_nil)) pa_nil))))))), ?_⟩
    walk_at "sx"
    refine ⟨_, .inl hl, ?_⟩
    rw [vN_len]
    have hdr : Lx.dRead L l = if 65536 < l.length then (L, [-1]) else if 0 < (readR l).2.2 then (L, [-2, ((readR l).2.1 : Int), ((readR l).2.2 : Int)]) else ((readR l).1.mergeSort Lx.wle, [((readR l).1.length : Int)]) := rfl
    rw [hdr] at k
    refine ⟨fun g => ⟨by decide, ?_⟩, fun g => ⟨a, l, rfl, hl, hz, hb, fun p p2 as H1 s1 hp hp1 hp2 hw hwl => ?_⟩⟩
    · rw [if_pos (by omega)] at k
      exact RD.new k (KeepN.same (Same.refl H)) (LvD.same (Same.refl H) hD) hD rfl
    · rw [if_neg (by omega)] at k
      walk_at "sx"
      refine ⟨_, SqL.of hp1, rfl, _, _, rfl, _, _, rfl, _, _, rfl, rfl, _, rfl, fun g2 => ?_, fun g2 => ?_⟩
      · rw [if_pos (by omega)] at k
        exact ⟨by decide, RD.new k (KeepN.same s1) (LvD.same s1 hD) (DeskAt.same s1 hD) rfl⟩
      · rw [if_neg (by omega)] at k
        obtain ⟨dd, x, h1, h2⟩ := DeskAt.same s1 hD
        obtain ⟨dx, r, as0, h3, h4, h5⟩ := id h2
        refine w_metF TD rfl h1 h3 (by decide +kernel) ?_
        walk_at "sx"
        refine ⟨x, p2, L, as, _, rfl, h2, SqL.of hp2, hw, fun H2 hl2 hk2 => ?_⟩
        obtain ⟨j1, j2, j3⟩ := DeskAt.kept h1 h2 hl2 hk2
        refine ⟨_, .inl (SqL.of (KeepN.lst j2 hp2)), by decide, ?_⟩
        rw [List.length_map, WordsAt.len hw]
        exact RD.new k (KeepN.trans (KeepN.same s1) j2) (LvD.trans (LvD.same s1 hD) j3) j1 rfl
end
end Sx
/-! ## W13 -/
namespace Lx
open Sy
theorem line_len {u : Word} (h : Sx.Small u) : (lineN u).length ≤ 400 := by
  obtain ⟨h1, h2, h3, h4, h5⟩ := h
  have k1 := cbs_len u.reading
  have k2 := cbs_len u.text
  have k3 := dec_len 5 u.left (by omega)
  have k4 := dec_len 5 u.right (by omega)
  have k5 := dec_len 5 u.cost (by omega)
  unfold lineN
  simp only [List.length_append, List.length_cons, List.length_nil, List.flatMap_cons, List.flatMap_nil]
  omega
theorem lines_len : ∀ {L : List Word}, (∀ u ∈ L, Sx.Small u) → (L.flatMap lineN).length ≤ 400 * L.length
  | [], _ => Nat.zero_le _
  | u :: L, h => by
    have h1 := line_len (h u List.mem_cons_self)
    have h2 := lines_len (L := L) fun v hv => h v (List.mem_cons_of_mem _ hv)
    rw [List.flatMap_cons, List.length_append, List.length_cons]
    omega
def dWrite (L : List Word) : List Int := ((L.flatMap lineN).length : Int) :: ((L.flatMap lineN).map fun (n : Nat) => (n : Int))
def dPut (L : List Word) (w : Word) : List Word × List Int := if w.ok = false then (L, [-3]) else if (decide (128 ≤ L.length) && (numberOfWord L w.reading w.text).isNone) = true then (L, [-6]) else (putL L w, [Sx.idxZ (numberOfWord (putL L w) w.reading w.text)])
def dDrop (L : List Word) (n : Nat) : List Word × List Int := if n < L.length then (L.eraseIdx n, [0]) else (L, [-4])
def getN (w : Word) : List Nat := [0, w.left, w.right, w.cost, w.reading.length] ++ w.reading ++ [w.text.length] ++ w.text
def dGet (L : List Word) (n : Nat) : List Int := match L[n]? with
  | some w => (getN w).map fun (n : Nat) => (n : Int)
  | none => [-4]
end Lx
namespace Sx
open PySem PySem.Spec PyProof.Rows L2
theorem vI_nat (l : List Nat) : vI (l.map fun (n : Nat) => (n : Int)) = vN l := by
  unfold vI vN
  rw [List.map_map]
  rfl
theorem lex_ins {C : Addr} {H : Hp} {x : Addr} {L : List Sy.Word} (h : LexAt C H x L) : ∃ dx r, H x = some (.ins C dx [("rows", .ref r)]) := by
  obtain ⟨dx, r, as, h1, _⟩ := h
  exact ⟨dx, r, h1⟩
section
variable {P : Program} {w : World} {K : PySem.W.Frag} {mg : PySem.Str → Option Value} {base : Heap} {CD CL : Addr}
/-! write -/
abbrev s_dwrite : Stmt := inClass (top 52) 3
theorem sc_dwrite : FnScope ["self", "found", "number"] ["self"] (defScope s_dwrite) := ⟨rfl, rfl, rfl, by decide +kernel, rfl, by decide +kernel, by decide +kernel⟩
def sp_dwrite (CD CL : Addr) : Sp := fun vs H Q _ => ∃ (d : Addr) (L : List Sy.Word), vs = [.ref d] ∧ DeskAt CD CL H d L ∧ L.length ≤ 128 ∧ (∀ u ∈ L, Small u) ∧ RD CD CL H d L (Lx.dWrite L) Q
theorem ok_dwrite (D : MetAt K CD "write" "Desk.write" s_dwrite ["self"]) (T : Txt mg) (TD : TxD K CD) (G1 : C8.Met P w K mg base 1 CL "size" (sp_size CL) []) (G2 : C8.Met P w K mg base 1 CL "word" (sp_word CL) []) (G3 : C8.Cal P w K mg base 3 "line_bytes" sp_lineb []) :
    C8.Met P w K mg base 4 CD "write" (sp_dwrite CD CL) [] := by
  refine met_of D sc_dwrite (fun vs H Q E h => ?_) (fun f cdv A outer s H vs Q E hr h => ?_)
  · obtain ⟨d, L, rfl, _⟩ := h
    rfl
  · obtain ⟨d, L, rfl, hD, hL, hS, k⟩ := h
    refine ⟨_, pss_cons (ps_set (i := 1) sc_dwrite.nd rfl (.inl rfl) (pe_lst pa_nil))
      (pss_cons (ps_for PassesOwn.never rfl (pi_range1 rfl T.range (pa_cons (C8.pe_mt0 G1 hr (by decide) (pe_fld (pv 0) rfl)) pa_nil)) (pg_name (i := 2) sc_dwrite.nd rfl (.inl rfl))
        (pss_one (ps_expr (pe_bm PySem.F.plainAttrs_list PySem.F.slot_list_extend PySem.F.type_list_extend mt_extend (pv 1) (pa_cons (C8.pe_c G3 hr (by decide) rfl (pa_cons (C8.pe_mt G2 hr (by decide) (pe_fld (pv 0) rfl) (pa_cons (pv 2) pa_nil)) pa_nil)) pa_nil)))))
      (pss_one (ps_ret (pe_op op_cat (pe_lst (pa_cons (pe_callB call_len_seq (by rfl) T.len PySem.boot_len (pa_cons (pv 1) pa_nil)) pa_nil)) (pv 1))))), ?_⟩
    obtain ⟨dd, x, h1, h2⟩ := id hD
    obtain ⟨dx, r, h3⟩ := lex_ins h2
    walk_at "sx"
    refine ⟨Nat.zero_le _, fun p hp => ?_⟩
    have n1 := Same.new (o := .lst []) hp
    refine sforR (n := L.length) (fun R q => ?_) (by omega) (fun i σ H' => (∃ v, σ = [some (.ref d), some (.ref p), v]) ∧ Same H H' ∧ H' p = some (.lst (vN ((L.take i).flatMap Lx.lineN)))) ⟨⟨_, rfl⟩, n1, upd_same⟩ ?_ ?_
    · walk_at "sx"
      refine w_metF TD rfl (n1 _ _ h1) (n1 _ _ h3) (by decide +kernel) ?_
      exact ⟨x, L, rfl, LexAt.same n1 h2, q⟩
    · rintro i σ H' hi ⟨⟨v, rfl⟩, sm, hf⟩
      walk_at "sx"
      refine ⟨ty_list hf, ?_⟩
      refine w_metF TD rfl (sm _ _ h1) (sm _ _ h3) (by decide +kernel) ?_
      walk_at "sx"
      refine ⟨x, L, i, rfl, LexAt.same sm h2, hi, fun a u hu hau => ?_⟩
      refine ⟨a, u, rfl, hau, hS u (List.mem_of_getElem? hu), fun q H2 hq s2 h4 => ?_⟩
      have hlen := Lx.lines_len (L := L.take i) fun v hv => hS v (List.mem_of_mem_take hv)
      have hlu := Lx.line_len (hS u (List.mem_of_getElem? hu))
      rw [List.length_take] at hlen
      walk_at "sx"
      refine ⟨_, s2 _ _ hf, _, h4, by rw [vN_len, vN_len]; exact szl (by omega), Same.mut (Same.trans sm s2) hp, ?_⟩
      rw [upd_same, take_more hu, List.flatMap_append, vN_app]
      simp only [List.flatMap_cons, List.flatMap_nil, List.append_nil]
    · rintro σ H' ⟨⟨v, rfl⟩, sm, hf⟩
      rw [List.take_length] at hf
      have hlen := Lx.lines_len hS
      walk_at "sx"
      refine ⟨_, .inl (SqL.of hf), by decide, fun q hq => ?_⟩
      have n2 := Same.new (o := .lst [V.int ((vN (L.flatMap Lx.lineN)).length : Int)]) hq
      have s2 := Same.trans sm n2
      refine ⟨_, upd_same, _, n2 _ _ hf, by rw [vN_len]; simp only [List.length_cons, List.length_nil]; exact szl (by omega), ?_⟩
      refine RD.new k (KeepN.same s2) (LvD.same s2 hD) (DeskAt.same s2 hD) ?_
      unfold Lx.dWrite
      rw [vN_len]
      show _ = V.int _ :: vI _
      rw [vI_nat]
      rfl
/-! put -/
abbrev s_dput : Stmt := inClass (top 52) 4
theorem sc_dput : FnScope ["self", "numbers", "reading", "text", "left", "right", "cost"] ["self", "numbers", "reading", "text"] (defScope s_dput) := ⟨rfl, rfl, rfl, by decide +kernel, rfl, by decide +kernel, by decide +kernel⟩
def sp_dput (K : PySem.W.Frag) (CD CL : Addr) : Sp := fun vs H Q _ => ∃ (d a b e : Addr) (L : List Sy.Word) (u : Sy.Word), vs = [.ref d, .ref a, .ref b, .ref e] ∧ DeskAt CD CL H d L ∧ L.length ≤ 128 ∧ SqL K H a (vN [u.left, u.right, u.cost]) ∧ SqL K H b (vN u.reading) ∧ SqL K H e (vN u.text) ∧
  RD CD CL H d (Lx.dPut L u).1 (Lx.dPut L u).2 Q
theorem ok_dput (D : MetAt K CD "put" "Desk.put" s_dput ["self", "numbers", "reading", "text"]) (T : Txt mg) (TD : TxD K CD) (G1 : C8.Cal P w K mg base 4 "is_word" (sp_isw K) []) (G2 : C8.Met P w K mg base 3 CL "is_full_for" (sp_full K CL) [])
    (G3 : C8.Met P w K mg base 3 CL "put" (sp_lput CL) []) (G4 : C8.Cal P w K mg base 1 "made_word" (sp_made K) []) : C8.Met P w K mg base 5 CD "put" (sp_dput K CD CL) [] := by
  refine met_of D sc_dput (fun vs H Q E h => ?_) (fun f cdv A outer s H vs Q E hr h => ?_)
  · obtain ⟨d, a, b, e, L, u, rfl, _⟩ := h
    rfl
  · obtain ⟨d, a, b, e, L, u, rfl, hD, hL, ha, hb, he, k⟩ := h
    refine ⟨_, pss_cons (ps_asg (pv 1) (pg_unl (n := 3) rfl (pgs_cons (pg_name (i := 4) sc_dput.nd rfl (.inl rfl)) (pgs_cons (pg_name (i := 5) sc_dput.nd rfl (.inl rfl)) (pgs_cons (pg_name (i := 6) sc_dput.nd rfl (.inl rfl)) pgs_nil)))))
      (pss_cons (ps_if (pt_not (pt_val (C8.pe_c G1 hr (by decide) rfl (pa_cons (pv 2) (pa_cons (pv 3) (pa_cons (pv 4) (pa_cons (pv 5) (pa_cons (pv 6) pa_nil)))))))) (pss_one (ps_ret (pe_lst (pa_cons (pe_un un_neg pe_int) pa_nil)))) pss_nil)
      (pss_cons (ps_if (pt_val (C8.pe_mt G2 hr (by decide) (pe_fld (pv 0) rfl) (pa_cons (pv 2) (pa_cons (pv 3) pa_nil)))) (pss_one (ps_ret (pe_lst (pa_cons (pe_un un_neg pe_int) pa_nil)))) pss_nil)
      (pss_one (ps_ret (pe_lst (pa_cons (C8.pe_mt G3 hr (by decide) (pe_fld (pv 0) rfl) (pa_cons (C8.pe_c G4 hr (by decide) rfl (pa_cons (pv 2) (pa_cons (pv 3) (pa_cons (pv 4) (pa_cons (pv 5) (pa_cons (pv 6) pa_nil)))))) pa_nil)) pa_nil)))))), ?_⟩
    obtain ⟨dd, x, h1, h2⟩ := id hD
    obtain ⟨dx, r, h3⟩ := lex_ins h2
    have hdr : Lx.dPut L u = if u.ok = false then (L, [-3]) else if (decide (128 ≤ L.length) && (Sy.numberOfWord L u.reading u.text).isNone) = true then (L, [-6]) else (Lx.putL L u, [idxZ (Sy.numberOfWord (Lx.putL L u) u.reading u.text)]) := rfl
    rw [hdr] at k
    walk_at "sx"
    refine ⟨_, ha, rfl, _, _, rfl, _, _, rfl, _, _, rfl, rfl, ?_⟩
    refine ⟨b, e, u, rfl, hb, he, ?_⟩
    refine ⟨_, rfl, fun g => ?_, fun g => ?_⟩
    · rw [if_pos g] at k
      exact ⟨by decide, RD.new k (KeepN.same (Same.refl H)) (LvD.same (Same.refl H) hD) hD rfl⟩
    · rw [if_neg (by rw [g]; decide)] at k
      refine w_metF TD rfl h1 h3 (by decide +kernel) ?_
      walk_at "sx"
      refine ⟨x, L, _, _, u.reading, u.text, rfl, h2, by omega, ⟨b, rfl, .inl hb⟩, ⟨e, rfl, .inl he⟩, fun H2 s2 => ?_⟩
      refine ⟨_, rfl, fun g2 => ?_, fun g2 => ?_⟩
      · rw [if_pos g2] at k
        exact ⟨by decide, RD.new k (KeepN.same s2) (LvD.same s2 hD) (DeskAt.same s2 hD) rfl⟩
      · rw [if_neg (by rw [g2]; decide)] at k
        refine w_metF TD rfl (s2 _ _ h1) (s2 _ _ h3) (by decide +kernel) ?_
        walk_at "sx"
        refine ⟨b, e, u, rfl, Same.seq s2 hb, Same.seq s2 he, fun p H3 s3 hu => ?_⟩
        have s03 := Same.trans s2 s3
        refine ⟨x, p, L, u, rfl, LexAt.same s03 h2, hL, hu, fun H4 hl4 hk4 => ?_⟩
        obtain ⟨j1, j2, j3⟩ := DeskAt.kept (s03 _ _ h1) (LexAt.same s03 h2) hl4 hk4
        exact ⟨by decide, RD.new k (KeepN.trans (KeepN.same s03) j2) (LvD.trans (LvD.same s03 hD) j3) j1 rfl⟩
/-! drop -/
abbrev s_ddrop : Stmt := inClass (top 52) 5
theorem sc_ddrop : FnScope ["self", "number"] ["self", "number"] (defScope s_ddrop) := ⟨rfl, rfl, rfl, by decide +kernel, rfl, by decide +kernel, by decide +kernel⟩
def sp_ddrop (CD CL : Addr) : Sp := fun vs H Q _ => ∃ (d : Addr) (L : List Sy.Word) (n : Nat), vs = [.ref d, .int (n : Int)] ∧ DeskAt CD CL H d L ∧ L.length ≤ 128 ∧ RD CD CL H d (Lx.dDrop L n).1 (Lx.dDrop L n).2 Q
theorem ok_ddrop (D : MetAt K CD "drop" "Desk.drop" s_ddrop ["self", "number"]) (TD : TxD K CD) (G1 : C8.Met P w K mg base 1 CL "has" (sp_has CL) []) (G2 : C8.Met P w K mg base 1 CL "drop" (sp_ldrop CL) []) : C8.Met P w K mg base 2 CD "drop" (sp_ddrop CD CL) [] := by
  refine met_of D sc_ddrop (fun vs H Q E h => ?_) (fun f cdv A outer s H vs Q E hr h => ?_)
  · obtain ⟨d, L, n, rfl, _⟩ := h
    rfl
  · obtain ⟨d, L, n, rfl, hD, hL, k⟩ := h
    refine ⟨_, pss_cons (ps_if (pt_not (pt_val (C8.pe_mt G1 hr (by decide) (pe_fld (pv 0) rfl) (pa_cons (pv 1) pa_nil)))) (pss_one (ps_ret (pe_lst (pa_cons (pe_un un_neg pe_int) pa_nil)))) pss_nil)
      (pss_cons (ps_expr (C8.pe_mt G2 hr (by decide) (pe_fld (pv 0) rfl) (pa_cons (pv 1) pa_nil)))
      (pss_one (ps_ret (pe_lst (pa_cons pe_int pa_nil))))), ?_⟩
    obtain ⟨dd, x, h1, h2⟩ := id hD
    obtain ⟨dx, r, h3⟩ := lex_ins h2
    have hdr : Lx.dDrop L n = if n < L.length then (L.eraseIdx n, [0]) else (L, [-4]) := rfl
    rw [hdr] at k
    walk_at "sx"
    refine w_metF TD rfl h1 h3 (by decide +kernel) ?_
    walk_at "sx"
    refine ⟨x, L, n, rfl, h2, _, rfl, fun g => ?_, fun g => ?_⟩
    · rw [if_neg (of_decide_eq_false g)] at k
      exact ⟨by decide, RD.new k (KeepN.same (Same.refl H)) (LvD.same (Same.refl H) hD) hD rfl⟩
    · have g2 := of_decide_eq_true g
      rw [if_pos g2] at k
      refine w_metF TD rfl h1 h3 (by decide +kernel) ?_
      walk_at "sx"
      refine ⟨x, L, n, rfl, h2, g2, by omega, fun H4 hl4 hk4 => ?_⟩
      obtain ⟨j1, j2, j3⟩ := DeskAt.kept h1 h2 hl4 hk4
      exact ⟨by decide, RD.new k j2 j3 j1 rfl⟩
/-! get -/
abbrev s_dget : Stmt := inClass (top 52) 6
theorem sc_dget : FnScope ["self", "number", "reading", "cost", "text", "left", "right", "found"] ["self", "number"] (defScope s_dget) := ⟨rfl, rfl, rfl, by decide +kernel, rfl, by decide +kernel, by decide +kernel⟩
def sp_dget (CD CL : Addr) : Sp := fun vs H Q _ => ∃ (d : Addr) (L : List Sy.Word) (n : Nat), vs = [.ref d, .int (n : Int)] ∧ DeskAt CD CL H d L ∧ (∀ u ∈ L, Small u) ∧ RD CD CL H d L (Lx.dGet L n) Q
theorem ok_dget (D : MetAt K CD "get" "Desk.get" s_dget ["self", "number"]) (T : Txt mg) (TD : TxD K CD) (G1 : C8.Met P w K mg base 1 CL "has" (sp_has CL) []) (G2 : C8.Met P w K mg base 1 CL "word" (sp_word CL) []) : C8.Met P w K mg base 2 CD "get" (sp_dget CD CL) [] := by
  refine met_of D sc_dget (fun vs H Q E h => ?_) (fun f cdv A outer s H vs Q E hr h => ?_)
  · obtain ⟨d, L, n, rfl, _⟩ := h
    rfl
  · obtain ⟨d, L, n, rfl, hD, hS, k⟩ := h
    refine ⟨_, pss_cons (ps_if (pt_not (pt_val (C8.pe_mt G1 hr (by decide) (pe_fld (pv 0) rfl) (pa_cons (pv 1) pa_nil)))) (pss_one (ps_ret (pe_lst (pa_cons (pe_un un_neg pe_int) pa_nil)))) pss_nil)
      (pss_cons (ps_asg (C8.pe_mt G2 hr (by decide) (pe_fld (pv 0) rfl) (pa_cons (pv 1) pa_nil)) (pg_tup (n := 5) rfl (pgs_cons (pg_name (i := 2) sc_dget.nd rfl (.inl rfl)) (pgs_cons (pg_name (i := 3) sc_dget.nd rfl (.inl rfl)) (pgs_cons (pg_name (i := 4) sc_dget.nd rfl (.inl rfl)) (pgs_cons (pg_name (i := 5) sc_dget.nd rfl (.inl rfl)) (pgs_cons (pg_name (i := 6) sc_dget.nd rfl (.inl rfl)) pgs_nil)))))))
      (pss_cons (ps_set (i := 7) sc_dget.nd rfl (.inl rfl) (pe_op op_cat (pe_lst (pa_cons pe_int (pa_cons (pv 5) (pa_cons (pv 6) (pa_cons (pv 3) (pa_cons (pe_callB call_len_seq (by rfl) T.len PySem.boot_len (pa_cons (pv 2) pa_nil)) pa_nil)))))) (pe_callTy call_list_of rfl T.list (by decide +kernel) (pa_cons (pv 2) pa_nil))))
      (pss_one (ps_ret (pe_op op_cat (pe_op op_cat (pv 7) (pe_lst (pa_cons (pe_callB call_len_seq (by rfl) T.len PySem.boot_len (pa_cons (pv 4) pa_nil)) pa_nil))) (pe_callTy call_list_of rfl T.list (by decide +kernel) (pa_cons (pv 4) pa_nil))))))), ?_⟩
    obtain ⟨dd, x, h1, h2⟩ := id hD
    obtain ⟨dx, r, h3⟩ := lex_ins h2
    have hdr : Lx.dGet L n = match L[n]? with
      | some w => (Lx.getN w).map fun (n : Nat) => (n : Int)
      | none => [-4] := rfl
    rw [hdr] at k
    walk_at "sx"
    refine w_metF TD rfl h1 h3 (by decide +kernel) ?_
    walk_at "sx"
    refine ⟨x, L, n, rfl, h2, _, rfl, fun g => ?_, fun g => ?_⟩
    · have g2 := of_decide_eq_false g
      rw [List.getElem?_eq_none (by omega)] at k
      exact ⟨by decide, RD.new k (KeepN.same (Same.refl H)) (LvD.same (Same.refl H) hD) hD rfl⟩
    · have g2 := of_decide_eq_true g
      refine w_metF TD rfl h1 h3 (by decide +kernel) ?_
      walk_at "sx"
      refine ⟨x, L, n, rfl, h2, g2, fun a u hu ⟨q, t, hu1, hu2, hu3⟩ => ?_⟩
      obtain ⟨z1, z2, _⟩ := hS u (List.mem_of_getElem? hu)
      rw [hu] at k
      walk_at "sx"
      refine ⟨_, SqT.of hu1, rfl, _, _, rfl, _, _, rfl, _, _, rfl, _, _, rfl, _, _, rfl, rfl, ?_⟩
      refine ⟨q, rfl, _, .inr (SqT.of hu2), by decide, fun p1 hp1 => ?_⟩
      rw [vN_len]
      have n1 := Same.new (o := .lst [V.int 0, V.int (u.left : Int), V.int (u.right : Int), V.int (u.cost : Int), V.int (u.reading.length : Int)]) hp1
      refine ⟨q, rfl, _, .inr (SqT.of (n1 _ _ hu2)), fun p2 hp2 => ?_⟩
      have n2 := Same.new (o := .lst (vN u.reading)) hp2
      refine ⟨_, n2 _ _ upd_same, _, upd_same, by rw [vN_len]; simp only [List.length_cons, List.length_nil]; exact szl (by omega), fun p3 hp3 => ?_⟩
      have n3 := Same.new (o := .lst ([V.int 0, V.int (u.left : Int), V.int (u.right : Int), V.int (u.cost : Int), V.int (u.reading.length : Int)] ++ vN u.reading)) hp3
      have s3 := Same.trans n1 (Same.trans n2 n3)
      refine ⟨t, rfl, _, .inr (SqT.of (s3 _ _ hu3)), by decide, fun p4 hp4 => ?_⟩
      rw [vN_len]
      have n4 := Same.new (o := .lst [V.int (u.text.length : Int)]) hp4
      refine ⟨_, n4 _ _ upd_same, _, upd_same, by rw [List.length_append, vN_len]; simp only [List.length_cons, List.length_nil]; exact szl (by omega), fun p5 hp5 => ?_⟩
      have n5 := Same.new (o := .lst ([V.int 0, V.int (u.left : Int), V.int (u.right : Int), V.int (u.cost : Int), V.int (u.reading.length : Int)] ++ vN u.reading ++ [V.int (u.text.length : Int)])) hp5
      have s5 := Same.trans s3 (Same.trans n4 n5)
      refine ⟨t, rfl, _, .inr (SqT.of (s5 _ _ hu3)), fun p6 hp6 => ?_⟩
      have n6 := Same.new (o := .lst (vN u.text)) hp6
      refine ⟨_, n6 _ _ upd_same, _, upd_same, by rw [List.length_append, List.length_append, vN_len, vN_len]; simp only [List.length_cons, List.length_nil]; exact szl (by omega), ?_⟩
      have s6 := Same.trans s5 n6
      refine RD.new k (KeepN.same s6) (LvD.same s6 hD) (DeskAt.same s6 hD) ?_
      show _ = vI ((Lx.getN u).map fun (n : Nat) => (n : Int))
      rw [vI_nat]
      unfold Lx.getN
      rw [vN_app, vN_app, vN_app]
      rfl
end
end Sx
/-! ## W14 -/
namespace Lx
open Sy
def dNum (L : List Word) (r t : List Nat) : List Int := if rowsF [r, t] < 0 then [rowsF [r, t]] else if Sx.idxZ (numberOfWord L r t) < 0 then [-5] else [Sx.idxZ (numberOfWord L r t)]
def likZ (L : List Word) (i : Nat) (r : List Nat) : Int := Sx.idxZ ((rank L r)[i]?.bind fun u => numberOfWord L u.reading u.text)
def dLik (L : List Word) (i : Nat) (r : List Nat) : List Int := if rowsF [r] < 0 then [rowsF [r]] else if likZ L i r < 0 then [-5] else [likZ L i r]
def dAsk (L : List Word) (k : Nat) (r : List Nat) : List Int := if rowsF [r] < 0 then [rowsF [r]] else if k = 9 then [(manyOf L r : Int), (firstOf L r : Int)] else if k = 11 then [((L.filter fun q => r.isPrefixOf q.reading).length : Int), (firstOf L r : Int)] else
  (((beginsHere L r).length :: (beginsHere L r).flatten).map fun (n : Nat) => (n : Int))
end Lx
namespace Sx
open PySem PySem.Spec PyProof.Rows L2
section
variable {P : Program} {w : World} {K : PySem.W.Frag} {mg : PySem.Str → Option Value} {base : Heap} {CD CL : Addr}
/-! number -/
abbrev s_dnum : Stmt := inClass (top 52) 7
theorem sc_dnum : FnScope ["self", "reading", "text", "fault", "found"] ["self", "reading", "text"] (defScope s_dnum) := ⟨rfl, rfl, rfl, by decide +kernel, rfl, by decide +kernel, by decide +kernel⟩
def sp_dnum (K : PySem.W.Frag) (CD CL : Addr) : Sp := fun vs H Q _ => ∃ (d a b : Addr) (L : List Sy.Word) (r t : List Nat), vs = [.ref d, .ref a, .ref b] ∧ DeskAt CD CL H d L ∧ L.length ≤ 128 ∧ SqL K H a (vN r) ∧ SqL K H b (vN t) ∧ RD CD CL H d L (Lx.dNum L r t) Q
theorem ok_dnum (D : MetAt K CD "number" "Desk.number" s_dnum ["self", "reading", "text"]) (TD : TxD K CD) (G1 : C8.Cal P w K mg base 3 "fault_of_rows" (sp_frows K) []) (G2 : C8.Met P w K mg base 2 CL "number_of" (sp_lnum K CL) []) : C8.Met P w K mg base 4 CD "number" (sp_dnum K CD CL) [] := by
  refine met_of D sc_dnum (fun vs H Q E h => ?_) (fun f cdv A outer s H vs Q E hr h => ?_)
  · obtain ⟨d, a, b, L, r, t, rfl, _⟩ := h
    rfl
  · obtain ⟨d, a, b, L, r, t, rfl, hD, hL, ha, hb, k⟩ := h
    refine ⟨_, pss_cons (ps_set (i := 3) sc_dnum.nd rfl (.inl rfl) (C8.pe_c G1 hr (by decide) rfl (pa_cons (pe_lst (pa_cons (pv 1) (pa_cons (pv 2) pa_nil))) pa_nil)))
      (pss_cons (ps_if (pt_cmpR op_lt (pv 3) pe_int (nomark _)) (pss_one (ps_ret (pe_lst (pa_cons (pv 3) pa_nil)))) pss_nil)
      (pss_cons (ps_set (i := 4) sc_dnum.nd rfl (.inl rfl) (C8.pe_mt G2 hr (by decide) (pe_fld (pv 0) rfl) (pa_cons (pv 1) (pa_cons (pv 2) pa_nil))))
      (pss_cons (ps_if (pt_cmpR op_lt (pv 4) pe_int (nomark _)) (pss_one (ps_ret (pe_lst (pa_cons (pe_un un_neg pe_int) pa_nil)))) pss_nil)
      (pss_one (ps_ret (pe_lst (pa_cons (pv 4) pa_nil))))))), ?_⟩
    obtain ⟨dd, x, h1, h2⟩ := id hD
    obtain ⟨dx, r0, h3⟩ := lex_ins h2
    have hdr : Lx.dNum L r t = if Lx.rowsF [r, t] < 0 then [Lx.rowsF [r, t]] else if idxZ (Sy.numberOfWord L r t) < 0 then [-5] else [idxZ (Sy.numberOfWord L r t)] := rfl
    rw [hdr] at k
    walk_at "sx"
    refine ⟨by decide, fun p1 hp1 => ⟨p1, [a, b], [r, t], rfl, SqL.of upd_same, ?_, ?_⟩⟩
    · exact .cons (Same.seq (Same.new hp1) ha) (.cons (Same.seq (Same.new hp1) hb) .nil)
    · have n1 := Same.new (o := .lst [V.ref a, V.ref b]) hp1
      walk_at "sx"
      refine ⟨fun g => ?_, fun g => ?_⟩
      · rw [if_pos g] at k
        exact ⟨by decide, RD.new k (KeepN.same n1) (LvD.same n1 hD) (DeskAt.same n1 hD) rfl⟩
      · rw [if_neg g] at k
        refine w_metF TD rfl (n1 _ _ h1) (n1 _ _ h3) (by decide +kernel) ?_
        walk_at "sx"
        refine ⟨x, L, _, _, r, t, rfl, LexAt.same n1 h2, by omega, ⟨a, rfl, .inl (Same.seq n1 ha)⟩, ⟨b, rfl, .inl (Same.seq n1 hb)⟩, fun H2 s2 => ?_⟩
        have s02 := Same.trans n1 s2
        walk_at "sx"
        refine ⟨fun g2 => ?_, fun g2 => ?_⟩
        · rw [if_pos g2] at k
          exact ⟨by decide, RD.new k (KeepN.same s02) (LvD.same s02 hD) (DeskAt.same s02 hD) rfl⟩
        · rw [if_neg g2] at k
          exact ⟨by decide, RD.new k (KeepN.same s02) (LvD.same s02 hD) (DeskAt.same s02 hD) rfl⟩
/-! likely -/
abbrev s_dlik : Stmt := inClass (top 52) 9
theorem sc_dlik : FnScope ["self", "place", "row", "fault", "found"] ["self", "place", "row"] (defScope s_dlik) := ⟨rfl, rfl, rfl, by decide +kernel, rfl, by decide +kernel, by decide +kernel⟩
def sp_dlik (K : PySem.W.Frag) (CD CL : Addr) : Sp := fun vs H Q _ => ∃ (d a : Addr) (L : List Sy.Word) (i : Nat) (r : List Nat), vs = [.ref d, .int (i : Int), .ref a] ∧ DeskAt CD CL H d L ∧ L.length ≤ 128 ∧ SqL K H a (vN r) ∧ RD CD CL H d L (Lx.dLik L i r) Q
theorem ok_dlik (D : MetAt K CD "likely" "Desk.likely" s_dlik ["self", "place", "row"]) (TD : TxD K CD) (G1 : C8.Cal P w K mg base 3 "fault_of_rows" (sp_frows K) []) (G2 : C8.Met P w K mg base 4 CL "likely" (sp_llik K CL) []) : C8.Met P w K mg base 5 CD "likely" (sp_dlik K CD CL) [] := by
  refine met_of D sc_dlik (fun vs H Q E h => ?_) (fun f cdv A outer s H vs Q E hr h => ?_)
  · obtain ⟨d, a, L, i, r, rfl, _⟩ := h
    rfl
  · obtain ⟨d, a, L, i, r, rfl, hD, hL, ha, k⟩ := h
    refine ⟨_, pss_cons (ps_set (i := 3) sc_dlik.nd rfl (.inl rfl) (C8.pe_c G1 hr (by decide) rfl (pa_cons (pe_lst (pa_cons (pv 2) pa_nil)) pa_nil)))
      (pss_cons (ps_if (pt_cmpR op_lt (pv 3) pe_int (nomark _)) (pss_one (ps_ret (pe_lst (pa_cons (pv 3) pa_nil)))) pss_nil)
      (pss_cons (ps_set (i := 4) sc_dlik.nd rfl (.inl rfl) (C8.pe_mt G2 hr (by decide) (pe_fld (pv 0) rfl) (pa_cons (pv 1) (pa_cons (pv 2) pa_nil))))
      (pss_cons (ps_if (pt_cmpR op_lt (pv 4) pe_int (nomark _)) (pss_one (ps_ret (pe_lst (pa_cons (pe_un un_neg pe_int) pa_nil)))) pss_nil)
      (pss_one (ps_ret (pe_lst (pa_cons (pv 4) pa_nil))))))), ?_⟩
    obtain ⟨dd, x, h1, h2⟩ := id hD
    obtain ⟨dx, r0, h3⟩ := lex_ins h2
    have hdr : Lx.dLik L i r = if Lx.rowsF [r] < 0 then [Lx.rowsF [r]] else if Lx.likZ L i r < 0 then [-5] else [Lx.likZ L i r] := rfl
    rw [hdr] at k
    walk_at "sx"
    refine ⟨by decide, fun p1 hp1 => ⟨p1, [a], [r], rfl, SqL.of upd_same, ?_, ?_⟩⟩
    · exact .cons (Same.seq (Same.new hp1) ha) .nil
    · have n1 := Same.new (o := .lst [V.ref a]) hp1
      walk_at "sx"
      refine ⟨fun g => ?_, fun g => ?_⟩
      · rw [if_pos g] at k
        exact ⟨by decide, RD.new k (KeepN.same n1) (LvD.same n1 hD) (DeskAt.same n1 hD) rfl⟩
      · rw [if_neg g] at k
        refine w_metF TD rfl (n1 _ _ h1) (n1 _ _ h3) (by decide +kernel) ?_
        walk_at "sx"
        refine ⟨x, a, L, r, i, rfl, LexAt.same n1 h2, by omega, Same.seq n1 ha, fun H2 s2 => ?_⟩
        have s02 := Same.trans n1 s2
        unfold Lx.likZ at k
        walk_at "sx"
        refine ⟨fun g2 => ?_, fun g2 => ?_⟩
        · rw [if_pos g2] at k
          exact ⟨by decide, RD.new k (KeepN.same s02) (LvD.same s02 hD) (DeskAt.same s02 hD) rfl⟩
        · rw [if_neg g2] at k
          exact ⟨by decide, RD.new k (KeepN.same s02) (LvD.same s02 hD) (DeskAt.same s02 hD) rfl⟩
/-! asked -/
abbrev s_dask : Stmt := inClass (top 52) 8
theorem sc_dask : FnScope ["self", "word", "row", "fault", "lengths", "found", "length"] ["self", "word", "row"] (defScope s_dask) := ⟨rfl, rfl, rfl, by decide +kernel, rfl, by decide +kernel, by decide +kernel⟩
def sp_dask (K : PySem.W.Frag) (CD CL : Addr) : Sp := fun vs H Q _ => ∃ (d a : Addr) (L : List Sy.Word) (n : Nat) (r : List Nat), vs = [.ref d, .int (n : Int), .ref a] ∧ DeskAt CD CL H d L ∧ L.length ≤ 128 ∧ SqL K H a (vN r) ∧ RD CD CL H d L (Lx.dAsk L n r) Q
theorem beg_len (L : List Sy.Word) (r : List Nat) : (Sy.beginsHere L r).length ≤ r.length + 1 := by
  unfold Sy.beginsHere
  rw [List.length_map]
  exact Nat.le_trans (List.length_filter_le _ _) (by rw [List.length_range]; exact Nat.le_refl _)
theorem beg_three (L : List Sy.Word) (r : List Nat) : ∀ ns ∈ Sy.beginsHere L r, ns.length = 3 := by
  intro ns h
  unfold Sy.beginsHere at h
  obtain ⟨j, _, rfl⟩ := List.mem_map.mp h
  rfl
theorem flat_len : ∀ {l : List (List Nat)}, (∀ ns ∈ l, ns.length = 3) → l.flatten.length = 3 * l.length
  | [], _ => rfl
  | a :: l, h => by
    rw [List.flatten_cons, List.length_append, h a List.mem_cons_self, flat_len (l := l) fun v hv => h v (List.mem_cons_of_mem _ hv), List.length_cons]
    omega
theorem ok_dask (D : MetAt K CD "asked" "Desk.asked" s_dask ["self", "word", "row"]) (T : Txt mg) (TD : TxD K CD) (G1 : C8.Cal P w K mg base 3 "fault_of_rows" (sp_frows K) []) (G2 : C8.Met P w K mg base 3 CL "found" (sp_lfound K CL) []) (G3 : C8.Met P w K mg base 2 CL "onward" (sp_lon K CL) [])
    (G4 : C8.Met P w K mg base 2 CL "before" (sp_lbef K CL) []) (G5 : C8.Met P w K mg base 4 CL "lengths" (sp_llen K CL) []) : C8.Met P w K mg base 5 CD "asked" (sp_dask K CD CL) [] := by
  refine met_of D sc_dask (fun vs H Q E h => ?_) (fun f cdv A outer s H vs Q E hr h => ?_)
  · obtain ⟨d, a, L, n, r, rfl, _⟩ := h
    rfl
  · obtain ⟨d, a, L, n, r, rfl, hD, hL, ha, k⟩ := h
    refine ⟨_, pss_cons (ps_set (i := 3) sc_dask.nd rfl (.inl rfl) (C8.pe_c G1 hr (by decide) rfl (pa_cons (pe_lst (pa_cons (pv 2) pa_nil)) pa_nil)))
      (pss_cons (ps_if (pt_cmpR op_lt (pv 3) pe_int (nomark _)) (pss_one (ps_ret (pe_lst (pa_cons (pv 3) pa_nil)))) pss_nil)
      (pss_cons (ps_if (pt_cmpR op_eq (pv 1) pe_int (nomark _)) (pss_one (ps_ret (C8.pe_mt G2 hr (by decide) (pe_fld (pv 0) rfl) (pa_cons (pv 2) pa_nil)))) pss_nil)
      (pss_cons (ps_if (pt_cmpR op_eq (pv 1) pe_int (nomark _)) (pss_one (ps_ret (pe_lst (pa_cons (pe_callB call_len_seq (by rfl) T.len PySem.boot_len (pa_cons (C8.pe_mt G3 hr (by decide) (pe_fld (pv 0) rfl) (pa_cons (pv 2) pa_nil)) pa_nil)) (pa_cons (C8.pe_mt G4 hr (by decide) (pe_fld (pv 0) rfl) (pa_cons (pv 2) pa_nil)) pa_nil))))) pss_nil)
      (pss_cons (ps_set (i := 4) sc_dask.nd rfl (.inl rfl) (C8.pe_mt G5 hr (by decide) (pe_fld (pv 0) rfl) (pa_cons (pv 2) pa_nil)))
      (pss_cons (ps_set (i := 5) sc_dask.nd rfl (.inl rfl) (pe_lst (pa_cons (pe_callB call_len_seq (by rfl) T.len PySem.boot_len (pa_cons (pv 4) pa_nil)) pa_nil)))
      (pss_cons (ps_for PassesOwn.never rfl (pi_list (pv 4)) (pg_name (i := 6) sc_dask.nd rfl (.inl rfl)) (pss_one (ps_expr (pe_bm PySem.F.plainAttrs_list PySem.F.slot_list_extend PySem.F.type_list_extend mt_extend (pv 5) (pa_cons (pv 6) pa_nil)))))
      (pss_one (ps_ret (pv 5))))))))), ?_⟩
    obtain ⟨dd, x, h1, h2⟩ := id hD
    obtain ⟨dx, r0, h3⟩ := lex_ins h2
    have hdr : Lx.dAsk L n r = if Lx.rowsF [r] < 0 then [Lx.rowsF [r]] else if n = 9 then [(Sy.manyOf L r : Int), (Sy.firstOf L r : Int)] else if n = 11 then [((L.filter fun q => r.isPrefixOf q.reading).length : Int), (Sy.firstOf L r : Int)] else
        (((Sy.beginsHere L r).length :: (Sy.beginsHere L r).flatten).map fun (n : Nat) => (n : Int)) := rfl
    rw [hdr] at k
    walk_at "sx"
    refine ⟨by decide, fun p1 hp1 => ⟨p1, [a], [r], rfl, SqL.of upd_same, ?_, ?_⟩⟩
    · exact .cons (Same.seq (Same.new hp1) ha) .nil
    · have n1 := Same.new (o := .lst [V.ref a]) hp1
      walk_at "sx"
      refine ⟨fun g => ?_, fun g => ?_⟩
      · rw [if_pos g] at k
        exact ⟨by decide, RD.new k (KeepN.same n1) (LvD.same n1 hD) (DeskAt.same n1 hD) rfl⟩
      · rw [if_neg g] at k
        have hrl : r.length ≤ 64 := by
          unfold Lx.rowsF at g
          split at g
          · exact absurd g (by decide)
          · rename_i z
            simpa using z
        refine ⟨fun g9 => ?_, fun g9 => ⟨fun g11 => ?_, fun g11 => ?_⟩⟩
        · rw [if_pos (by omega)] at k
          refine w_metF TD rfl (n1 _ _ h1) (n1 _ _ h3) (by decide +kernel) ?_
          walk_at "sx"
          refine ⟨x, a, L, r, rfl, LexAt.same n1 h2, by omega, Same.seq n1 ha, fun p H2 hp s2 hq => ?_⟩
          have s02 := Same.trans n1 s2
          exact k p H2 (Same.free n1 hp) (KeepN.same s02) (LvD.same s02 hD) (DeskAt.same s02 hD) hq
        · rw [if_neg (by omega), if_pos (by omega)] at k
          refine w_metF TD rfl (n1 _ _ h1) (n1 _ _ h3) (by decide +kernel) ?_
          walk_at "sx"
          refine ⟨x, a, L, r, rfl, LexAt.same n1 h2, by omega, Same.seq n1 ha, fun p bs H2 s2 hp hpb hbs => ?_⟩
          have s02 := Same.trans n1 s2
          refine ⟨p, rfl, _, .inl (SqL.of hpb), ?_⟩
          refine w_metF TD rfl (s02 _ _ h1) (s02 _ _ h3) (by decide +kernel) ?_
          walk_at "sx"
          refine ⟨x, a, L, r, rfl, LexAt.same s02 h2, by omega, Same.seq s02 ha, fun H3 s3 => ⟨by decide, ?_⟩⟩
          have s03 := Same.trans s02 s3
          rw [List.length_map, WordsAt.len hbs]
          exact RD.new k (KeepN.same s03) (LvD.same s03 hD) (DeskAt.same s03 hD) rfl
        · rw [if_neg (by omega), if_neg (by omega)] at k
          refine w_metF TD rfl (n1 _ _ h1) (n1 _ _ h3) (by decide +kernel) ?_
          walk_at "sx"
          refine ⟨x, a, L, r, rfl, LexAt.same n1 h2, by omega, Same.seq n1 ha, by omega, fun p qs H2 s2 hp hpq hrows => ?_⟩
          have s02 := Same.trans n1 s2
          have hql := RowsAt.len hrows
          walk_at "sx"
          refine ⟨_, .inl (SqL.of hpq), by decide, fun p2 hp2 => ?_⟩
          have n2 := Same.new (o := .lst [V.int ((qs.map V.ref).length : Int)]) hp2
          have hbl := beg_len L r
          have hb3 := beg_three L r
          generalize Sy.beginsHere L r = bb at hrows hql hbl hb3 k
          have hfl := flat_len hb3
          refine sforL (xs := qs.map V.ref) rfl (SqL.of (n2 _ _ hpq)) (fun i σ H' => (∃ v, σ = [some (.ref d), some (.int (n : Int)), some (.ref a), some (.int (Lx.rowsF [r])), some (.ref p), some (.ref p2), v]) ∧ Same H2 H' ∧ H' p2 = some (.lst (vN (bb.length :: (bb.take i).flatten))))
            ⟨⟨_, rfl⟩, n2, ?_⟩ (fun i σ H' _ q => SqL.of (q.2.1 _ _ hpq)) ?_ ?_
          · rw [upd_same, List.length_map, hql]
            rfl
          · rintro i v σ H' hi ⟨⟨v0, rfl⟩, sm, hf⟩
            obtain ⟨q, hqi, rfl⟩ : ∃ q, qs[i]? = some q ∧ v = V.ref q := by
              rw [List.getElem?_map] at hi
              cases ea : qs[i]? with
              | none => rw [ea] at hi; cases hi
              | some ai => rw [ea] at hi; exact ⟨ai, rfl, (Option.some.inj hi).symm⟩
            obtain ⟨ns, hns, hqn⟩ := pget hrows hqi
            have hn3 := hb3 ns (List.mem_of_getElem? hns)
            have hft := flat_len (l := bb.take i) fun v hv => hb3 v (List.mem_of_mem_take hv)
            rw [List.length_take] at hft
            walk_at "sx"
            refine ⟨ty_list hf, _, hf, _, sm _ _ hqn, by rw [vN_len, vN_len, List.length_cons]; exact szl (by omega), Same.mut sm hp2, ?_⟩
            rw [upd_same, take_more hns, List.flatten_append, ← vN_app]
            simp only [List.flatten_cons, List.flatten_nil, List.append_nil, List.cons_append]
          · rintro σ H' ⟨⟨v0, rfl⟩, sm, hf⟩
            rw [List.length_map, hql, List.take_length] at hf
            walk_at "sx"
            have s03 := Same.trans s02 sm
            refine k p2 H' (Same.free s02 hp2) (KeepN.same s03) (LvD.same s03 hD) (DeskAt.same s03 hD) ?_
            rw [vI_nat]
            exact hf
end
end Sx
/-! ## W15 -/
namespace Lx
open Sy
/-- a row behind its length, and where it ends -/
def RowN (l : List Nat) (i : Nat) (t : List Nat) (j : Nat) : Prop := ∃ n, l[i]? = some n ∧ j = i + 1 + n ∧ j ≤ l.length ∧ t = (l.take j).drop (i + 1)
inductive CN where
  | beg
  | read (t : List Nat)
  | write
  | count
  | put (u : Word)
  | drop (n : Nat)
  | get (n : Nat)
  | num (r t : List Nat)
  | ask (k : Nat) (r : List Nat)
  | lik (n : Nat) (r : List Nat)
/-- it stands in a line of numbers -/
def CN.At (l : List Nat) (i j : Nat) : CN → Prop
  | .beg => l[i]? = some 1 ∧ j = i + 1
  | .read t => l[i]? = some 2 ∧ RowN l (i + 1) t j
  | .write => l[i]? = some 3 ∧ j = i + 1
  | .count => l[i]? = some 4 ∧ j = i + 1
  | .put u => l[i]? = some 5 ∧ l[i + 1]? = some u.left ∧ l[i + 2]? = some u.right ∧ l[i + 3]? = some u.cost ∧ ∃ m, RowN l (i + 4) u.reading m ∧ RowN l m u.text j
  | .drop n => l[i]? = some 6 ∧ l[i + 1]? = some n ∧ j = i + 2
  | .get n => l[i]? = some 7 ∧ l[i + 1]? = some n ∧ j = i + 2
  | .num r t => l[i]? = some 8 ∧ ∃ m, RowN l (i + 1) r m ∧ RowN l m t j
  | .ask k r => l[i]? = some k ∧ (k = 9 ∨ k = 10 ∨ k = 11) ∧ RowN l (i + 1) r j
  | .lik n r => l[i]? = some 12 ∧ l[i + 1]? = some n ∧ RowN l (i + 2) r j
def CN.In : CN → Prop
  | .read t => t.length ≤ 100000 ∧ ∀ x ∈ t, x < 256
  | _ => True
def CN.step (L : List Word) : CN → List Word × List Int
  | .beg => ([], [0])
  | .read t => dRead L t
  | .write => (L, dWrite L)
  | .count => (L, [(L.length : Int)])
  | .put u => dPut L u
  | .drop n => dDrop L n
  | .get n => (L, dGet L n)
  | .num r t => (L, dNum L r t)
  | .ask k r => (L, dAsk L k r)
  | .lik n r => (L, dLik L n r)
def Good (L : List Word) : Prop := L.length ≤ 128 ∧ ∀ u ∈ L, Sx.Small u
end Lx
namespace Sx
open PySem PySem.Spec PyProof.Rows L2
theorem KeepN.seq {K : PySem.W.Frag} {H H' : Hp} {a : Addr} {xs : List V} (e : KeepN H H') (h : SqL K H a xs) : SqL K H' a xs := by
  rcases h with (h | ⟨o, h⟩) | h
  · exact .inl (.inl (e _ _ h (by intro _ _ _ z; cases z)))
  · exact .inl (.inr ⟨o, e _ _ h (by intro _ _ _ z; cases z)⟩)
  · exact .inr h
section
variable {P : Program} {w : World} {K : PySem.W.Frag} {mg : PySem.Str → Option Value} {base : Heap} {CD CL : Addr}
/-! row_at -/
abbrev s_rowat : Stmt := top 54
theorem sc_rowat : FnScope ["calls", "at", "begin", "end"] ["calls", "at"] (defScope s_rowat) := ⟨rfl, rfl, rfl, by decide +kernel, rfl, by decide +kernel, by decide +kernel⟩
def sp_rowat (K : PySem.W.Frag) : Sp := fun vs H Q _ => ∃ (a : Addr) (l : List Nat) (i : Nat) (t : List Nat) (j : Nat), vs = [.ref a, .int (i : Int)] ∧ SqL K H a (vN l) ∧ Lx.RowN l i t j ∧ ∀ p q H', Same H H' → H p = none → H' p = some (.lst [.ref q, .int (j : Int)]) → H' q = some (.lst (vN t)) → Q (.ref p) H'
theorem ok_rowat (D : DefAt K mg "row_at" s_rowat ["calls", "at"]) : C8.Cal P w K mg base 1 "row_at" (sp_rowat K) [] := by
  refine cal_of D sc_rowat (fun vs H Q E h => ?_) (fun f cdv A outer s H vs Q E hr h => ?_)
  · obtain ⟨a, l, i, t, j, rfl, _⟩ := h
    rfl
  · obtain ⟨a, l, i, t, j, rfl, hl, ⟨n, hn, rfl, hj, rfl⟩, k⟩ := h
    refine ⟨_, pss_cons (ps_set (i := 2) sc_rowat.nd rfl (.inl rfl) (pe_op op_add (pv 1) pe_int)) (pss_cons (ps_set (i := 3) sc_rowat.nd rfl (.inl rfl) (pe_op op_add (pv 2) (pe_ix ix_list (pv 0) (pv 1) (fun _ _ => rfl))))
      (pss_one (ps_ret (pe_lst (pa_cons (pe_slice sl_list (pv 0) (po_some (pv 2)) (po_some (pv 3))) (pa_cons (pv 3) pa_nil)))))), ?_⟩
    walk_at "sx"
    refine ⟨_, hl, _, atI_nat (vN_get hn), ?_⟩
    have e1 : (i : Int) + 1 = ((i + 1 : Nat) : Int) := by omega
    have e2 : (i : Int) + 1 + (n : Int) = ((i + 1 + n : Nat) : Int) := by omega
    refine ⟨_, rfl, _, hl, fun p1 hp1 => ⟨by decide, fun p2 hp2 => ?_⟩⟩
    rw [e2] at hp2 ⊢
    rw [e1, cut_nat] at hp2 ⊢
    have n1 := Same.new (o := .lst (vN ((l.take (i + 1 + n)).drop (i + 1)))) hp1
    have n2 := Same.new (o := .lst [V.ref p1, V.int ((i + 1 + n : Nat) : Int)]) hp2
    exact k p2 p1 _ (Same.trans n1 n2) (Same.free n1 hp2) upd_same (n2 _ _ upd_same)
/-! two_rows_at -/
abbrev s_tworat : Stmt := top 55
theorem sc_tworat : FnScope ["calls", "at", "one", "other"] ["calls", "at"] (defScope s_tworat) := ⟨rfl, rfl, rfl, by decide +kernel, rfl, by decide +kernel, by decide +kernel⟩
def sp_tworat (K : PySem.W.Frag) : Sp := fun vs H Q _ => ∃ (a : Addr) (l : List Nat) (i : Nat) (t : List Nat) (m : Nat) (u : List Nat) (j : Nat), vs = [.ref a, .int (i : Int)] ∧ SqL K H a (vN l) ∧ Lx.RowN l i t m ∧ Lx.RowN l m u j ∧
  ∀ p q q2 H', Same H H' → H p = none → H' p = some (.lst [.ref q, .ref q2, .int (j : Int)]) → H' q = some (.lst (vN t)) → H' q2 = some (.lst (vN u)) → Q (.ref p) H'
theorem ok_tworat (D : DefAt K mg "two_rows_at" s_tworat ["calls", "at"]) (G : C8.Cal P w K mg base 1 "row_at" (sp_rowat K) []) : C8.Cal P w K mg base 2 "two_rows_at" (sp_tworat K) [] := by
  refine cal_of D sc_tworat (fun vs H Q E h => ?_) (fun f cdv A outer s H vs Q E hr h => ?_)
  · obtain ⟨a, l, i, t, m, u, j, rfl, _⟩ := h
    rfl
  · obtain ⟨a, l, i, t, m, u, j, rfl, hl, hr1, hr2, k⟩ := h
    refine ⟨_, pss_cons (ps_asg (C8.pe_c G hr (by decide) rfl (pa_cons (pv 0) (pa_cons (pv 1) pa_nil))) (pg_unl (n := 2) rfl (pgs_cons (pg_name (i := 2) sc_tworat.nd rfl (.inl rfl)) (pgs_cons (pg_name (i := 1) sc_tworat.nd rfl (.inl rfl)) pgs_nil))))
      (pss_cons (ps_asg (C8.pe_c G hr (by decide) rfl (pa_cons (pv 0) (pa_cons (pv 1) pa_nil))) (pg_unl (n := 2) rfl (pgs_cons (pg_name (i := 3) sc_tworat.nd rfl (.inl rfl)) (pgs_cons (pg_name (i := 1) sc_tworat.nd rfl (.inl rfl)) pgs_nil))))
      (pss_one (ps_ret (pe_lst (pa_cons (pv 2) (pa_cons (pv 3) (pa_cons (pv 1) pa_nil))))))), ?_⟩
    walk_at "sx"
    refine ⟨a, l, i, t, m, rfl, hl, hr1, fun p1 q1 H1 s1 hp1 h1 h2 => ?_⟩
    walk_at "sx"
    refine ⟨_, SqL.of h1, rfl, _, _, rfl, _, _, rfl, rfl, ?_⟩
    refine ⟨a, l, m, u, j, rfl, Same.seq s1 hl, hr2, fun p2 q2 H2 s2 hp2 h3 h4 => ?_⟩
    walk_at "sx"
    refine ⟨_, SqL.of h3, rfl, _, _, rfl, _, _, rfl, rfl, by decide, fun p3 hp3 => ?_⟩
    have n3 := Same.new (o := .lst [V.ref q1, V.ref q2, V.int (j : Int)]) hp3
    have s12 := Same.trans s1 s2
    have s23 := Same.trans s2 n3
    exact k p3 q1 q2 _ (Same.trans s1 s23) (Same.free s12 hp3) upd_same (s23 _ _ h2) (n3 _ _ h4)
/-- a call's answer and where it ends -/
def RA (CD CL : Addr) (H : Hp) (d : Addr) (r : List Sy.Word × List Int) (j : Nat) (Q : VK) : Prop := ∀ p q H', KeepN H H' → LvD H H' d → H p = none → H q = none → DeskAt CD CL H' d r.1 → H' p = some (.lst [.ref q, .int (j : Int)]) → H' q = some (.lst (vI r.2)) → Q (.ref p) H'
theorem RA.fin {H H1 H2 : Hp} {d : Addr} {L0 : List Sy.Word} {r : List Sy.Word × List Int} {j : Nat} {Q : VK} (hD : DeskAt CD CL H d L0) (k : RA CD CL H d r j Q) (hs : Same H H1) {q : Addr} (hq0 : H1 q = none) (hk : KeepN H1 H2) (hl : LvD H1 H2 d) (hd : DeskAt CD CL H2 d r.1) (hq : H2 q = some (.lst (vI r.2))) {z : Int} (hz : z = (j : Int)) :
    ∀ p, H2 p = none → Q (.ref p) (upd H2 p (.lst [.ref q, .int z])) := fun p hp => by
  subst hz
  have n := Same.new (o := .lst [V.ref q, V.int (j : Int)]) hp
  exact k p q _ (KeepN.trans (KeepN.trans (KeepN.same hs) hk) (KeepN.same n)) (LvD.trans (LvD.same hs hD) (LvD.trans hl (LvD.same n hd))) (Same.free hs (hl.1 _ hp)) (Same.free hs hq0) (DeskAt.same n hd) upd_same (n _ _ hq)
def PlainC : Lx.CN → Prop
  | .beg | .write | .count | .drop _ | .get _ => True
  | _ => False
/-! plain -/
abbrev s_plain : Stmt := top 56
theorem sc_plain : FnScope ["desk", "word", "calls", "at"] ["desk", "word", "calls", "at"] (defScope s_plain) := ⟨rfl, rfl, rfl, by decide +kernel, rfl, by decide +kernel, by decide +kernel⟩
def sp_plain (K : PySem.W.Frag) (CD CL : Addr) : Sp := fun vs H Q _ => ∃ (d a : Addr) (L : List Sy.Word) (l : List Nat) (i j n : Nat) (c : Lx.CN), vs = [.ref d, .int (n : Int), .ref a, .int ((i : Int) + 1)] ∧ DeskAt CD CL H d L ∧ SqL K H a (vN l) ∧ Lx.Good L ∧ l[i]? = some n ∧ c.At l i j ∧ PlainC c ∧ RA CD CL H d (c.step L) j Q
theorem ok_plain (D : DefAt K mg "plain" s_plain ["desk", "word", "calls", "at"]) (TD : TxD K CD) (G1 : C8.Met P w K mg base 3 CD "begin" (sp_dbeg CD CL) []) (G2 : C8.Met P w K mg base 4 CD "write" (sp_dwrite CD CL) []) (G3 : C8.Met P w K mg base 1 CL "size" (sp_size CL) [])
    (G4 : C8.Met P w K mg base 2 CD "drop" (sp_ddrop CD CL) []) (G5 : C8.Met P w K mg base 2 CD "get" (sp_dget CD CL) []) : C8.Cal P w K mg base 5 "plain" (sp_plain K CD CL) [] := by
  refine cal_of D sc_plain (fun vs H Q E h => ?_) (fun f cdv A outer s H vs Q E hr h => ?_)
  · obtain ⟨d, a, L, l, i, j, n, c, rfl, _⟩ := h
    rfl
  · obtain ⟨d, a, L, l, i, j, n, c, rfl, hD, hl, ⟨hL, hS⟩, hn, hc, hp, k⟩ := h
    refine ⟨_, pss_cons (ps_if (pt_cmpR op_eq (pv 1) pe_int (nomark _)) (pss_one (ps_ret (pe_lst (pa_cons (C8.pe_mt0 G1 hr (by decide) (pv 0)) (pa_cons (pv 3) pa_nil))))) pss_nil)
      (pss_cons (ps_if (pt_cmpR op_eq (pv 1) pe_int (nomark _)) (pss_one (ps_ret (pe_lst (pa_cons (C8.pe_mt0 G2 hr (by decide) (pv 0)) (pa_cons (pv 3) pa_nil))))) pss_nil)
      (pss_cons (ps_if (pt_cmpR op_eq (pv 1) pe_int (nomark _)) (pss_one (ps_ret (pe_lst (pa_cons (pe_lst (pa_cons (C8.pe_mt0 G3 hr (by decide) (pe_fld (pv 0) rfl)) pa_nil)) (pa_cons (pv 3) pa_nil))))) pss_nil)
      (pss_cons (ps_if (pt_cmpR op_eq (pv 1) pe_int (nomark _)) (pss_one (ps_ret (pe_lst (pa_cons (C8.pe_mt G4 hr (by decide) (pv 0) (pa_cons (pe_ix ix_list (pv 2) (pv 3) (fun _ _ => rfl)) pa_nil)) (pa_cons (pe_op op_add (pv 3) pe_int) pa_nil))))) pss_nil)
      (pss_one (ps_ret (pe_lst (pa_cons (C8.pe_mt G5 hr (by decide) (pv 0) (pa_cons (pe_ix ix_list (pv 2) (pv 3) (fun _ _ => rfl)) pa_nil)) (pa_cons (pe_op op_add (pv 3) pe_int) pa_nil)))))))), ?_⟩
    obtain ⟨dd, x, h1, h2⟩ := id hD
    obtain ⟨dx, r0, h3⟩ := lex_ins h2
    have S0 := Same.refl H
    walk_at "sx"
    cases c with
    | beg =>
      obtain ⟨e1, rfl⟩ := hc
      cases (e1.symm.trans hn : some _ = some _)
      refine ⟨fun g => ?_, fun g => absurd rfl g⟩
      refine w_met rfl h1 (by decide +kernel) ?_
      exact ⟨d, L, rfl, hD, fun p H' hp hk hv hd hq => ⟨by decide, RA.fin hD k S0 hp hk hv hd hq (by omega)⟩⟩
    | write =>
      obtain ⟨e1, rfl⟩ := hc
      cases (e1.symm.trans hn : some _ = some _)
      refine ⟨fun g => absurd g (by decide), fun _ => ⟨fun _ => ?_, fun g => absurd rfl g⟩⟩
      refine w_met rfl h1 (by decide +kernel) ?_
      exact ⟨d, L, rfl, hD, hL, hS, fun p H' hp hk hv hd hq => ⟨by decide, RA.fin hD k S0 hp hk hv hd hq (by omega)⟩⟩
    | count =>
      obtain ⟨e1, rfl⟩ := hc
      cases (e1.symm.trans hn : some _ = some _)
      refine ⟨fun g => absurd g (by decide), fun _ => ⟨fun g => absurd g (by decide), fun _ => ⟨fun _ => ?_, fun g => absurd rfl g⟩⟩⟩
      refine w_metF TD rfl h1 h3 (by decide +kernel) ?_
      refine ⟨x, L, rfl, h2, by decide, fun p hp => ⟨by decide, ?_⟩⟩
      have n1 := Same.new (o := .lst [V.int (L.length : Int)]) hp
      exact RA.fin hD k S0 hp (KeepN.same n1) (LvD.same n1 hD) (DeskAt.same n1 hD) upd_same (by omega)
    | drop m =>
      obtain ⟨e1, e2, rfl⟩ := hc
      cases (e1.symm.trans hn : some _ = some _)
      refine ⟨fun g => absurd g (by decide), fun _ => ⟨fun g => absurd g (by decide), fun _ => ⟨fun g => absurd g (by decide), fun _ => ⟨fun _ => ?_, fun g => absurd rfl g⟩⟩⟩⟩
      refine w_met rfl h1 (by decide +kernel) ?_
      walk_at "sx"
      refine ⟨_, hl, _, atI_nat (j := i + 1) (vN_get e2), ?_⟩
      exact ⟨d, L, m, rfl, hD, hL, fun p H' hp hk hv hd hq => ⟨by decide, RA.fin hD k S0 hp hk hv hd hq (by omega)⟩⟩
    | get m =>
      obtain ⟨e1, e2, rfl⟩ := hc
      cases (e1.symm.trans hn : some _ = some _)
      refine ⟨fun g => absurd g (by decide), fun _ => ⟨fun g => absurd g (by decide), fun _ => ⟨fun g => absurd g (by decide), fun _ => ⟨fun g => absurd g (by decide), fun _ => ?_⟩⟩⟩⟩
      refine w_met rfl h1 (by decide +kernel) ?_
      walk_at "sx"
      refine ⟨_, hl, _, atI_nat (j := i + 1) (vN_get e2), ?_⟩
      exact ⟨d, L, m, rfl, hD, hS, fun p H' hp hk hv hd hq => ⟨by decide, RA.fin hD k S0 hp hk hv hd hq (by omega)⟩⟩
    | _ => exact absurd hp id
end
end Sx
/-! ## W16 -/
namespace Lx
theorem CN.word {l : List Nat} {i j : Nat} {c : CN} (h : c.At l i j) : ∃ n, l[i]? = some n := by
  cases c <;> exact ⟨_, h.1⟩
end Lx
namespace Sx
open PySem PySem.Spec PyProof.Rows L2
theorem take_three {l : List Nat} {i x y z : Nat} (h1 : l[i + 1]? = some x) (h2 : l[i + 2]? = some y) (h3 : l[i + 3]? = some z) : (l.take (i + 4)).drop (i + 1) = [x, y, z] := by
  rw [take_more (i := i + 3) h3, take_more (i := i + 2) h2, take_more (i := i + 1) h1]
  have hl := (List.getElem?_eq_some_iff.mp h1).1
  have e : (l.take (i + 1)).length = i + 1 := by rw [List.length_take]; omega
  rw [List.append_assoc, List.append_assoc]
  exact List.drop_left' e
theorem in_ask (n : Nat) : inV (V.int (n : Int)) [V.int 9, V.int 10, V.int 11] = decide (n = 9 ∨ n = 10 ∨ n = 11) := by
  show ((9 : Int) == (n : Int) || ((10 : Int) == (n : Int) || ((11 : Int) == (n : Int) || false))) = _
  rw [Bool.eq_iff_iff]
  simp only [Bool.or_eq_true, beq_iff_eq, Bool.or_false, decide_eq_true_eq]
  omega
theorem plain_word {l : List Nat} {i j n : Nat} {c : Lx.CN} (hp : PlainC c) (h : c.At l i j) (hn : l[i]? = some n) : n = 1 ∨ n = 3 ∨ n = 4 ∨ n = 6 ∨ n = 7 := by
  cases c with
  | beg => have := Option.some.inj (h.1.symm.trans hn); omega
  | write => have := Option.some.inj (h.1.symm.trans hn); omega
  | count => have := Option.some.inj (h.1.symm.trans hn); omega
  | drop m => have := Option.some.inj (h.1.symm.trans hn); omega
  | get m => have := Option.some.inj (h.1.symm.trans hn); omega
  | _ => exact absurd hp id
section
variable {P : Program} {w : World} {K : PySem.W.Frag} {mg : PySem.Str → Option Value} {base : Heap} {CD CL : Addr}
/-! answered -/
abbrev s_answd : Stmt := top 57
theorem sc_answd : FnScope ["desk", "calls", "at", "word", "row", "behind", "reading", "text"] ["desk", "calls", "at"] (defScope s_answd) := ⟨rfl, rfl, rfl, by decide +kernel, rfl, by decide +kernel, by decide +kernel⟩
def sp_answd (K : PySem.W.Frag) (CD CL : Addr) : Sp := fun vs H Q _ => ∃ (d a : Addr) (L : List Sy.Word) (l : List Nat) (i j : Nat) (c : Lx.CN), vs = [.ref d, .ref a, .int (i : Int)] ∧ DeskAt CD CL H d L ∧ SqL K H a (vN l) ∧ Lx.Good L ∧ c.At l i j ∧ c.In ∧ RA CD CL H d (c.step L) j Q
theorem ok_answd (D : DefAt K mg "answered" s_answd ["desk", "calls", "at"]) (G1 : C8.Cal P w K mg base 1 "row_at" (sp_rowat K) []) (G2 : C8.Cal P w K mg base 2 "two_rows_at" (sp_tworat K) []) (G3 : C8.Cal P w K mg base 5 "plain" (sp_plain K CD CL) [])
    (G4 : C8.Met P w K mg base 8 CD "read" (sp_dread K CD CL) []) (G5 : C8.Met P w K mg base 5 CD "put" (sp_dput K CD CL) []) (G6 : C8.Met P w K mg base 4 CD "number" (sp_dnum K CD CL) []) (G7 : C8.Met P w K mg base 5 CD "likely" (sp_dlik K CD CL) [])
    (G8 : C8.Met P w K mg base 5 CD "asked" (sp_dask K CD CL) []) : C8.Cal P w K mg base 9 "answered" (sp_answd K CD CL) [] := by
  refine cal_of D sc_answd (fun vs H Q E h => ?_) (fun f cdv A outer s H vs Q E hr h => ?_)
  · obtain ⟨d, a, L, l, i, j, c, rfl, _⟩ := h
    rfl
  · obtain ⟨d, a, L, l, i, j, c, rfl, hD, hl, hg, hc, hin, k⟩ := h
    refine ⟨_, pss_cons (ps_set (i := 3) sc_answd.nd rfl (.inl rfl) (pe_ix ix_list (pv 1) (pv 2) (fun _ _ => rfl)))
      (pss_cons (ps_if (pt_cmpR op_eq (pv 3) pe_int (nomark _))
        (pss_cons (ps_asg (C8.pe_c G1 hr (by decide) rfl (pa_cons (pv 1) (pa_cons (pe_op op_add (pv 2) pe_int) pa_nil))) (pg_unl (n := 2) rfl (pgs_cons (pg_name (i := 4) sc_answd.nd rfl (.inl rfl)) (pgs_cons (pg_name (i := 5) sc_answd.nd rfl (.inl rfl)) pgs_nil))))
        (pss_one (ps_ret (pe_lst (pa_cons (C8.pe_mt G4 hr (by decide) (pv 0) (pa_cons (pv 4) pa_nil)) (pa_cons (pv 5) pa_nil)))))) pss_nil)
      (pss_cons (ps_if (pt_cmpR op_eq (pv 3) pe_int (nomark _))
        (pss_cons (ps_asg (C8.pe_c G2 hr (by decide) rfl (pa_cons (pv 1) (pa_cons (pe_op op_add (pv 2) pe_int) pa_nil))) (pg_unl (n := 3) rfl (pgs_cons (pg_name (i := 6) sc_answd.nd rfl (.inl rfl)) (pgs_cons (pg_name (i := 7) sc_answd.nd rfl (.inl rfl)) (pgs_cons (pg_name (i := 5) sc_answd.nd rfl (.inl rfl)) pgs_nil)))))
        (pss_one (ps_ret (pe_lst (pa_cons (C8.pe_mt G5 hr (by decide) (pv 0) (pa_cons (pe_slice sl_list (pv 1) (po_some (pe_op op_add (pv 2) pe_int)) (po_some (pe_op op_add (pv 2) pe_int))) (pa_cons (pv 6) (pa_cons (pv 7) pa_nil)))) (pa_cons (pv 5) pa_nil)))))) pss_nil)
      (pss_cons (ps_if (pt_cmpR op_eq (pv 3) pe_int (nomark _))
        (pss_cons (ps_asg (C8.pe_c G2 hr (by decide) rfl (pa_cons (pv 1) (pa_cons (pe_op op_add (pv 2) pe_int) pa_nil))) (pg_unl (n := 3) rfl (pgs_cons (pg_name (i := 6) sc_answd.nd rfl (.inl rfl)) (pgs_cons (pg_name (i := 7) sc_answd.nd rfl (.inl rfl)) (pgs_cons (pg_name (i := 5) sc_answd.nd rfl (.inl rfl)) pgs_nil)))))
        (pss_one (ps_ret (pe_lst (pa_cons (C8.pe_mt G6 hr (by decide) (pv 0) (pa_cons (pv 6) (pa_cons (pv 7) pa_nil))) (pa_cons (pv 5) pa_nil)))))) pss_nil)
      (pss_cons (ps_if (pt_cmpR op_eq (pv 3) pe_int (nomark _))
        (pss_cons (ps_asg (C8.pe_c G1 hr (by decide) rfl (pa_cons (pv 1) (pa_cons (pe_op op_add (pv 2) pe_int) pa_nil))) (pg_unl (n := 2) rfl (pgs_cons (pg_name (i := 4) sc_answd.nd rfl (.inl rfl)) (pgs_cons (pg_name (i := 5) sc_answd.nd rfl (.inl rfl)) pgs_nil))))
        (pss_one (ps_ret (pe_lst (pa_cons (C8.pe_mt G7 hr (by decide) (pv 0) (pa_cons (pe_ix ix_list (pv 1) (pe_op op_add (pv 2) pe_int) (fun _ _ => rfl)) (pa_cons (pv 4) pa_nil))) (pa_cons (pv 5) pa_nil)))))) pss_nil)
      (pss_cons (ps_if (pt_cmpR op_in_seq (pv 3) (pe_tup (pa_cons pe_int (pa_cons pe_int (pa_cons pe_int pa_nil)))) (by rfl))
        (pss_cons (ps_asg (C8.pe_c G1 hr (by decide) rfl (pa_cons (pv 1) (pa_cons (pe_op op_add (pv 2) pe_int) pa_nil))) (pg_unl (n := 2) rfl (pgs_cons (pg_name (i := 4) sc_answd.nd rfl (.inl rfl)) (pgs_cons (pg_name (i := 5) sc_answd.nd rfl (.inl rfl)) pgs_nil))))
        (pss_one (ps_ret (pe_lst (pa_cons (C8.pe_mt G8 hr (by decide) (pv 0) (pa_cons (pv 3) (pa_cons (pv 4) pa_nil))) (pa_cons (pv 5) pa_nil)))))) pss_nil)
      (pss_one (ps_ret (C8.pe_c G3 hr (by decide) rfl (pa_cons (pv 0) (pa_cons (pv 3) (pa_cons (pv 1) (pa_cons (pe_op op_add (pv 2) pe_int) pa_nil)))))))))))), ?_⟩
    obtain ⟨dd, x, h1, h2⟩ := id hD
    have S0 := Same.refl H
    obtain ⟨n, hn⟩ := Lx.CN.word hc
    walk_at "sx"
    refine ⟨_, hl, _, atI_nat (vN_get hn), ?_⟩
    walk_at "sx"
    by_cases hpl : PlainC c
    · have hw := plain_word hpl hc hn
      refine ⟨fun g => absurd g (by omega), fun _ => ⟨fun g => absurd g (by omega), fun _ => ⟨fun g => absurd g (by omega), fun _ => ⟨fun g => absurd g (by omega), fun _ => ?_⟩⟩⟩⟩
      refine ⟨by decide, fun p hp => ?_⟩
      have n1 := Same.new (o := .tup [V.int 9, V.int 10, V.int 11]) hp
      refine ⟨p, _, rfl, .inr (SqT.of upd_same), rfl, rfl, _, rfl, fun g => ?_, fun _ => ?_⟩
      · have g2 : inV (V.int (n : Int)) [V.int 9, V.int 10, V.int 11] = true := g
        rw [in_ask] at g2
        have := of_decide_eq_true g2
        omega
      · refine ⟨d, a, L, l, i, j, n, c, rfl, DeskAt.same n1 hD, Same.seq n1 hl, hg, hn, hc, hpl, fun p q H' hk hv hp0 hq0 hd h3 h4 => ?_⟩
        exact k p q H' (KeepN.trans (KeepN.same n1) hk) (LvD.trans (LvD.same n1 hD) hv) (Same.free n1 hp0) (Same.free n1 hq0) hd h3 h4
    cases c with
    | read t =>
      obtain ⟨e1, e2⟩ := hc
      obtain ⟨z1, z2⟩ := hin
      cases (e1.symm.trans hn : some _ = some _)
      refine ⟨fun _ => ?_, fun g => absurd rfl g⟩
      refine ⟨a, l, i + 1, t, j, rfl, hl, e2, fun p q H1 s1 hp h3 h4 => ?_⟩
      refine ⟨p, rfl, _, SqL.of h3, rfl, _, _, rfl, _, _, rfl, rfl, ?_⟩
      refine w_met rfl (s1 _ _ h1) (by decide +kernel) ?_
      walk_at "sx"
      exact ⟨d, q, L, t, rfl, DeskAt.same s1 hD, SqL.of h4, z1, z2, fun p H' hp hk hv hd hq => ⟨by decide, RA.fin hD k s1 hp hk hv hd hq rfl⟩⟩
    | put u =>
      obtain ⟨e1, e2, e3, e4, m, e5, e6⟩ := hc
      cases (e1.symm.trans hn : some _ = some _)
      refine ⟨fun g => absurd g (by decide), fun _ => ⟨fun _ => ?_, fun g => absurd rfl g⟩⟩
      refine ⟨a, l, i + 4, u.reading, m, u.text, j, rfl, hl, e5, e6, fun p q q2 H1 s1 hp h3 h4 h5 => ?_⟩
      refine ⟨p, rfl, _, SqL.of h3, rfl, _, _, rfl, _, _, rfl, _, _, rfl, rfl, ?_⟩
      refine w_met rfl (s1 _ _ h1) (by decide +kernel) ?_
      walk_at "sx"
      refine ⟨_, Same.seq s1 hl, fun p2 hp2 => ?_⟩
      rw [show (i : Int) + 1 = ((i + 1 : Nat) : Int) by omega, show (i : Int) + 4 = ((i + 4 : Nat) : Int) by omega, cut_nat, take_three e2 e3 e4]
      have n2 := Same.new (o := .lst (vN [u.left, u.right, u.cost])) hp2
      have s12 := Same.trans s1 n2
      exact ⟨d, p2, q, q2, L, u, rfl, DeskAt.same s12 hD, hg.1, SqL.of upd_same, SqL.of (n2 _ _ h4), SqL.of (n2 _ _ h5), fun p H' hp hk hv hd hq => ⟨by decide, RA.fin hD k s12 hp hk hv hd hq rfl⟩⟩
    | num r t =>
      obtain ⟨e1, m, e5, e6⟩ := hc
      cases (e1.symm.trans hn : some _ = some _)
      refine ⟨fun g => absurd g (by decide), fun _ => ⟨fun g => absurd g (by decide), fun _ => ⟨fun _ => ?_, fun g => absurd rfl g⟩⟩⟩
      refine ⟨a, l, i + 1, r, m, t, j, rfl, hl, e5, e6, fun p q q2 H1 s1 hp h3 h4 h5 => ?_⟩
      refine ⟨p, rfl, _, SqL.of h3, rfl, _, _, rfl, _, _, rfl, _, _, rfl, rfl, ?_⟩
      refine w_met rfl (s1 _ _ h1) (by decide +kernel) ?_
      walk_at "sx"
      exact ⟨d, q, q2, L, r, t, rfl, DeskAt.same s1 hD, hg.1, SqL.of h4, SqL.of h5, fun p H' hp hk hv hd hq => ⟨by decide, RA.fin hD k s1 hp hk hv hd hq rfl⟩⟩
    | lik m r =>
      obtain ⟨e1, e2, e3⟩ := hc
      cases (e1.symm.trans hn : some _ = some _)
      refine ⟨fun g => absurd g (by decide), fun _ => ⟨fun g => absurd g (by decide), fun _ => ⟨fun g => absurd g (by decide), fun _ => ⟨fun _ => ?_, fun g => absurd rfl g⟩⟩⟩⟩
      refine ⟨a, l, i + 2, r, j, rfl, hl, e3, fun p q H1 s1 hp h3 h4 => ?_⟩
      refine ⟨p, rfl, _, SqL.of h3, rfl, _, _, rfl, _, _, rfl, rfl, ?_⟩
      refine w_met rfl (s1 _ _ h1) (by decide +kernel) ?_
      walk_at "sx"
      refine ⟨_, Same.seq s1 hl, _, atI_nat (j := i + 1) (vN_get e2), ?_⟩
      exact ⟨d, q, L, m, r, rfl, DeskAt.same s1 hD, hg.1, SqL.of h4, fun p H' hp hk hv hd hq => ⟨by decide, RA.fin hD k s1 hp hk hv hd hq rfl⟩⟩
    | ask n' r =>
      obtain ⟨e1, e2, e3⟩ := hc
      cases (e1.symm.trans hn : some _ = some _)
      refine ⟨fun g => absurd g (by omega), fun _ => ⟨fun g => absurd g (by omega), fun _ => ⟨fun g => absurd g (by omega), fun _ => ⟨fun g => absurd g (by omega), fun _ => ?_⟩⟩⟩⟩
      refine ⟨by decide, fun p0 hp0 => ?_⟩
      have n1 := Same.new (o := .tup [V.int 9, V.int 10, V.int 11]) hp0
      refine ⟨p0, _, rfl, .inr (SqT.of upd_same), rfl, rfl, _, rfl, fun _ => ?_, fun g => ?_⟩
      · refine ⟨a, l, i + 1, r, j, rfl, Same.seq n1 hl, e3, fun p q H1 s1 hp h3 h4 => ?_⟩
        have s2 := Same.trans n1 s1
        refine ⟨p, rfl, _, SqL.of h3, rfl, _, _, rfl, _, _, rfl, rfl, ?_⟩
        refine w_met rfl (s2 _ _ h1) (by decide +kernel) ?_
        walk_at "sx"
        exact ⟨d, q, L, n, r, rfl, DeskAt.same s2 hD, hg.1, SqL.of h4, fun p H' hp hk hv hd hq => ⟨by decide, RA.fin hD k s2 hp hk hv hd hq rfl⟩⟩
      · have g2 : inV (V.int (n : Int)) [V.int 9, V.int 10, V.int 11] = false := g
        rw [in_ask] at g2
        exact absurd e2 (of_decide_eq_false g2)
    | _ => exact absurd trivial hpl
end
end Sx
/-! ## W17 -/
namespace Lx
open Sy
/-- a line's calls from a place, and what they answer -/
inductive Run (l : List Nat) : List Word → Nat → List Int → Prop where
  | fin (L : List Word) : Run l L l.length []
  | turn {L : List Word} {i j : Nat} {c : CN} {out : List Int} : Good L → c.At l i j → c.In → Run l (c.step L).1 j out → Run l L i ((((c.step L).2.length : Int) :: (c.step L).2) ++ out)
theorem RowN.lt {l t : List Nat} {i j : Nat} (h : RowN l i t j) : i < j ∧ j ≤ l.length := by
  obtain ⟨n, h1, h2, h3, _⟩ := h
  exact ⟨by omega, h3⟩
theorem CN.At.lt {l : List Nat} {i j : Nat} {c : CN} (h : c.At l i j) : i < j ∧ j ≤ l.length := by
  obtain ⟨n, hn⟩ := CN.word h
  have h0 := (List.getElem?_eq_some_iff.mp hn).1
  cases c with
  | beg => obtain ⟨_, rfl⟩ := h; omega
  | read t => obtain ⟨_, g⟩ := h; have := g.lt; omega
  | write => obtain ⟨_, rfl⟩ := h; omega
  | count => obtain ⟨_, rfl⟩ := h; omega
  | put u =>
    obtain ⟨_, _, _, _, m, g, g2⟩ := h
    have := g.lt
    have := g2.lt
    omega
  | drop n =>
    obtain ⟨_, g, rfl⟩ := h
    have := (List.getElem?_eq_some_iff.mp g).1
    omega
  | get n =>
    obtain ⟨_, g, rfl⟩ := h
    have := (List.getElem?_eq_some_iff.mp g).1
    omega
  | num r t =>
    obtain ⟨_, m, g, g2⟩ := h
    have := g.lt
    have := g2.lt
    omega
  | ask k r => obtain ⟨_, _, g⟩ := h; have := g.lt; omega
  | lik n r => obtain ⟨_, _, g⟩ := h; have := g.lt; omega
end Lx
namespace Sx
open PySem PySem.Spec PyProof.Rows L2
theorem szt' {n : Nat} (h : n ≤ 10000000) : n < sizeLine := szt (by omega)
theorem vI_len (zs : List Int) : (vI zs).length = zs.length := by
  unfold vI
  rw [List.length_map]
theorem KeepN.mut {H H' : Hp} {p : Addr} {o : HO} (e : KeepN H H') (h : H p = none) : KeepN H (upd H' p o) := fun b u hb n => by
  rw [upd_ne (ne_of_none hb h)]
  exact e b u hb n
/-- another list is written: the desk stands -/
theorem DeskAt.other {CD CL : Addr} {H : Hp} {d f : Addr} {L : List Sy.Word} {xs ys : List V} (hD : DeskAt CD CL H d L) (hf : H f = some (.lst xs)) (hr : ¬ DRow H d f) : DeskAt CD CL (upd H f (.lst ys)) d L := by
  obtain ⟨dd, x, h1, dx, r, as, h2, h3, h4⟩ := hD
  refine ⟨dd, x, by rw [upd_ne (ne_of h1 hf (by intro z; cases z))]; exact h1, dx, r, as, by rw [upd_ne (ne_of h2 hf (by intro z; cases z))]; exact h2, ?_, Paired.mapP h4 fun _ _ z => WordAt.upd_lst hf z⟩
  rw [upd_ne ?_]
  · exact h3
  · rintro rfl
    exact hr ⟨CD, dd, x, CL, dx, h1, h2⟩
theorem DRow.other {H : Hp} {d f r : Addr} {xs ys : List V} (hf : H f = some (.lst xs)) (h : DRow (upd H f (.lst ys)) d r) : DRow H d r := by
  obtain ⟨C0, dd, x, C, dx, h1, h2⟩ := h
  have n1 : d ≠ f := by
    rintro rfl
    rw [upd_same] at h1
    cases h1
  have n2 : x ≠ f := by
    rintro rfl
    rw [upd_same] at h2
    cases h2
  rw [upd_ne n1] at h1
  rw [upd_ne n2] at h2
  exact ⟨C0, dd, x, C, dx, h1, h2⟩
section
variable {P : Program} {w : World} {K : PySem.W.Frag} {mg : PySem.Str → Option Value} {base : Heap} {CD CL : Addr}
/-! answers -/
abbrev s_answs : Stmt := top 58
theorem sc_answs : FnScope ["calls", "desk", "found", "at", "told"] ["calls"] (defScope s_answs) := ⟨rfl, rfl, rfl, by decide +kernel, rfl, by decide +kernel, by decide +kernel⟩
def sp_answs (K : PySem.W.Frag) : Sp := fun vs H Q _ => ∃ (a : Addr) (l : List Nat) (out : List Int), vs = [.ref a] ∧ SqL K H a (vN l) ∧ Lx.Run l [] 0 out ∧ out.length ≤ 10000000 ∧ ∀ p H', H p = none → KeepN H H' → H' p = some (.lst (vI out)) → Q (.ref p) H'
theorem ok_answs {f : Addr} {fd : FuncData} (F : L2.Fun K "answers" "answers" s_answs f fd) (T : Txt mg) (G1 : C8.Mak P w K mg base 3 "Desk" CD (sp_dinit CD CL) []) (G2 : C8.Cal P w K mg base 9 "answered" (sp_answd K CD CL) []) : FnOk P w K mg base CX0 10 f fd ["calls"] (sp_answs K) := by
  refine F.ok sc_answs (fun vs H Q E h => ?_) (fun cdv A outer s H vs Q E hr h => ?_)
  · obtain ⟨a, l, out, rfl, _⟩ := h
    rfl
  · obtain ⟨a, l, out, rfl, hl, hrun, ho, k⟩ := h
    refine ⟨_, pss_cons (ps_set (i := 1) sc_answs.nd rfl (.inl rfl) (pe_mk0 G1 hr (by decide) rfl))
      (pss_cons (ps_set (i := 2) sc_answs.nd rfl (.inl rfl) (pe_lst pa_nil))
      (pss_cons (ps_set (i := 3) sc_answs.nd rfl (.inl rfl) pe_int)
      (pss_cons (ps_while PassesOwn.never (pt_cmpR op_lt (pv 3) (pe_callB call_len_seq (by rfl) T.len PySem.boot_len (pa_cons (pv 0) pa_nil)) (nomark _))
        (pss_cons (ps_asg (C8.pe_c G2 hr (by decide) rfl (pa_cons (pv 1) (pa_cons (pv 0) (pa_cons (pv 3) pa_nil)))) (pg_unl (n := 2) rfl (pgs_cons (pg_name (i := 4) sc_answs.nd rfl (.inl rfl)) (pgs_cons (pg_name (i := 3) sc_answs.nd rfl (.inl rfl)) pgs_nil))))
        (pss_cons (ps_expr (pe_bm PySem.F.plainAttrs_list PySem.F.slot_list_append PySem.F.type_list_append mt_append (pv 2) (pa_cons (pe_callB call_len_seq (by rfl) T.len PySem.boot_len (pa_cons (pv 4) pa_nil)) pa_nil)))
        (pss_one (ps_expr (pe_bm PySem.F.plainAttrs_list PySem.F.slot_list_extend PySem.F.type_list_extend mt_extend (pv 2) (pa_cons (pv 4) pa_nil)))))))
      (pss_one (ps_ret (pv 2)))))), ?_⟩
    walk_at "sx"
    refine fun d dd hd hdd hne => ⟨d, dd, rfl, upd_same, fun H1 hD hk1 hv1 => ⟨rfl, Nat.zero_le _, fun fo hfo => ?_⟩⟩
    have n0 : Same H (upd (upd H dd (.own d)) d (.ins CD dd [])) := Same.trans (Same.new hdd) (Same.new (by rw [upd_ne (Ne.symm hne)]; exact hd))
    have hk0 := KeepN.trans (KeepN.same n0) hk1
    have hfo0 : H fo = none := Same.free n0 (hv1 fo hfo)
    have n1 := Same.new (o := .lst []) hfo
    refine while_by (fun σ H' => ∃ (L : List Sy.Word) (i : Nat) (v : Option V) (out1 rest : List Int), σ = [some (.ref a), some (.ref d), some (.ref fo), some (.int (i : Int)), v] ∧ KeepN H H' ∧ DeskAt CD CL H' d L ∧ H' fo = some (.lst (vI out1)) ∧ ¬ DRow H' d fo ∧ Lx.Run l L i rest ∧ out = out1 ++ rest)
      (fun σ _ => match σ with | [_, _, _, some (.int z), _] => l.length - z.toNat | _ => 0) ⟨[], 0, none, [], out, rfl, KeepN.trans hk0 (KeepN.same n1), DeskAt.same n1 hD, upd_same, ?_, hrun, rfl⟩ ?_ ?_
    · intro h
      obtain ⟨r0, as, g1, g2⟩ := DeskAt.row hD
      cases DRow.one (DRow.same n1 g1) h
      rw [hfo] at g2
      cases g2
    · rintro σ H' ⟨L, i, v, out1, rest, rfl, hk, hD', hf, hnr, hru, e⟩
      walk_at "sx"
      refine ⟨_, .inl (KeepN.seq hk hl), ?_⟩
      rw [vN_len]
      refine ⟨fun g => ?_, fun g => ?_⟩
      · cases hru with
        | fin => exact absurd g (by omega)
        | turn hg hc hin hru =>
          rename_i j c out2
          obtain ⟨hlt, hlj⟩ := hc.lt
          refine ⟨d, a, L, l, i, j, c, rfl, hD', KeepN.seq hk hl, hg, hc, hin, fun p q H2 hk2 hv2 hp hq hD2 h3 h4 => ?_⟩
          have hf2 := KeepN.lst hk2 hf
          have hnr2 : ¬ DRow H2 d fo := fun h => by
            rcases hv2.2 fo h with z | z
            · rw [hf] at z
              cases z
            · exact hnr z
          have hqf : q ≠ fo := Ne.symm (ne_of_none hf hq)
          have hlen := congrArg List.length e
          rw [List.length_append, List.length_append, List.length_cons] at hlen
          walk_at "sx"
          refine ⟨_, SqL.of h3, rfl, _, _, rfl, _, _, rfl, rfl, ?_⟩
          refine ⟨ty_list hf2, q, rfl, _, .inl (SqL.of h4), ?_⟩
          rw [vI_len]
          have hf3 : upd H2 fo (.lst (vI out1 ++ [V.int ((c.step L).2.length : Int)])) fo = some (.lst (vI out1 ++ [V.int ((c.step L).2.length : Int)])) := upd_same
          refine ⟨_, hf2, by rw [vI_len]; exact szt' (by omega), ty_list hf3, q, rfl, _, hf3, _, (upd_ne hqf).trans h4, ?_, ⟨(c.step L).1, j, rfl, KeepN.mut (KeepN.mut (KeepN.trans hk hk2) hfo0) hfo0, DeskAt.other (DeskAt.other hD2 hf2 hnr2) hf3 ?_, out1 ++ (((c.step L).2.length : Int) :: (c.step L).2), ?_, ?_, out2, hru, ?_⟩, ?_⟩
          · rw [List.length_append, vI_len, vI_len, List.length_singleton]
            exact Nat.le_of_lt (szt' (by omega))
          · exact fun z => hnr2 (DRow.other hf2 z)
          · rw [upd_same]
            unfold vI
            rw [List.append_assoc, List.map_append]
            rfl
          · exact fun z => hnr2 (DRow.other hf2 (DRow.other hf3 z))
          · rw [e, List.append_assoc]
          · show l.length - (j : Int).toNat < l.length - (i : Int).toNat
            omega
      · cases hru with
        | fin =>
          rw [List.append_nil] at e
          subst e
          exact k fo H' hfo0 hk hf
        | turn hg hc hin hru =>
          have := hc.lt
          exact absurd g (by omega)
    · intro σ H Q Q' hq h
      obtain ⟨v, h1, u, h2, p, ys, e, hs, i, j, e1, e2, k2, e3, hh⟩ := h
      exact ⟨v, h1, u, h2, p, ys, e, hs, i, j, e1, e2, k2, e3, hq _ _ hh⟩
end
end Sx
/-! ## W18 -/
namespace Sx
open PySem PySem.Spec PyProof.Rows L2
/-- what the top has written -/
structure Facts (K : PySem.W.Frag) (mg : PySem.Str → Option Value) (CL CD : Addr) : Prop where
  T : Txt mg
  TL : TxL K CL
  TD : TxD K CD
  d_isch : DefAt K mg "is_character" s_isch ["number"]
  d_arech : DefAt K mg "are_characters" s_arech ["row"]
  d_may : DefAt K mg "may_stand" s_may ["number"]
  d_allmay : DefAt K mg "all_may_stand" s_allmay ["row"]
  d_chb : DefAt K mg "character_bytes" s_chb ["number"]
  d_rowb : DefAt K mg "row_bytes" s_rowb ["row"]
  d_lenby : DefAt K mg "length_by" s_lenby ["byte"]
  d_begun : DefAt K mg "begun_with" s_begun ["byte", "long"]
  d_chat : DefAt K mg "character_at" s_chat ["row", "at"]
  d_chof : DefAt K mg "characters_of" s_chof ["row"]
  d_short : DefAt K mg "is_short" s_short ["row"]
  d_bounded : DefAt K mg "are_bounded" s_bounded ["left", "right", "cost"]
  d_isw : DefAt K mg "is_word" s_isw ["reading", "text", "left", "right", "cost"]
  d_made : DefAt K mg "made_word" s_made ["reading", "text", "left", "right", "cost"]
  d_rof : DefAt K mg "reading_of" s_rof ["word"]
  d_hasn : DefAt K mg "has_name" s_hasn ["word", "reading", "text"]
  d_byc : DefAt K mg "by_cost" s_byc ["word"]
  d_beg : DefAt K mg "begins" s_beg ["row", "whole"]
  d_linit : MakAt K mg "Lexicon" CL "Lexicon.__init__" s_linit ["self"]
  d_take : MetAt K CL "take" "Lexicon.take" s_take ["self", "words"]
  d_size : MetAt K CL "size" "Lexicon.size" s_size ["self"]
  d_has : MetAt K CL "has" "Lexicon.has" s_has ["self", "number"]
  d_word : MetAt K CL "word" "Lexicon.word" s_word ["self", "number"]
  d_lnum : MetAt K CL "number_of" "Lexicon.number_of" s_lnum ["self", "reading", "text"]
  d_full : MetAt K CL "is_full_for" "Lexicon.is_full_for" s_full ["self", "reading", "text"]
  d_ldrop : MetAt K CL "drop" "Lexicon.drop" s_ldrop ["self", "number"]
  d_lput : MetAt K CL "put" "Lexicon.put" s_lput ["self", "word"]
  d_lbef : MetAt K CL "before" "Lexicon.before" s_lbef ["self", "row"]
  d_lfound : MetAt K CL "found" "Lexicon.found" s_lfound ["self", "row"]
  d_lon : MetAt K CL "onward" "Lexicon.onward" s_lon ["self", "row"]
  d_llik : MetAt K CL "likely" "Lexicon.likely" s_llik ["self", "place", "row"]
  d_llen : MetAt K CL "lengths" "Lexicon.lengths" s_llen ["self", "row"]
  d_par : DefAt K mg "parted" s_par ["row", "at_sign"]
  d_isn : DefAt K mg "is_number" s_isn ["part"]
  d_numof : DefAt K mg "number_of" s_numof ["part"]
  d_arep : DefAt K mg "are_parts" s_arep ["parts"]
  d_pof : DefAt K mg "parts_of" s_pof ["line"]
  d_numsof : DefAt K mg "numbers_of" s_numsof ["parts"]
  d_wof : DefAt K mg "word_of" s_wof ["parts"]
  d_ist : DefAt K mg "is_told" s_ist ["words", "word"]
  d_decb : DefAt K mg "decimal_bytes" s_decb ["number"]
  d_lineb : DefAt K mg "line_bytes" s_lineb ["word"]
  d_fault : DefAt K mg "fault_of" s_fault ["line", "words"]
  d_readw : DefAt K mg "read_words" s_readw ["row"]
  d_frows : DefAt K mg "fault_of_rows" s_frows ["rows"]
  d_dinit : MakAt K mg "Desk" CD "Desk.__init__" s_dinit ["self"]
  d_dbeg : MetAt K CD "begin" "Desk.begin" s_dbeg ["self"]
  d_dread : MetAt K CD "read" "Desk.read" s_dread ["self", "row"]
  d_dwrite : MetAt K CD "write" "Desk.write" s_dwrite ["self"]
  d_dput : MetAt K CD "put" "Desk.put" s_dput ["self", "numbers", "reading", "text"]
  d_ddrop : MetAt K CD "drop" "Desk.drop" s_ddrop ["self", "number"]
  d_dget : MetAt K CD "get" "Desk.get" s_dget ["self", "number"]
  d_dnum : MetAt K CD "number" "Desk.number" s_dnum ["self", "reading", "text"]
  d_dlik : MetAt K CD "likely" "Desk.likely" s_dlik ["self", "place", "row"]
  d_dask : MetAt K CD "asked" "Desk.asked" s_dask ["self", "word", "row"]
  d_rowat : DefAt K mg "row_at" s_rowat ["calls", "at"]
  d_tworat : DefAt K mg "two_rows_at" s_tworat ["calls", "at"]
  d_plain : DefAt K mg "plain" s_plain ["desk", "word", "calls", "at"]
  d_answd : DefAt K mg "answered" s_answd ["desk", "calls", "at"]
section
variable {P : Program} {w : World} {K : PySem.W.Frag} {mg : PySem.Str → Option Value} {base : Heap} {CD CL : Addr}
theorem all_ok {f : Addr} {fd : FuncData} (F : Facts K mg CL CD) (FA : L2.Fun K "answers" "answers" s_answs f fd) : FnOk P w K mg base CX0 10 f fd ["calls"] (sp_answs K) := by
  have c_isch : C8.Cal P w K mg base 1 "is_character" sp_isch [] := ok_isch F.d_isch F.T
  have c_arech : C8.Cal P w K mg base 2 "are_characters" (sp_allN K Sy.isChar) [] := ok_arech F.d_arech c_isch
  have c_may : C8.Cal P w K mg base 2 "may_stand" sp_may [] := ok_may F.d_may c_isch
  have c_allmay : C8.Cal P w K mg base 3 "all_may_stand" (sp_allN K Sy.isSign) [] := ok_allmay F.d_allmay c_may
  have c_chb : C8.Cal P w K mg base 1 "character_bytes" sp_chb [] := ok_chb F.d_chb
  have c_rowb : C8.Cal P w K mg base 2 "row_bytes" (sp_rowb K) [] := ok_rowb F.d_rowb c_chb
  have c_lenby : C8.Cal P w K mg base 1 "length_by" sp_lenby [] := ok_lenby F.d_lenby
  have c_begun : C8.Cal P w K mg base 1 "begun_with" sp_begun [] := ok_begun F.d_begun
  have c_chat : C8.Cal P w K mg base 2 "character_at" (sp_chat K) [] := ok_chat F.d_chat F.T c_lenby c_begun c_isch c_chb
  have c_chof : C8.Cal P w K mg base 3 "characters_of" (sp_chof K) [] := ok_chof F.d_chof F.T c_chat
  have c_short : C8.Cal P w K mg base 1 "is_short" (sp_short K) [] := ok_short F.d_short F.T
  have c_bounded : C8.Cal P w K mg base 1 "are_bounded" sp_bounded [] := ok_bounded F.d_bounded F.T
  have c_isw : C8.Cal P w K mg base 4 "is_word" (sp_isw K) [] := ok_isw F.d_isw c_short c_bounded c_allmay
  have c_made : C8.Cal P w K mg base 1 "made_word" (sp_made K) [] := ok_made F.d_made F.T
  have c_rof : C8.Cal P w K mg base 1 "reading_of" sp_rof [] := ok_rof F.d_rof
  have c_hasn : C8.Cal P w K mg base 1 "has_name" (sp_hasn K) [] := ok_hasn F.d_hasn F.T
  have c_byc : ∃ (f : Addr) (fd : FuncData), FnOk P w K mg base CX0 1 f fd ["word"] sp_byc ∧ mg "by_cost" = some (.ref f) ∧ Binds K fd ["word"] [] := ok_byc F.d_byc
  have c_beg : C8.Cal P w K mg base 1 "begins" (sp_beg K) [] := ok_beg F.d_beg F.T
  have c_linit : C8.Mak P w K mg base 1 "Lexicon" CL (sp_linit CL) [] := ok_linit F.d_linit F.TL
  have c_take : C8.Met P w K mg base 1 CL "take" (sp_take K CL) [] := ok_take F.d_take F.T F.TL
  have c_size : C8.Met P w K mg base 1 CL "size" (sp_size CL) [] := ok_size F.d_size F.T F.TL
  have c_has : C8.Met P w K mg base 1 CL "has" (sp_has CL) [] := ok_has F.d_has F.T F.TL
  have c_word : C8.Met P w K mg base 1 CL "word" (sp_word CL) [] := ok_word F.d_word F.TL
  have c_lnum : C8.Met P w K mg base 2 CL "number_of" (sp_lnum K CL) [] := ok_lnum F.d_lnum F.T F.TL c_hasn
  have c_full : C8.Met P w K mg base 3 CL "is_full_for" (sp_full K CL) [] := ok_full F.d_full F.T F.TL c_lnum
  have c_ldrop : C8.Met P w K mg base 1 CL "drop" (sp_ldrop CL) [] := ok_ldrop F.d_ldrop F.TL
  have c_lput : C8.Met P w K mg base 3 CL "put" (sp_lput CL) [] := ok_lput F.d_lput F.T F.TL c_hasn c_lnum
  have c_lbef : C8.Met P w K mg base 2 CL "before" (sp_lbef K CL) [] := ok_lbef F.d_lbef F.T F.TL c_rof
  have c_lfound : C8.Met P w K mg base 3 CL "found" (sp_lfound K CL) [] := ok_lfound F.d_lfound F.T F.TL c_rof c_lbef
  have c_lon : C8.Met P w K mg base 2 CL "onward" (sp_lon K CL) [] := ok_lon F.d_lon F.T F.TL c_rof c_beg
  have c_llik : C8.Met P w K mg base 4 CL "likely" (sp_llik K CL) [] := ok_llik F.d_llik F.T F.TL c_byc c_lon c_lnum
  have c_llen : C8.Met P w K mg base 4 CL "lengths" (sp_llen K CL) [] := ok_llen F.d_llen F.T F.TL c_lfound
  have c_par : C8.Cal P w K mg base 1 "parted" (sp_par K) [] := ok_par F.d_par F.T
  have c_isn : C8.Cal P w K mg base 1 "is_number" (sp_isn K) [] := ok_isn F.d_isn F.T
  have c_numof : C8.Cal P w K mg base 1 "number_of" (sp_numof K) [] := ok_numof F.d_numof F.T
  have c_arep : C8.Cal P w K mg base 4 "are_parts" (sp_arep K) [] := ok_arep F.d_arep F.T c_allmay c_isn
  have c_pof : C8.Cal P w K mg base 5 "parts_of" (sp_pof K) [] := ok_pof F.d_pof F.T c_chof c_par c_arep
  have c_numsof : C8.Cal P w K mg base 2 "numbers_of" (sp_numsof K) [] := ok_numsof F.d_numsof c_numof
  have c_wof : C8.Cal P w K mg base 3 "word_of" (sp_wof K) [] := ok_wof F.d_wof c_numsof c_short c_bounded c_made
  have c_ist : C8.Cal P w K mg base 2 "is_told" (sp_ist K) [] := ok_ist F.d_ist c_hasn
  have c_decb : C8.Cal P w K mg base 1 "decimal_bytes" sp_decb [] := ok_decb F.d_decb F.T
  have c_lineb : C8.Cal P w K mg base 3 "line_bytes" sp_lineb [] := ok_lineb F.d_lineb F.T c_rowb c_decb
  have c_fault : C8.Cal P w K mg base 6 "fault_of" (sp_fault K) [] := ok_fault F.d_fault F.T c_pof c_wof c_ist
  have c_readw : C8.Cal P w K mg base 7 "read_words" (sp_readw K) [] := ok_readw F.d_readw F.T c_pof c_wof c_fault c_par
  have c_frows : C8.Cal P w K mg base 3 "fault_of_rows" (sp_frows K) [] := ok_frows F.d_frows F.T c_arech
  have c_dinit : C8.Mak P w K mg base 3 "Desk" CD (sp_dinit CD CL) [] := ok_dinit F.d_dinit F.TD c_linit
  have c_dbeg : C8.Met P w K mg base 3 CD "begin" (sp_dbeg CD CL) [] := ok_dbeg F.d_dbeg F.TD c_linit
  have c_dread : C8.Met P w K mg base 8 CD "read" (sp_dread K CD CL) [] := ok_dread F.d_dread F.T F.TD c_readw c_take
  have c_dwrite : C8.Met P w K mg base 4 CD "write" (sp_dwrite CD CL) [] := ok_dwrite F.d_dwrite F.T F.TD c_size c_word c_lineb
  have c_dput : C8.Met P w K mg base 5 CD "put" (sp_dput K CD CL) [] := ok_dput F.d_dput F.T F.TD c_isw c_full c_lput c_made
  have c_ddrop : C8.Met P w K mg base 2 CD "drop" (sp_ddrop CD CL) [] := ok_ddrop F.d_ddrop F.TD c_has c_ldrop
  have c_dget : C8.Met P w K mg base 2 CD "get" (sp_dget CD CL) [] := ok_dget F.d_dget F.T F.TD c_has c_word
  have c_dnum : C8.Met P w K mg base 4 CD "number" (sp_dnum K CD CL) [] := ok_dnum F.d_dnum F.TD c_frows c_lnum
  have c_dlik : C8.Met P w K mg base 5 CD "likely" (sp_dlik K CD CL) [] := ok_dlik F.d_dlik F.TD c_frows c_llik
  have c_dask : C8.Met P w K mg base 5 CD "asked" (sp_dask K CD CL) [] := ok_dask F.d_dask F.T F.TD c_frows c_lfound c_lon c_lbef c_llen
  have c_rowat : C8.Cal P w K mg base 1 "row_at" (sp_rowat K) [] := ok_rowat F.d_rowat
  have c_tworat : C8.Cal P w K mg base 2 "two_rows_at" (sp_tworat K) [] := ok_tworat F.d_tworat c_rowat
  have c_plain : C8.Cal P w K mg base 5 "plain" (sp_plain K CD CL) [] := ok_plain F.d_plain F.TD c_dbeg c_dwrite c_size c_ddrop c_dget
  have c_answd : C8.Cal P w K mg base 9 "answered" (sp_answd K CD CL) [] := ok_answd F.d_answd c_rowat c_tworat c_plain c_dread c_dput c_dnum c_dlik c_dask
  exact ok_answs FA F.T c_dinit c_answd
theorem def_mk {h : Heap} {x : PySem.Str} {st : Stmt} {ps : List PySem.Str} {f : Addr} {od an : Option Addr} {sl : Array (Option Value)} {oc kV dc pm cd ct : Value} (X : K.In h) (G : h.Ns mainGlobals mg)
    (hb : ∀ (kV doc pm : Value) (an : Option Addr) (cdv ct : Value) (us : List Value), us.length = ps.length → bindArgs (PySem.W.fnOf x x (defArgs st) (defBody st) (defScope st) .none kV doc pm an cdv ct) ⟨us, []⟩ = pure (ps.zip us))
    (a : PySem.W.nsIn K mainGlobals x = some (some (.ref f))) (l : K.lookup f = some ⟨oc, od, .func (PySem.W.fnOf x x (defArgs st) (defBody st) (defScope st) .none kV dc pm an cd ct), sl⟩) (c : PySem.W.codeIn K cd x = true) (k : PySem.W.keepIn K (.ref f) = true) : DefAt K mg x st ps :=
  ⟨f, _, fun_mk l c k, PySem.W.mg_of X G a, (fun_mk l c k).binds hb⟩
theorem met_mk {C : Addr} {m qual : PySem.Str} {st : Stmt} {ps : List PySem.Str} {f : Addr} {od an : Option Addr} {sl : Array (Option Value)} {oc kV dc pm cd ct : Value} (hc : Cls K C)
    (hb : ∀ (kV doc pm : Value) (an : Option Addr) (cdv ct : Value) (us : List Value), us.length = ps.length → bindArgs (PySem.W.fnOf m qual (defArgs st) (defBody st) (defScope st) .none kV doc pm an cdv ct) ⟨us, []⟩ = pure (ps.zip us))
    (a : PySem.W.findIn K (.ref C) m = some (some (.ref f))) (i : PySem.W.isFn K (.ref f) = true) (l : K.lookup f = some ⟨oc, od, .func (PySem.W.fnOf m qual (defArgs st) (defBody st) (defScope st) .none kV dc pm an cd ct), sl⟩) (c : PySem.W.codeIn K cd qual = true) (k : PySem.W.keepIn K (.ref f) = true) : MetAt K C m qual st ps :=
  ⟨f, _, fun_mk l c k, hc, ⟨a, i, k⟩, (fun_mk l c k).binds hb⟩
theorem mak_mk {h : Heap} {x : PySem.Str} {C : Addr} {qual : PySem.Str} {st : Stmt} {ps : List PySem.Str} {f : Addr} {od an : Option Addr} {sl : Array (Option Value)} {oc kV dc pm cd ct : Value} (X : K.In h) (G : h.Ns mainGlobals mg)
    (hb : ∀ (kV doc pm : Value) (an : Option Addr) (cdv ct : Value) (us : List Value), us.length = ps.length → bindArgs (PySem.W.fnOf "__init__" qual (defArgs st) (defBody st) (defScope st) .none kV doc pm an cdv ct) ⟨us, []⟩ = pure (ps.zip us))
    (aC : PySem.W.nsIn K mainGlobals x = some (some (.ref C))) (mk : PySem.W.makesIn K C = true) (kc : PySem.W.keepIn K (.ref C) = true)
    (a : PySem.W.findIn K (.ref C) "__init__" = some (some (.ref f))) (i : PySem.W.isFn K (.ref f) = true) (l : K.lookup f = some ⟨oc, od, .func (PySem.W.fnOf "__init__" qual (defArgs st) (defBody st) (defScope st) .none kV dc pm an cd ct), sl⟩) (c : PySem.W.codeIn K cd qual = true) (k : PySem.W.keepIn K (.ref f) = true) : MakAt K mg x C qual st ps :=
  ⟨f, _, fun_mk l c k, ⟨mk, a, i, kc⟩, PySem.W.mg_of X G aC, (fun_mk l c k).binds hb⟩
theorem gi_mk {h : Heap} {x : PySem.Str} {n : Int} {t : Tok} (X : K.In h) (G : h.Ns mainGlobals mg) (a : PySem.W.nsIn K mainGlobals x = some (some (.int n t))) : GI mg x n := ⟨t, PySem.W.mg_of X G a⟩
theorem all_mk {h : Heap} {fa f : Addr} {od an : Option Addr} {sl : Array (Option Value)} {oc kV dc pm cd ct : Value} (X : K.In h) (G : h.Ns mainGlobals mg) (hfa : mg "answers" = some (.ref fa))
    (a : PySem.W.nsIn K mainGlobals "answers" = some (some (.ref f))) (l : K.lookup f = some ⟨oc, od, .func (PySem.W.fnOf "answers" "answers" (defArgs s_answs) (defBody s_answs) (defScope s_answs) .none kV dc pm an cd ct), sl⟩) (c : PySem.W.codeIn K cd "answers" = true) (k : PySem.W.keepIn K (.ref f) = true)
    (F : Facts K mg CL CD) : ∃ fd : FuncData, (∀ (s : Shared) (us : List Value), us.length = (["calls"] : List PySem.Str).length → BindsTo s fd ⟨us, []⟩ ((["calls"] : List PySem.Str).zip us)) ∧ ∀ base : Heap, K.In base → base.Ns mainGlobals mg → FnOk P w K mg base CX0 10 fa fd ["calls"] (sp_answs K) := by
  have e := hfa.symm.trans (PySem.W.mg_of X G a)
  cases e
  exact ⟨_, fun s us hu => match us, hu with | [_], _ => .of_eq rfl, fun base _ _ => all_ok F (fun_mk l c k)⟩
end
end Sx
/-! ## Lx4 -/
/-! Lx4: a line of bytes as a word, a lexicon's text read. -/
namespace Lx
open Sy
theorem bn_cons (c : UInt8) (b : Bytes) : bn (c :: b) = c.toNat :: bn b := rfl
theorem u8_eq {c : UInt8} {n : Nat} (h : n < 256) : c = UInt8.ofNat n ↔ c.toNat = n := by
  constructor
  · rintro rfl
    rw [UInt8.toNat_ofNat', Nat.mod_eq_of_lt h]
  · intro e
    apply UInt8.toNat_inj.mp
    rw [UInt8.toNat_ofNat', Nat.mod_eq_of_lt h]
    exact e
theorem parted_bn : ∀ b : Bytes, (parted b).map bn = parN 32 (bn b)
  | [] => rfl
  | c :: b => by
    have ih := parted_bn b
    have e : parted (c :: b) = if c = 0x20 then [] :: parted b else match parted b with
      | p :: r => (c :: p) :: r
      | [] => [[c]] := rfl
    have hc : c = 0x20 ↔ c.toNat = 32 := u8_eq (c := c) (n := 32) (by decide)
    rw [bn_cons, e]
    unfold parN
    rw [← ih]
    by_cases h : c = 0x20
    · rw [if_pos h, if_pos (hc.mp h)]
      rfl
    · rw [if_neg h, if_neg (fun g => h (hc.mpr g))]
      cases parted b with
      | nil => rfl
      | cons p r => rfl
def foldN (l : List Nat) : Nat := l.foldl (fun n c => 10 * n + (c - 48)) 0
theorem fold_bn (b : Bytes) : b.foldl (fun (n : Nat) (c : UInt8) => 10 * n + (c.toNat - 0x30)) 0 = foldN (bn b) := by
  unfold foldN bn
  rw [List.foldl_map]
theorem num_bn (b : Bytes) : decimalOf b = if numOk (bn b) = true then some (foldN (bn b)) else none := by
  unfold decimalOf
  rw [fold_bn]
  have e : (!b.isEmpty ∧ (b.length = 1 ∨ b.head? ≠ some 0x30) ∧ b.all (fun (c : UInt8) => decide (0x30 ≤ c.toNat) && decide (c.toNat ≤ 0x39)) = true) ↔ numOk (bn b) = true := by
    unfold numOk
    rw [Bool.and_eq_true, Bool.and_eq_true, Bool.or_eq_true]
    have e1 : (bn b).isEmpty = b.isEmpty := by cases b <;> rfl
    have e2 : (bn b).all (fun c => decide (48 ≤ c) && decide (c ≤ 57)) = b.all (fun (c : UInt8) => decide (0x30 ≤ c.toNat) && decide (c.toNat ≤ 0x39)) := by
      unfold bn
      rw [List.all_map]
      rfl
    rw [e1, e2, bn_len, decide_eq_true_eq]
    cases b with
    | nil => simp
    | cons c r =>
      have hc : c = 0x30 ↔ c.toNat = 48 := u8_eq (c := c) (n := 48) (by decide)
      have e3 : ((c :: r).head? ≠ some 0x30) ↔ ((bn (c :: r)).head? != some 48) = true := by
        rw [bn_cons, List.head?_cons, List.head?_cons, bne_iff_ne]
        simp only [ne_eq, Option.some.injEq, hc]
      rw [e3]
      generalize ((c :: r).all fun c => decide (48 ≤ c.toNat) && decide (c.toNat ≤ 57)) = z1
      generalize ((bn (c :: r)).head? != some 48) = z2
      have hlen : (c :: r).length = r.length + 1 := rfl
      constructor
      · intro ⟨_, h, g⟩
        refine ⟨⟨rfl, ?_⟩, g⟩
        rcases h with h | h
        · exact .inl (Nat.le_of_eq h)
        · exact .inr h
      · intro ⟨⟨_, h⟩, g⟩
        refine ⟨rfl, ?_, g⟩
        rcases h with h | h
        · exact .inl (by omega)
        · exact .inr h
  by_cases h : numOk (bn b) = true
  · rw [if_pos h, if_pos (e.mpr h)]
  · rw [if_neg h, if_neg (fun g => h (e.mp g))]
def sgn (l : List Nat) : Option (List Nat) := (chN l).bind fun t => if !t.isEmpty ∧ t.all isSign = true then some t else none
def dcl (l : List Nat) : Option Nat := if numOk l = true then some (foldN l) else none
def wordL (ps : List (List Nat)) : Option Word := match ps with
  | [r, t, x, y, c] => (sgn r).bind fun r => (sgn t).bind fun t => (dcl x).bind fun x => (dcl y).bind fun y => (dcl c).map fun c => ⟨r, t, x, y, c⟩
  | _ => none
theorem wordOf_bn (b : Bytes) : wordOf b = wordL (parN 32 (bn b)) := by
  rw [← parted_bn]
  unfold wordOf
  match parted b with
  | [] => rfl
  | [_] => rfl
  | [_, _] => rfl
  | [_, _, _] => rfl
  | [_, _, _, _] => rfl
  | [r, t, x, y, c] =>
    show _ = (sgn (bn r)).bind fun r => (sgn (bn t)).bind fun t => (dcl (bn x)).bind fun x => (dcl (bn y)).bind fun y => (dcl (bn c)).map fun c => _
    unfold sgn dcl
    rw [chN_bn, chN_bn, ← num_bn, ← num_bn, ← num_bn]
    rfl
  | _ :: _ :: _ :: _ :: _ :: _ :: _ => rfl
/-! parts of characters -/
theorem cb_no32 {c : Nat} (h : c ≠ 32) : ∀ x ∈ cb c, x ≠ 32 := by
  intro x hx
  unfold cb at hx
  split at hx
  · rw [List.mem_singleton.mp hx]
    exact h
  · split at hx
    · simp only [List.mem_cons, List.not_mem_nil, or_false] at hx
      omega
    · split at hx <;> simp only [List.mem_cons, List.not_mem_nil, or_false] at hx <;> omega
theorem par_pre {s : Nat} {r : List Nat} : ∀ {m : List Nat}, (∀ c ∈ m, c ≠ s) → ∃ p ps, parN s r = p :: ps ∧ parN s (m ++ r) = (m ++ p) :: ps
  | [], _ => by
    cases e : parN s r with
    | nil => exact absurd e (par_ne s r)
    | cons p ps => exact ⟨p, ps, rfl, e⟩
  | c :: m, h => by
    obtain ⟨p, ps, e1, e2⟩ := par_pre (m := m) (r := r) fun d hd => h d (List.mem_cons_of_mem _ hd)
    refine ⟨p, ps, e1, ?_⟩
    show (if c = s then [] :: parN s (m ++ r) else match parN s (m ++ r) with | p :: ps => (c :: p) :: ps | [] => [[c]]) = _
    rw [if_neg (h c List.mem_cons_self), e2]
    rfl
theorem par_cbs : ∀ t : List Nat, parN 32 (cbs t) = (parN 32 t).map cbs
  | [] => rfl
  | c :: t => by
    have ih := par_cbs t
    have e : cbs (c :: t) = cb c ++ cbs t := rfl
    by_cases h : c = 32
    · subst h
      show parN 32 (32 :: cbs t) = _
      rw [parN, if_pos rfl, parN, if_pos rfl, ih]
      rfl
    · obtain ⟨p, ps, e1, e2⟩ := par_pre (s := 32) (r := cbs t) (cb_no32 h)
      rw [e, e2]
      rw [ih] at e1
      rw [parN, if_neg h]
      cases z : parN 32 t with
      | nil => exact absurd z (par_ne 32 t)
      | cons q qs =>
        rw [z] at e1
        have e3 : cbs q :: qs.map cbs = p :: ps := e1
        cases e3
        rfl
theorem par_text {s : Nat} {t : List Nat} (h : isText t = true) : ∀ p ∈ parN s t, isText p = true := fun p hp => by
  unfold isText at *
  rw [List.all_eq_true] at *
  exact fun c hc => h c ((par_mem hp).1 c hc)
theorem cbs_low : ∀ {l : List Nat}, (∀ c ∈ l, c < 128) → cbs l = l
  | [], _ => rfl
  | c :: l, h => by
    show cb c ++ cbs l = _
    rw [cbs_low fun d hd => h d (List.mem_cons_of_mem _ hd)]
    unfold cb
    rw [if_pos (h c List.mem_cons_self)]
    rfl
theorem num_low {l : List Nat} (h : numOk l = true) : ∀ c ∈ l, 48 ≤ c ∧ c ≤ 57 := by
  unfold numOk at h
  rw [Bool.and_eq_true] at h
  intro c hc
  have := List.all_eq_true.mp h.2 c hc
  rw [Bool.and_eq_true, decide_eq_true_eq, decide_eq_true_eq] at this
  exact this
theorem cb_high {c : Nat} (h : ∀ x ∈ cb c, x ≤ 57) : c < 128 := by
  unfold cb at h
  split at h
  · assumption
  · split at h
    · have := h (192 + c / 64) (by simp)
      omega
    · split at h
      · have := h (224 + c / 4096) (by simp)
        omega
      · have := h (240 + c / 262144) (by simp)
        omega
theorem num_cbs (l : List Nat) : numOk (cbs l) = numOk l := by
  by_cases hl : ∀ c ∈ l, c < 128
  · rw [cbs_low hl]
  · have h1 : ¬ numOk (cbs l) = true := fun g => hl fun c hc => cb_high fun x hx => (num_low g x (List.mem_flatMap.mpr ⟨c, hc, hx⟩)).2
    have h2 : ¬ numOk l = true := fun g => hl fun c hc => by have := num_low g c hc; omega
    rw [Bool.not_eq_true] at h1 h2
    rw [h1, h2]
theorem dcl_cbs (l : List Nat) : dcl (cbs l) = dcl l := by
  unfold dcl
  rw [num_cbs]
  by_cases h : numOk l = true
  · rw [cbs_low fun c hc => by have := num_low h c hc; omega]
  · rw [if_neg h, if_neg h]
theorem chN_cbs {t : List Nat} (h : isText t = true) : chN (cbs t) = some t := by
  rw [← bn_utf8s h, chN_bn]
  exact chars_iff.mpr ⟨h, rfl⟩
theorem chN_some {l t : List Nat} (hl : ∀ x ∈ l, x < 256) (h : chN l = some t) : isText t = true ∧ l = cbs t := by
  unfold chN at h
  obtain ⟨h1, h2⟩ := chars_iff.mp h
  refine ⟨h1, ?_⟩
  have h3 := congrArg bn h2
  rw [bn_ofNat hl, bn_utf8s h1] at h3
  exact h3
theorem sgn_cbs {t : List Nat} (h : isText t = true) : sgn (cbs t) = if !t.isEmpty ∧ t.all isSign = true then some t else none := by
  unfold sgn
  rw [chN_cbs h]
  rfl
/-! a line joined -/
def joinN (s : Nat) : List (List Nat) → List Nat
  | [] => []
  | [p] => p
  | p :: q :: r => p ++ s :: joinN s (q :: r)
theorem par_join (s : Nat) : ∀ l : List Nat, joinN s (parN s l) = l
  | [] => rfl
  | c :: l => by
    have ih := par_join s l
    unfold parN
    split
    · rename_i h
      cases e : parN s l with
      | nil => exact absurd e (par_ne s l)
      | cons p ps =>
        rw [e] at ih
        show s :: joinN s (p :: ps) = _
        rw [ih, h]
    · split
      · rename_i p ps e
        rw [e] at ih
        cases ps with
        | nil =>
          show c :: p = _
          have : p = l := ih
          rw [this]
        | cons q qs =>
          show c :: (p ++ s :: joinN s (q :: qs)) = _
          have : p ++ s :: joinN s (q :: qs) = l := ih
          rw [this]
      · rename_i e
        exact absurd e (par_ne s l)
theorem cbs_32 (b : List Nat) : cbs (32 :: b) = 32 :: cbs b := rfl
theorem isText_app {a b : List Nat} (h1 : isText a = true) (h2 : isText b = true) : isText (a ++ b) = true := by
  unfold isText at *
  rw [List.all_append, h1, h2]
  rfl
theorem isText_32 {b : List Nat} (h : isText b = true) : isText (32 :: b) = true := by
  unfold isText at *
  rw [List.all_cons, h]
  rfl
theorem num_text {l : List Nat} (h : numOk l = true) : isText l = true := by
  unfold isText
  rw [List.all_eq_true]
  intro c hc
  have := num_low h c hc
  unfold isChar
  rw [Bool.and_eq_true, decide_eq_true_eq, Bool.not_eq_true', Bool.and_eq_false_iff, decide_eq_false_iff_not]
  exact ⟨by omega, .inl (by omega)⟩
/-! clamped numbers -/
theorem clamp_go : ∀ (l : List Nat) (a : Nat), l.foldl (fun n c => min (10 * n + (c - 48)) 1000000) (min a 1000000) = min (l.foldl (fun n c => 10 * n + (c - 48)) a) 1000000
  | [], a => rfl
  | c :: l, a => by
    rw [List.foldl_cons, List.foldl_cons, ← clamp_go l]
    congr 1
    omega
theorem clamp_eq (l : List Nat) : clampN l = min (foldN l) 1000000 := clamp_go l 0
theorem small_clamp (r t x y c : List Nat) : (⟨r, t, clampN x, clampN y, clampN c⟩ : Word).small = (⟨r, t, foldN x, foldN y, foldN c⟩ : Word).small := by
  unfold Word.small SIGNS SORTS COST
  rw [Bool.eq_iff_iff]
  simp only [Bool.and_eq_true, decide_eq_true_eq, clamp_eq]
  constructor
  · rintro ⟨h1, h2, h3, h4, h5⟩
    exact ⟨h1, h2, by omega, by omega, by omega⟩
  · rintro ⟨h1, h2, h3, h4, h5⟩
    exact ⟨h1, h2, by omega, by omega, by omega⟩
theorem wordN_fold (r t x y c : List Nat) : wordN [r, t, x, y, c] = if (⟨r, t, foldN x, foldN y, foldN c⟩ : Word).small = true then some ⟨r, t, foldN x, foldN y, foldN c⟩ else none := by
  have e : wordN [r, t, x, y, c] = if (⟨r, t, clampN x, clampN y, clampN c⟩ : Word).small = true then some ⟨r, t, clampN x, clampN y, clampN c⟩ else none := rfl
  rw [e, small_clamp]
  by_cases h : (⟨r, t, foldN x, foldN y, foldN c⟩ : Word).small = true
  · rw [if_pos h, if_pos h]
    have hs := h
    unfold Word.small SORTS COST at hs
    simp only [Bool.and_eq_true, decide_eq_true_eq] at hs
    obtain ⟨_, _, h3, h4, h5⟩ := hs
    rw [clamp_eq, clamp_eq, clamp_eq, Nat.min_eq_left (by omega), Nat.min_eq_left (by omega), Nat.min_eq_left (by omega)]
  · rw [if_neg h, if_neg h]
/-- a line read, here and there -/
theorem word_line (b : Bytes) : match partsN (bn b) with
    | none => wordOf b = none
    | some nss => ∃ u, wordOf b = some u ∧ wordN nss = (if u.small = true then some u else none) ∧ (u.small = true → u.ok = true) := by
  rw [wordOf_bn]
  have hlt := bn_lt b
  generalize bn b = l at hlt
  unfold partsN
  cases e : chN l with
  | none =>
    show wordL (parN 32 l) = none
    cases g : wordL (parN 32 l) with
    | none => rfl
    | some u =>
      exfalso
      have hj := par_join 32 l
      have hm : ∀ p ∈ parN 32 l, ∀ x ∈ p, x < 256 := fun p hp x hx => hlt x ((par_mem hp).1 x hx)
      unfold wordL at g
      split at g
      · rename_i r t x y c e1
        rw [e1] at hj hm
        cases g1 : sgn r with
        | none => rw [g1] at g; cases g
        | some r' =>
          cases g2 : sgn t with
          | none => rw [g1, g2] at g; cases g
          | some t' =>
            rw [g1, g2] at g
            cases g3 : dcl x with
            | none => rw [g3] at g; cases g
            | some x' =>
              rw [g3] at g
              cases g4 : dcl y with
              | none => rw [g4] at g; cases g
              | some y' =>
                rw [g4] at g
                cases g5 : dcl c with
                | none => rw [g5] at g; cases g
                | some c' =>
                  have k1 : ∀ {l t : List Nat}, (∀ x ∈ l, x < 256) → sgn l = some t → isText t = true ∧ l = cbs t := fun {l t} hl h => by
                    unfold sgn at h
                    cases z : chN l with
                    | none => rw [z] at h; cases h
                    | some v =>
                      rw [z] at h
                      have h' : (if !v.isEmpty ∧ v.all isSign = true then some v else none) = some t := h
                      split at h'
                      · cases h'
                        exact chN_some hl z
                      · cases h'
                  have k2 : ∀ {l : List Nat} {n : Nat}, dcl l = some n → isText l = true ∧ l = cbs l := fun {l n} h => by
                    unfold dcl at h
                    split at h
                    · rename_i q
                      exact ⟨num_text q, (cbs_low fun c hc => by have := num_low q c hc; omega).symm⟩
                    · cases h
                  obtain ⟨a1, a2⟩ := k1 (hm r (by simp)) g1
                  obtain ⟨b1, b2⟩ := k1 (hm t (by simp)) g2
                  obtain ⟨x1, x2⟩ := k2 g3
                  obtain ⟨y1, y2⟩ := k2 g4
                  obtain ⟨c1, c2⟩ := k2 g5
                  have hl : l = cbs (r' ++ 32 :: (t' ++ 32 :: (x ++ 32 :: (y ++ 32 :: c)))) := by
                    rw [cbs_app, cbs_32, cbs_app, cbs_32, cbs_app, cbs_32, cbs_app, cbs_32, ← a2, ← b2, ← x2, ← y2, ← c2]
                    exact hj.symm
                  have ht := chN_cbs (isText_app a1 (isText_32 (isText_app b1 (isText_32 (isText_app x1 (isText_32 (isText_app y1 (isText_32 c1))))))))
                  rw [← hl, e] at ht
                  cases ht
      · cases g
  | some cs =>
    obtain ⟨h1, h2⟩ := chN_some hlt e
    have hpt : ∀ p ∈ parN 32 cs, isText p = true := par_text h1
    rw [h2, par_cbs]
    show match (if partsOk (parN 32 cs) = true then some (parN 32 cs) else none) with
      | none => wordL ((parN 32 cs).map cbs) = none
      | some nss => ∃ u, wordL ((parN 32 cs).map cbs) = some u ∧ wordN nss = (if u.small = true then some u else none) ∧ (u.small = true → u.ok = true)
    generalize parN 32 cs = nss at hpt
    match nss, hpt with
    | [], _ => exact rfl
    | [_], _ => exact rfl
    | [_, _], _ => exact rfl
    | [_, _, _], _ => exact rfl
    | [_, _, _, _], _ => exact rfl
    | _ :: _ :: _ :: _ :: _ :: _ :: _, _ => exact rfl
    | [r, t, x, y, c], hpt =>
      have ew : wordL ([r, t, x, y, c].map cbs) = (sgn (cbs r)).bind fun r => (sgn (cbs t)).bind fun t => (dcl (cbs x)).bind fun x => (dcl (cbs y)).bind fun y => (dcl (cbs c)).map fun c => ⟨r, t, x, y, c⟩ := rfl
      have ep : partsOk [r, t, x, y, c] = (!r.isEmpty && (!t.isEmpty && (r.all isSign && (t.all isSign && (numOk x && (numOk y && numOk c)))))) := rfl
      rw [ew, sgn_cbs (hpt r (by simp)), sgn_cbs (hpt t (by simp)), dcl_cbs, dcl_cbs, dcl_cbs]
      by_cases hok : partsOk [r, t, x, y, c] = true
      · rw [if_pos hok]
        rw [ep] at hok
        simp only [Bool.and_eq_true] at hok
        obtain ⟨p1, p2, p3, p4, p5, p6, p7⟩ := hok
        refine ⟨⟨r, t, foldN x, foldN y, foldN c⟩, ?_, wordN_fold r t x y c, fun hs => ?_⟩
        · unfold dcl
          rw [if_pos ⟨p1, p3⟩, if_pos ⟨p2, p4⟩, if_pos p5, if_pos p6, if_pos p7]
          rfl
        · unfold Word.ok
          rw [hs, p1, p2, p3, p4]
          rfl
      · rw [if_neg hok]
        show _ = none
        rw [ep] at hok
        unfold dcl
        by_cases q1 : (!r.isEmpty) = true ∧ r.all isSign = true
        · by_cases q2 : (!t.isEmpty) = true ∧ t.all isSign = true
          · by_cases q3 : numOk x = true
            · by_cases q4 : numOk y = true
              · by_cases q5 : numOk c = true
                · exact absurd (by rw [q1.1, q1.2, q2.1, q2.2, q3, q4, q5]; rfl) hok
                · rw [if_pos q1, if_pos q2, if_pos q3, if_pos q4, if_neg q5]
                  rfl
              · rw [if_pos q1, if_pos q2, if_pos q3, if_neg q4]
                rfl
            · rw [if_pos q1, if_pos q2, if_neg q3]
              rfl
          · rw [if_pos q1, if_neg q2]
            rfl
        · rw [if_neg q1]
          rfl
end Lx
/-! ## Lx5 -/
/-! Lx5: a lexicon's text read, line by line. -/
namespace Lx
open Sy
theorem fault_none {l : List Nat} {ws : List Word} (h : partsN l = none) : faultN l ws = 1 := by
  unfold faultN
  rw [h]
theorem fault_big {l : List Nat} {ws : List Word} {nss : List (List Nat)} (h : partsN l = some nss) (h2 : wordN nss = none) : faultN l ws = 2 := by
  unfold faultN
  rw [h]
  simp only [h2]
theorem fault_word {l : List Nat} {ws : List Word} {nss : List (List Nat)} {w : Word} (h : partsN l = some nss) (h2 : wordN nss = some w) : faultN l ws = if ws.any (fun q => q.same w) = true then 3 else if ws.length = 128 then 4 else 0 := by
  unfold faultN
  rw [h]
  simp only [h2]
theorem take_line : ∀ b : Bytes, ∃ l t, b.takeWhile (fun (c : UInt8) => c != 0x0A) = l ∧ b = l ++ t ∧ (∀ c ∈ l, c ≠ 0x0A) ∧ (t = [] ∨ ∃ r, t = 0x0A :: r)
  | [] => ⟨[], [], rfl, rfl, fun c hc => (by cases hc), .inl rfl⟩
  | c :: b => by
    by_cases h : c = 0x0A
    · subst h
      exact ⟨[], 0x0A :: b, rfl, rfl, fun c hc => (by cases hc), .inr ⟨b, rfl⟩⟩
    · obtain ⟨l, t, e1, e2, e3, e4⟩ := take_line b
      refine ⟨c :: l, t, ?_, by rw [e2]; rfl, fun d hd => ?_, e4⟩
      · rw [List.takeWhile_cons, if_pos (by simpa using h), e1]
      · rcases List.mem_cons.mp hd with rfl | hd
        · exact h
        · exact e3 d hd
theorem no_feed {l : Bytes} (h : ∀ c ∈ l, c ≠ 0x0A) : ∀ c ∈ bn l, c ≠ 10 := by
  intro c hc z
  obtain ⟨u, hu, rfl⟩ := List.mem_map.mp hc
  exact h u hu ((u8_eq (c := u) (n := 10) (by decide)).mpr z)
/-- one line of the specification's reading -/
theorem spec_step (n i : Nat) (b : Bytes) (L : Lexicon) (hb : b ≠ []) {l t : Bytes} (h1 : b.takeWhile (fun (c : UInt8) => c != 0x0A) = l) (h2 : b = l ++ t) : readWordsFrom (n + 1) i b L = match (generalizing := false) t, wordOf l with
    | _ :: r, some w => if w.small = false then .error (i, 2) else if L.any (fun (q : Word) => q.same w) = true then .error (i, 3) else if WORDS ≤ i then .error (i, 4) else readWordsFrom n (i + 1) r (putWord w L)
    | _, _ => .error (i, 1) := by
  have hd : b.drop l.length = t := by
    rw [h2]
    exact List.drop_left
  cases b with
  | nil => exact absurd rfl hb
  | cons c b =>
    rw [readWordsFrom]
    · show (match (c :: b).drop ((c :: b).takeWhile fun (c : UInt8) => c != 0x0A).length, wordOf ((c :: b).takeWhile fun (c : UInt8) => c != 0x0A) with | _ :: r, some w => _ | _, _ => _) = _
      rw [h1, hd]
      rfl
    · simp
theorem read_go : ∀ (n i : Nat) (b : Bytes) (L ws : List Word), b.length ≤ n → L.Perm ws → Srt L → Dst L → ws.length = i → i ≤ 128 → (∀ w ∈ L, w.ok = true) → match readWordsFrom n i b L with
    | .ok M => ∃ ws', readGo (parN 10 (bn b)) i ws = (ws', 0, 0) ∧ M.Perm ws' ∧ Srt M ∧ Dst M ∧ M.length ≤ 128 ∧ ∀ w ∈ M, w.ok = true
    | .error (j, k) => ∃ ws', readGo (parN 10 (bn b)) i ws = (ws', j, k) ∧ 0 < k
  | n, i, [], L, ws, _, hp, hs, hd, hi, hi2, hok => by
    have e : readWordsFrom n i [] L = .ok L := by cases n <;> rfl
    rw [e]
    exact ⟨ws, rfl, hp, hs, hd, by rw [hp.length_eq, hi]; exact hi2, hok⟩
  | 0, i, _ :: _, L, ws, hb, _, _, _, _, _, _ => absurd hb (by simp)
  | n + 1, i, c :: b, L, ws, hb, hp, hs, hd, hi, hi2, hok => by
    obtain ⟨l, t, e1, e2, e3, e4⟩ := take_line (c :: b)
    have hnf := no_feed e3
    rw [spec_step n i (c :: b) L (by simp) e1 e2]
    rcases e4 with rfl | ⟨r, rfl⟩
    · show ∃ ws', readGo (parN 10 (bn (c :: b))) i ws = (ws', i, 1) ∧ 0 < 1
      refine ⟨ws, ?_, by decide⟩
      rw [List.append_nil] at e2
      rw [e2, par_all hnf]
      show (if bn l = [] then (ws, 0, 0) else (ws, i, 1)) = _
      rw [if_neg]
      rw [← e2]
      simp [bn]
    · have eb : bn (c :: b) = bn l ++ 10 :: bn r := by
        rw [e2, bn_app]
        rfl
      rw [eb, par_cut hnf]
      obtain ⟨m, rest, em⟩ : ∃ m rest, parN 10 (bn r) = m :: rest := by
        cases e : parN 10 (bn r) with
        | nil => exact absurd e (par_ne 10 _)
        | cons m rest => exact ⟨m, rest, rfl⟩
      have ego : ∀ ws, readGo (bn l :: parN 10 (bn r)) i ws = if 0 < faultN (bn l) ws then (ws, i, faultN (bn l) ws) else match lineW (bn l) with
          | some w => readGo (parN 10 (bn r)) (i + 1) (ws ++ [w])
          | none => (ws, i, 1) := fun ws => by
        rw [em]
        rfl
      rw [ego]
      have hw := word_line l
      cases ep : partsN (bn l) with
      | none =>
        rw [ep] at hw
        have hw' : wordOf l = none := hw
        rw [hw', fault_none ep]
        exact ⟨ws, rfl, by decide⟩
      | some nss =>
        rw [ep] at hw
        obtain ⟨u, hu1, hu2, hu3⟩ := hw
        rw [hu1]
        show match (if u.small = false then Except.error (i, 2) else if L.any (fun (q : Word) => q.same u) = true then .error (i, 3) else if WORDS ≤ i then .error (i, 4) else readWordsFrom n (i + 1) r (putWord u L) : Except (Nat × Nat) Lexicon) with
          | .ok M => _
          | .error (j, k) => _
        by_cases hsm : u.small = true
        · rw [if_pos hsm] at hu2
          rw [if_neg (by rw [hsm]; decide), fault_word ep hu2, hp.any_eq]
          by_cases ha : ws.any (fun q => q.same u) = true
          · rw [if_pos ha, if_pos ha]
            exact ⟨ws, rfl, by decide⟩
          · rw [if_neg ha, if_neg ha]
            by_cases hc : WORDS ≤ i
            · have hc2 : ws.length = 128 := by
                unfold WORDS at hc
                omega
              rw [if_pos hc, if_pos hc2]
              exact ⟨ws, rfl, by decide⟩
            · have hc2 : ¬ ws.length = 128 := by
                unfold WORDS at hc
                omega
              have hlw : lineW (bn l) = some u := by
                unfold lineW
                rw [ep]
                exact hu2
              have hdiff : ∀ q ∈ L, q.same u = false := by
                intro q hq
                have := List.any_eq_false.mp (Bool.not_eq_true _ ▸ ha) q (hp.mem_iff.mp hq)
                rw [Bool.not_eq_true] at this
                exact this
              rw [if_neg hc, if_neg hc2, if_neg (by decide), hlw]
              show match readWordsFrom n (i + 1) r (putWord u L) with
                | .ok M => ∃ ws', readGo (parN 10 (bn r)) (i + 1) (ws ++ [u]) = (ws', 0, 0) ∧ M.Perm ws' ∧ Srt M ∧ Dst M ∧ M.length ≤ 128 ∧ ∀ w ∈ M, w.ok = true
                | .error (j, k) => ∃ ws', readGo (parN 10 (bn r)) (i + 1) (ws ++ [u]) = (ws', j, k) ∧ 0 < k
              refine read_go n (i + 1) r (putWord u L) (ws ++ [u]) ?_ ?_ (put_srt hs hdiff) (put_dst hd hdiff) (by rw [List.length_append, hi]; rfl) (by unfold WORDS at hc; omega) ?_
              · have h3 := congrArg List.length e2
                rw [List.length_append, List.length_cons, List.length_cons] at h3
                rw [List.length_cons] at hb
                omega
              · refine (put_perm u L).trans ?_
                refine List.Perm.trans (hp.cons u) ?_
                exact List.perm_append_comm (l₁ := [u])
              · intro w hw
                rcases List.mem_cons.mp ((put_perm u L).mem_iff.mp hw) with rfl | hw
                · exact hu3 hsm
                · exact hok w hw
        · rw [if_neg hsm] at hu2
          rw [if_pos (by simpa using hsm), fault_big ep hu2]
          exact ⟨ws, rfl, by decide⟩
end Lx
/-! ## Lx6 -/
/-! Lx6: each call's answer is the specification's. -/
namespace Lx
open Sy
structure Ok (L : List Word) : Prop where
  len : L.length ≤ 128
  srt : Srt L
  dst : Dst L
  ok : ∀ w ∈ L, w.ok = true
theorem ok_small {w : Word} (h : w.ok = true) : Sx.Small w ∧ isText w.reading = true ∧ isText w.text = true := by
  unfold Word.ok Word.small SIGNS SORTS COST at h
  simp only [Bool.and_eq_true, decide_eq_true_eq] at h
  obtain ⟨⟨h1, h2, h3, h4, h5⟩, _, _, h6, h7⟩ := h
  have k : ∀ {l : List Nat}, l.all isSign = true → isText l = true := fun {l} h => by
    unfold isText
    rw [List.all_eq_true] at *
    intro c hc
    have := h c hc
    unfold isSign at this
    rw [Bool.and_eq_true] at this
    exact this.1
  exact ⟨⟨h1, h2, by omega, by omega, h5⟩, k h6, k h7⟩
theorem Ok.good {L : List Word} (h : Ok L) : Good L := ⟨h.len, fun w hw => (ok_small (h.ok w hw)).1⟩
theorem Ok.nil : Ok [] := ⟨by decide, .nil, .nil, fun w hw => (by cases hw)⟩
/-! writing -/
theorem dec_bn : ∀ n : Nat, bn (decimal n) = decN n
  | n => by
    have one : ∀ d, d < 10 → bn ([d.digitChar].map fun (c : Char) => UInt8.ofNat c.toNat) = [48 + d] := fun d hd => by
      show [(UInt8.ofNat d.digitChar.toNat).toNat] = _
      rw [Nat.toNat_digitChar_of_lt_ten hd, UInt8.toNat_ofNat', Nat.mod_eq_of_lt (by omega)]
    unfold decimal
    by_cases h : n < 10
    · rw [Nat.toDigits_of_lt_base h, decN, dif_pos h]
      exact one n h
    · have ih := dec_bn (n / 10)
      unfold decimal at ih
      have e : decN n = decN (n / 10) ++ [48 + n % 10] := by
        rw [decN, dif_neg h]
      rw [Nat.toDigits_of_base_le (by decide) (by omega), List.map_append, bn_app, ih, e, one (n % 10) (Nat.mod_lt _ (by decide))]
termination_by n => n
decreasing_by omega
theorem line_bn {w : Word} (h : w.ok = true) : bn (wordLine w) = lineN w := by
  obtain ⟨_, h1, h2⟩ := ok_small h
  unfold wordLine lineN
  have e32 : ∀ b : Bytes, bn (0x20 :: b) = 32 :: bn b := fun b => rfl
  rw [bn_app, e32, bn_app, e32, bn_app, e32, bn_app, e32, bn_app, bn_utf8s h1, bn_utf8s h2, dec_bn, dec_bn, dec_bn]
  show _ = cbs w.reading ++ [32] ++ cbs w.text ++ ((32 :: decN w.left ++ (32 :: decN w.right ++ (32 :: decN w.cost ++ []))) ++ [10])
  simp only [List.append_assoc, List.cons_append, List.nil_append, List.append_nil]
  rfl
theorem lines_bn : ∀ {L : List Word}, (∀ w ∈ L, w.ok = true) → bn (lexiconWritten L) = L.flatMap lineN
  | [], _ => rfl
  | w :: L, h => by
    have ih := lines_bn (L := L) fun v hv => h v (List.mem_cons_of_mem _ hv)
    unfold lexiconWritten at *
    rw [List.flatMap_cons, bn_app, ih, line_bn (h w List.mem_cons_self), List.flatMap_cons]
theorem told_bn (b : Bytes) : SyRows.bytesTold b = (bn b).map fun (n : Nat) => (n : Int) := by
  unfold SyRows.bytesTold bn
  rw [List.map_map]
  rfl
theorem write_eq {L : List Word} (h : Ok L) : LexNeutral.told .write (SyC.asks L .write) = dWrite L := by
  show ((lexiconWritten L).length : Int) :: ([] ++ SyRows.bytesTold (lexiconWritten L)) = _
  unfold dWrite
  rw [told_bn, ← lines_bn h.ok, bn_len]
  rfl
/-! putting -/
theorem num_none {L : List Word} {r t : Text} (h : numberOfWord L r t = none) : ∀ q ∈ L, (q.reading == r && q.text == t) = false := by
  unfold numberOfWord at h
  rw [List.findIdx?_eq_none_iff] at h
  exact h
theorem filter_short {α : Type} {p : α → Bool} : ∀ {l : List α} {x : α}, x ∈ l → p x = false → (l.filter p).length < l.length
  | a :: l, x, hx, hp => by
    rcases List.mem_cons.mp hx with rfl | hx
    · rw [List.filter_cons, if_neg (by rw [hp]; decide), List.length_cons]
      exact Nat.lt_succ_of_le (List.length_filter_le _ _)
    · have ih := filter_short hx hp
      rw [List.filter_cons]
      split
      · rw [List.length_cons, List.length_cons]
        omega
      · rw [List.length_cons]
        omega
theorem num_some {L : List Word} {r t : Text} {i : Nat} (h : numberOfWord L r t = some i) : ∃ q, L[i]? = some q ∧ q.reading = r ∧ q.text = t := by
  unfold numberOfWord at h
  obtain ⟨hi, e, _⟩ := List.findIdx?_eq_some_iff_getElem.mp h
  rw [Bool.and_eq_true, beq_iff_eq, beq_iff_eq] at e
  exact ⟨_, List.getElem?_eq_getElem hi, e.1, e.2⟩
theorem put_len2 (L : List Word) (w : Word) : (put L w).length = (L.filter fun q => !q.same w).length + 1 := by
  unfold put
  exact put_len _ _
theorem put_full {L : List Word} (h : Ok L) (w : Word) : (WORDS < (put L w).length) ↔ (decide (128 ≤ L.length) && (numberOfWord L w.reading w.text).isNone) = true := by
  rw [put_len2]
  unfold WORDS
  rw [Bool.and_eq_true, decide_eq_true_eq]
  have hlen := h.len
  cases e : numberOfWord L w.reading w.text with
  | none =>
    have hn := num_none e
    rw [List.filter_eq_self.mpr (fun q hq => by have := hn q hq; unfold Word.same; rw [this]; rfl)]
    simp only [Option.isNone_none, and_true]
    omega
  | some i =>
    obtain ⟨q, hq, e1, e2⟩ := num_some e
    have := filter_short (l := L) (p := fun q => !q.same w) (List.mem_of_getElem? hq) (by rw [same_iff.mpr ⟨e1, e2⟩]; rfl)
    simp only [Option.isNone_some, Bool.false_eq_true, and_false, iff_false]
    omega
theorem put_ok {L : List Word} (h : Ok L) {w : Word} (hw : w.ok = true) (hf : ¬ WORDS < (put L w).length) : Ok (put L w) := by
  have hd : ∀ q ∈ L.filter fun q => !q.same w, q.same w = false := fun q hq => by
    have := (List.mem_filter.mp hq).2
    rwa [Bool.not_eq_true'] at this
  have hs : (L.filter fun q => !q.same w).Sublist L := List.filter_sublist
  refine ⟨by unfold WORDS at hf; omega, put_srt (List.Pairwise.sublist hs h.srt) hd, put_dst (List.Pairwise.sublist hs h.dst) hd, fun v hv => ?_⟩
  rcases List.mem_cons.mp ((put_perm w _).mem_iff.mp hv) with rfl | hv
  · exact hw
  · exact h.ok v (hs.subset hv)
theorem put_eq {L : List Word} (h : Ok L) (w : Word) : putL L w = put L w := by
  have hd : ∀ q ∈ L.filter fun q => !q.same w, q.same w = false := fun q hq => by
    have := (List.mem_filter.mp hq).2
    rwa [Bool.not_eq_true'] at this
  have hs : (L.filter fun q => !q.same w).Sublist L := List.filter_sublist
  refine wsort_eq (Sx.wsort_pw _) ?_ (put_srt (List.Pairwise.sublist hs h.srt) hd)
  exact (put_perm w _).trans (List.perm_append_comm (l₁ := [w]))
theorem orNone_eq (x : Option Nat) (h : x ≠ none) : (SyC.orNone x).ret = Sx.idxZ x := by
  cases x with
  | none => exact absurd rfl h
  | some i => rfl
theorem told_says {x : SyC.Call} (z : Int) : LexNeutral.told x (says z) = [z] := by
  cases x <;> rfl
theorem told_orNone {x : SyC.Call} (o : Option Nat) : LexNeutral.told x (SyC.orNone o) = if Sx.idxZ o < 0 then [-5] else [Sx.idxZ o] := by
  cases o with
  | none =>
    have e : (SyC.orNone none) = says (-5) := rfl
    rw [e, told_says]
    rfl
  | some i =>
    have e : (SyC.orNone (some i)) = says (i : Int) := rfl
    rw [e, told_says]
    show _ = if (i : Int) < 0 then _ else [(i : Int)]
    rw [if_neg (by omega)]
theorem put_step {L : List Word} (h : Ok L) (u : Word) : (SyC.step L (.put u.left u.right u.cost u.reading u.text)).1 = (dPut L u).1 ∧ LexNeutral.told (.put u.left u.right u.cost u.reading u.text) (SyC.step L (.put u.left u.right u.cost u.reading u.text)).2 = (dPut L u).2 ∧ Ok (dPut L u).1 := by
  have e : SyC.step L (.put u.left u.right u.cost u.reading u.text) = if u.ok = false then (L, says (-3)) else if WORDS < (put L u).length then (L, says (-6)) else (put L u, SyC.orNone (numberOfWord (put L u) u.reading u.text)) := rfl
  rw [e]
  unfold dPut
  by_cases h1 : u.ok = false
  · rw [if_pos h1, if_pos h1]
    exact ⟨rfl, told_says _, h⟩
  · rw [if_neg h1, if_neg h1]
    by_cases h2 : WORDS < (put L u).length
    · rw [if_pos h2, if_pos ((put_full h u).mp h2)]
      exact ⟨rfl, told_says _, h⟩
    · rw [if_neg h2, if_neg (fun g => h2 ((put_full h u).mpr g)), put_eq h]
      refine ⟨rfl, ?_, put_ok h (by simpa using h1) h2⟩
      show LexNeutral.told _ (SyC.orNone (numberOfWord (put L u) u.reading u.text)) = [Sx.idxZ (numberOfWord (put L u) u.reading u.text)]
      rw [told_orNone]
      cases e : numberOfWord (put L u) u.reading u.text with
      | none =>
        have := num_none e u ((put_perm u _).mem_iff.mpr List.mem_cons_self)
        simp at this
      | some i =>
        rw [if_neg (by show ¬ (i : Int) < 0; omega)]
end Lx
/-! ## Lx7 -/
namespace Lx
open Sy
theorem read_step {L : List Word} (h : Ok L) {t : List Nat} (ht : ∀ x ∈ t, x < 256) : (SyC.step L (.read (t.map UInt8.ofNat))).1 = (dRead L t).1 ∧ LexNeutral.told (.read (t.map UInt8.ofNat)) (SyC.step L (.read (t.map UInt8.ofNat))).2 = (dRead L t).2 ∧ Ok (dRead L t).1 := by
  have eb : bn (t.map UInt8.ofNat) = t := bn_ofNat ht
  have el : (t.map UInt8.ofNat).length = t.length := List.length_map _
  have e : SyC.step L (.read (t.map UInt8.ofNat)) = if SyC.BYTES < (t.map UInt8.ofNat).length then (L, says (-1)) else (match readWords (t.map UInt8.ofNat) with
    | .error (i, k) => (L, tells (-2) («ints» [i, k]))
    | .ok M => (M, says (M.length : Int))) := rfl
  rw [e, el]
  unfold dRead
  by_cases h1 : 65536 < t.length
  · rw [if_pos (show SyC.BYTES < t.length from h1), if_pos h1]
    exact ⟨rfl, told_says _, h⟩
  · rw [if_neg (show ¬ SyC.BYTES < t.length from h1), if_neg h1]
    have hg := read_go (t.map UInt8.ofNat).length 0 (t.map UInt8.ofNat) [] [] (Nat.le_refl _) (List.Perm.refl _) .nil .nil rfl (by decide) (fun w hw => (by cases hw))
    have er : readWords (t.map UInt8.ofNat) = readWordsFrom (t.map UInt8.ofNat).length 0 (t.map UInt8.ofNat) [] := rfl
    rw [er]
    rw [eb] at hg
    cases z : readWordsFrom (t.map UInt8.ofNat).length 0 (t.map UInt8.ofNat) [] with
    | error p =>
      obtain ⟨i, k⟩ := p
      rw [z] at hg
      obtain ⟨ws', g1, g2⟩ := hg
      have g3 : Sx.readR t = (ws', i, k) := g1
      rw [g3]
      show _ ∧ _ ∧ Ok (if 0 < k then (L, [-2, (i : Int), (k : Int)]) else _).1
      rw [if_pos g2]
      exact ⟨rfl, rfl, h⟩
    | ok M =>
      rw [z] at hg
      obtain ⟨ws', g1, g2, g4, g5, g6, g7⟩ := hg
      have g3 : Sx.readR t = (ws', 0, 0) := g1
      rw [g3]
      have em : ws'.mergeSort wle = M := wsort_eq (Sx.wsort_pw _) g2 g4
      show M = (if 0 < 0 then (L, [-2, (0 : Int), (0 : Int)]) else (ws'.mergeSort wle, [(ws'.length : Int)])).1 ∧ LexNeutral.told _ (says (M.length : Int)) = (if 0 < 0 then (L, [-2, (0 : Int), (0 : Int)]) else (ws'.mergeSort wle, [(ws'.length : Int)])).2 ∧ Ok (if 0 < 0 then (L, [-2, (0 : Int), (0 : Int)]) else (ws'.mergeSort wle, [(ws'.length : Int)])).1
      rw [if_neg (by decide), em, told_says, g2.length_eq]
      exact ⟨rfl, rfl, g6, g4, g5, g7⟩
theorem drop_step {L : List Word} (h : Ok L) (n : Nat) : (SyC.step L (.drop n)).1 = (dDrop L n).1 ∧ LexNeutral.told (.drop n) (SyC.step L (.drop n)).2 = (dDrop L n).2 ∧ Ok (dDrop L n).1 := by
  have e : SyC.step L (.drop n) = if L.length ≤ n then (L, says (-4)) else (L.eraseIdx n, says 0) := rfl
  rw [e]
  unfold dDrop
  by_cases h1 : L.length ≤ n
  · rw [if_pos h1, if_neg (by omega)]
    exact ⟨rfl, told_says _, h⟩
  · rw [if_neg h1, if_pos (by omega)]
    have hs := List.eraseIdx_sublist L n
    exact ⟨rfl, told_says _, Nat.le_trans hs.length_le h.len, List.Pairwise.sublist hs h.srt, List.Pairwise.sublist hs h.dst, fun w hw => h.ok w (hs.subset hw)⟩
theorem get_step (L : List Word) (n : Nat) : LexNeutral.told (.get n) (SyC.asks L (.get n)) = dGet L n := by
  have e : SyC.asks L (.get n) = match L[n]? with
    | some w => SyC.told w
    | none => says (-4) := rfl
  rw [e]
  unfold dGet
  cases L[n]? with
  | none => exact told_says _
  | some w =>
    show (0 : Int) :: («ints» [w.left, w.right, w.cost] ++ (SyC.listed w.reading ++ SyC.listed w.text)) = (getN w).map fun (n : Nat) => (n : Int)
    unfold getN SyC.listed «ints»
    simp only [List.map_append, List.map_cons, List.map_nil, List.cons_append, List.nil_append, List.append_assoc]
    rfl
/-! rows asked about -/
theorem rows_one (r : List Nat) : rowsF [r] = if 64 < r.length then -1 else if isText r = true then 0 else -3 := by
  unfold rowsF isText
  simp only [List.any_cons, List.any_nil, Bool.or_false, List.all_cons, List.all_nil, Bool.and_true, decide_eq_true_eq]
theorem of_row {r : Text} {x : SyC.Call} {a : Ans} {k : List Int} (h : isText r = true → r.length ≤ 64 → LexNeutral.told x a = k) : LexNeutral.told x (SyC.ofRow r a) = if rowsF [r] < 0 then [rowsF [r]] else k := by
  rw [rows_one]
  have e : SyC.ofRow r a = if 64 < r.length then says (-1) else if isText r = false then says (-3) else a := rfl
  rw [e]
  by_cases h1 : 64 < r.length
  · rw [if_pos h1, if_pos h1, told_says]
    rfl
  · rw [if_neg h1, if_neg h1]
    by_cases h2 : isText r = true
    · rw [if_pos h2, if_neg (by rw [h2]; decide), h h2 (by omega)]
      rfl
    · rw [if_neg h2, if_pos (by simpa using h2), told_says]
      rfl
theorem num_step (L : List Word) (r t : List Nat) : LexNeutral.told (.number r t) (SyC.asks L (.number r t)) = dNum L r t := by
  have e : SyC.asks L (.number r t) = if 64 < t.length then says (-1) else if 64 < r.length then says (-1) else if isText r = false then says (-3) else (if isText t = false then says (-3) else SyC.orNone (numberOfWord L r t)) := rfl
  rw [e]
  unfold dNum
  have ef : rowsF [r, t] = if 64 < r.length ∨ 64 < t.length then -1 else if isText r = true ∧ isText t = true then 0 else -3 := by
    unfold rowsF isText
    simp only [List.any_cons, List.any_nil, Bool.or_false, List.all_cons, List.all_nil, Bool.and_true, decide_eq_true_eq, Bool.or_eq_true, Bool.and_eq_true]
  by_cases h1 : 64 < t.length
  · have ez : rowsF [r, t] = -1 := by rw [ef, if_pos (show 64 < r.length ∨ 64 < t.length from .inr h1)]
    rw [if_pos h1, told_says, ez]
    rfl
  · rw [if_neg h1]
    by_cases h2 : 64 < r.length
    · have ez : rowsF [r, t] = -1 := by rw [ef, if_pos (show 64 < r.length ∨ 64 < t.length from .inl h2)]
      rw [if_pos h2, told_says, ez]
      rfl
    · rw [if_neg h2]
      rw [if_neg (show ¬ (64 < r.length ∨ 64 < t.length) by omega)] at ef
      by_cases h3 : isText r = true
      · rw [if_neg (show ¬ isText r = false by rw [h3]; decide)]
        by_cases h4 : isText t = true
        · rw [if_pos ⟨h3, h4⟩] at ef
          rw [if_neg (show ¬ isText t = false by rw [h4]; decide), told_orNone, ef]
          rfl
        · rw [if_neg (fun z => h4 z.2)] at ef
          rw [if_pos (show isText t = false by simpa using h4), told_says, ef]
          rfl
      · rw [if_neg (fun z => h3 z.1)] at ef
        rw [if_pos (show isText r = false by simpa using h3), told_says, ef]
        rfl
theorem find_step (L : List Word) (r : List Nat) : LexNeutral.told (.find r) (SyC.asks L (.find r)) = dAsk L 9 r := by
  show _ = if rowsF [r] < 0 then [rowsF [r]] else [(manyOf L r : Int), (firstOf L r : Int)]
  exact of_row fun _ _ => rfl
theorem goes_step (L : List Word) (r : List Nat) : LexNeutral.told (.goes r) (SyC.asks L (.goes r)) = dAsk L 11 r := by
  show _ = if rowsF [r] < 0 then [rowsF [r]] else [((L.filter fun q => r.isPrefixOf q.reading).length : Int), (firstOf L r : Int)]
  exact of_row fun _ _ => rfl
theorem begins_step (L : List Word) (r : List Nat) : LexNeutral.told (.begins r) (SyC.asks L (.begins r)) = dAsk L 10 r := by
  show _ = if rowsF [r] < 0 then [rowsF [r]] else (((beginsHere L r).length :: (beginsHere L r).flatten).map fun (n : Nat) => (n : Int))
  refine of_row fun _ _ => ?_
  show ((beginsHere L r).length : Int) :: ([] ++ «ints» (beginsHere L r).flatten) = _
  unfold «ints»
  rw [List.map_cons]
  rfl
/-! the likeliest -/
theorem cheap_perm (L : Lexicon) (i : Nat) : ∀ l, (putCheap L i l).Perm (i :: l)
  | [] => List.Perm.refl _
  | j :: l => by
    unfold putCheap
    split
    · exact List.Perm.refl _
    · exact ((cheap_perm L i l).cons j).trans (List.Perm.swap i j l)
theorem cheaps_perm (L : Lexicon) : ∀ l : List Nat, (l.foldr (putCheap L) []).Perm l
  | [] => List.Perm.refl _
  | i :: l => (cheap_perm L i _).trans ((cheaps_perm L l).cons i)
def Chp (L : Lexicon) (a b : Nat) : Prop := costAt L a < costAt L b ∨ (costAt L a = costAt L b ∧ a < b)
theorem cheap_srt {L : Lexicon} {i : Nat} : ∀ {l : List Nat}, l.Pairwise (Chp L) → (∀ j ∈ l, i < j) → (putCheap L i l).Pairwise (Chp L)
  | [], _, _ => List.pairwise_singleton _ _
  | j :: l, h, hi => by
    obtain ⟨h1, h2⟩ := List.pairwise_cons.mp h
    unfold putCheap
    split
    · rename_i g
      refine List.pairwise_cons.mpr ⟨fun k hk => ?_, h⟩
      have hik := hi k hk
      rcases List.mem_cons.mp hk with rfl | hk
      · unfold Chp
        omega
      · have := h1 k hk
        unfold Chp at *
        omega
    · rename_i g
      refine List.pairwise_cons.mpr ⟨fun k hk => ?_, cheap_srt h2 fun k hk => hi k (List.mem_cons_of_mem _ hk)⟩
      rcases List.mem_cons.mp ((cheap_perm L i l).mem_iff.mp hk) with rfl | hk
      · unfold Chp
        omega
      · exact h1 k hk
theorem cheaps_srt {L : Lexicon} : ∀ {l : List Nat}, l.Pairwise (· < ·) → (l.foldr (putCheap L) []).Pairwise (Chp L)
  | [], _ => .nil
  | i :: l, h => by
    obtain ⟨h1, h2⟩ := List.pairwise_cons.mp h
    exact cheap_srt (cheaps_srt h2) fun j hj => h1 j ((cheaps_perm L l).mem_iff.mp hj)
def goesAt (L : List Word) (r : List Nat) (i : Nat) : Bool := match L[i]? with
  | some w => r.isPrefixOf w.reading
  | none => false
theorem idx_take (L : List Word) (r : List Nat) : ∀ n, n ≤ L.length → ((List.range n).filter (goesAt L r)).filterMap (fun i => L[i]?) = (L.take n).filter fun q => r.isPrefixOf q.reading
  | 0, _ => rfl
  | n + 1, h => by
    have ih := idx_take L r n (by omega)
    have hn : L[n]? = some (L[n]'(by omega)) := List.getElem?_eq_getElem (by omega)
    rw [List.range_succ, List.filter_append, List.filterMap_append, ih, Sx.take_more hn, List.filter_append]
    congr 1
    have e : goesAt L r n = r.isPrefixOf (L[n]'(by omega)).reading := by
      unfold goesAt
      rw [hn]
    rw [List.filter_cons, List.filter_cons, e]
    split
    · show List.filterMap (fun i => L[i]?) [n] = _
      rw [List.filterMap_cons, hn]
      rfl
    · rfl
theorem fm_get {L : List Word} : ∀ {l : List Nat} (k : Nat), (∀ i ∈ l, i < L.length) → (l.filterMap fun i => L[i]?)[k]? = l[k]?.bind fun i => L[i]?
  | [], k, _ => by simp
  | i :: l, k, h => by
    have hi : L[i]? = some (L[i]'(h i List.mem_cons_self)) := List.getElem?_eq_getElem _
    rw [List.filterMap_cons, hi]
    cases k with
    | zero =>
      show some _ = L[i]?
      rw [hi]
    | succ k => exact fm_get k fun j hj => h j (List.mem_cons_of_mem _ hj)
theorem num_at {L : List Word} (h : Dst L) {j : Nat} {u : Word} (hj : L[j]? = some u) : numberOfWord L u.reading u.text = some j := by
  unfold numberOfWord
  obtain ⟨hi, e⟩ := List.getElem?_eq_some_iff.mp hj
  rw [List.findIdx?_eq_some_iff_getElem]
  refine ⟨hi, by rw [e]; simp, fun k hk => ?_⟩
  have := List.pairwise_iff_getElem.mp h k j (by omega) hi hk
  rw [e] at this
  intro z
  rw [show (L[k].same u) = true from z] at this
  cases this
theorem kle_of {u v : Word} (h : u.before v = true) (hc : u.cost = v.cost) : kle u v = true := by
  unfold kle
  rw [Bool.not_eq_true']
  cases z : klt v u with
  | false => rfl
  | true =>
    exfalso
    rw [klt_iff] at z
    rw [wb_iff] at h
    rcases z with z | ⟨_, z⟩
    · omega
    · rcases h with h | ⟨h0, h⟩
      · rcases z with z | ⟨z0, z⟩
        · rw [bf_asym h] at z
          cases z
        · rw [z0, bf_irrefl] at h
          cases h
      · rcases h with h | ⟨_, h⟩
        · omega
        · rcases z with z | ⟨_, z⟩
          · rw [h0, bf_irrefl] at z
            cases z
          · rw [bf_asym h] at z
            cases z
theorem likeliest_eq (L : List Word) (r : List Nat) : likeliest L r = ((List.range L.length).filter (goesAt L r)).foldr (putCheap L) [] := rfl
theorem rank_eq {L : List Word} (h : Ok L) (r : List Nat) : rank L r = (likeliest L r).filterMap fun i => L[i]? := by
  have hp := cheaps_perm L ((List.range L.length).filter (goesAt L r))
  have hi := idx_take L r L.length (Nat.le_refl _)
  rw [List.take_length] at hi
  refine ksort_eq (Sx.ksort_pw _) ?_ (List.Pairwise.sublist List.filter_sublist h.dst) ?_
  · rw [← hi, likeliest_eq]
    exact hp.filterMap _
  · have hs := cheaps_srt (L := L) (List.Pairwise.sublist (List.filter_sublist (p := goesAt L r)) (List.pairwise_lt_range (n := L.length)))
    rw [likeliest_eq, List.pairwise_filterMap]
    refine hs.imp fun {a b} hab u hu v hv => ?_
    have ca : costAt L a = u.cost := by
      unfold costAt
      rw [hu]
      rfl
    have cb : costAt L b = v.cost := by
      unfold costAt
      rw [hv]
      rfl
    unfold Chp at hab
    rw [ca, cb] at hab
    rcases hab with g | ⟨g, g2⟩
    · unfold kle
      rw [Bool.not_eq_true']
      cases z : klt v u with
      | false => rfl
      | true =>
        rw [klt_iff] at z
        omega
    · obtain ⟨ha, ea⟩ := List.getElem?_eq_some_iff.mp hu
      obtain ⟨hb, eb⟩ := List.getElem?_eq_some_iff.mp hv
      have := List.pairwise_iff_getElem.mp h.srt a b ha hb g2
      rw [ea, eb] at this
      exact kle_of this g
theorem lik_step {L : List Word} (h : Ok L) (r : List Nat) (n : Nat) : LexNeutral.told (.likely r n) (SyC.asks L (.likely r n)) = dLik L n r := by
  unfold dLik likZ
  refine of_row fun _ _ => ?_
  rw [told_orNone]
  have e : ((rank L r)[n]?.bind fun u => numberOfWord L u.reading u.text) = (likeliest L r)[n]? := by
    have hlt : ∀ i ∈ likeliest L r, i < L.length := fun i hi => by
      have := (cheaps_perm L _).mem_iff.mp hi
      exact List.mem_range.mp (List.mem_filter.mp this).1
    rw [rank_eq h, fm_get n hlt]
    cases z : (likeliest L r)[n]? with
    | none => rfl
    | some j =>
      have hj := hlt j (List.mem_of_getElem? z)
      have hu : L[j]? = some L[j] := List.getElem?_eq_getElem hj
      show (L[j]?.bind fun u => numberOfWord L u.reading u.text) = some j
      rw [hu]
      exact num_at h.dst hu
  rw [e]
end Lx
/-! ## Lx8 -/
/-! Lx8: the line's calls. -/
namespace Lx
open Sy
def CN.call : CN → SyC.Call
  | .beg => .begin_
  | .read t => .read (t.map UInt8.ofNat)
  | .write => .write
  | .count => .count
  | .put u => .put u.left u.right u.cost u.reading u.text
  | .drop n => .drop n
  | .get n => .get n
  | .num r t => .number r t
  | .ask k r => if k = 9 then .find r else if k = 10 then .begins r else .goes r
  | .lik n r => .likely r n
def CN.Kind : CN → Prop
  | .ask k _ => k = 9 ∨ k = 10 ∨ k = 11
  | _ => True
theorem step_all {L : List Word} (h : Ok L) (c : CN) (hin : c.In) (hk : c.Kind) : (SyC.step L c.call).1 = (c.step L).1 ∧ LexNeutral.told c.call (SyC.step L c.call).2 = (c.step L).2 ∧ Ok (c.step L).1 := by
  cases c with
  | beg => exact ⟨rfl, told_says 0, Ok.nil⟩
  | read t => exact read_step h hin.2
  | write => exact ⟨rfl, write_eq h, h⟩
  | count => exact ⟨rfl, told_says (L.length : Int), h⟩
  | put u => exact put_step h u
  | drop n => exact drop_step h n
  | get n => exact ⟨rfl, get_step L n, h⟩
  | num r t => exact ⟨rfl, num_step L r t, h⟩
  | ask k r =>
    rcases hk with rfl | rfl | rfl
    · exact ⟨rfl, find_step L r, h⟩
    · exact ⟨rfl, begins_step L r, h⟩
    · exact ⟨rfl, goes_step L r, h⟩
  | lik n r => exact ⟨rfl, lik_step h r n, h⟩
/-! parsing -/
def vz (l : List Nat) : List Int := l.map fun (n : Nat) => (n : Int)
theorem vz_len (l : List Nat) : (vz l).length = l.length := List.length_map _
theorem vz_drop (l : List Nat) (n : Nat) : (vz l).drop n = vz (l.drop n) := List.map_drop.symm
theorem vz_take (l : List Nat) (n : Nat) : (vz l).take n = vz (l.take n) := List.map_take.symm
theorem drop_cases (l : List Nat) (i : Nat) : (l.drop i = [] ∧ l.length ≤ i) ∨ ∃ n, l[i]? = some n ∧ l.drop i = n :: l.drop (i + 1) := by
  cases e : l[i]? with
  | none =>
    have := List.getElem?_eq_none_iff.mp e
    exact .inl ⟨List.drop_eq_nil_of_le this, this⟩
  | some n => exact .inr ⟨n, rfl, Sx.drop_at e⟩
theorem row_inv {l : List Nat} {i : Nat} {x s : List Int} (h : PyFlat.row (vz (l.drop i)) = some (x, s)) : ∃ t j, RowN l i t j ∧ x = vz t ∧ s = vz (l.drop j) := by
  rcases drop_cases l i with ⟨e, _⟩ | ⟨n, hn, e⟩
  · rw [e] at h
    cases h
  · rw [e] at h
    have h' : (if 0 ≤ (n : Int) ∧ (n : Int).toNat ≤ (vz (l.drop (i + 1))).length then some ((vz (l.drop (i + 1))).take (n : Int).toNat, (vz (l.drop (i + 1))).drop (n : Int).toNat) else none) = some (x, s) := h
    rw [Int.toNat_natCast, vz_len, List.length_drop] at h'
    split at h'
    · rename_i g
      have hi := (List.getElem?_eq_some_iff.mp hn).1
      cases h'
      refine ⟨_, i + 1 + n, ⟨n, hn, rfl, by omega, rfl⟩, ?_, ?_⟩
      · rw [vz_take, List.drop_take]
        congr 2
        omega
      · rw [vz_drop, List.drop_drop]
    · cases h'
theorem call_inv {l : List Nat} {i : Nat} {raw : List (List Int)} {s : List Int} (h : PyFlat.call PyWqaibk.shape (vz (l.drop i)) = some (raw, s)) : ∃ k n m xs, l[i]? = some k ∧ PyWqaibk.shape (k : Int) = some (n, m) ∧ i + 1 + n ≤ l.length ∧
    PyFlat.rows m (vz (l.drop (i + 1 + n))) = some (xs, s) ∧ raw = ((k : Int) :: vz ((l.drop (i + 1)).take n)) :: xs := by
  rcases drop_cases l i with ⟨e, _⟩ | ⟨k, hk, e⟩
  · rw [e] at h
    cases h
  · rw [e] at h
    have hi := (List.getElem?_eq_some_iff.mp hk).1
    have h' : (match PyWqaibk.shape (k : Int) with
      | none => none
      | some (n, m) => if (vz (l.drop (i + 1))).length < n then none else match PyFlat.rows m ((vz (l.drop (i + 1))).drop n) with
        | none => none
        | some (xs, t) => some (((k : Int) :: (vz (l.drop (i + 1))).take n) :: xs, t)) = some (raw, s) := h
    cases es : PyWqaibk.shape (k : Int) with
    | none => rw [es] at h'; cases h'
    | some p =>
      obtain ⟨n, m⟩ := p
      rw [es] at h'
      have h2 : (if (vz (l.drop (i + 1))).length < n then none else match PyFlat.rows m ((vz (l.drop (i + 1))).drop n) with
        | none => none
        | some (xs, t) => some (((k : Int) :: (vz (l.drop (i + 1))).take n) :: xs, t)) = some (raw, s) := h'
      rw [vz_len, List.length_drop, vz_drop, List.drop_drop, vz_take] at h2
      split at h2
      · cases h2
      · rename_i g
        cases er : PyFlat.rows m (vz (l.drop (i + 1 + n))) with
        | none => rw [er] at h2; cases h2
        | some q =>
          obtain ⟨xs, t⟩ := q
          rw [er] at h2
          cases h2
          exact ⟨k, n, m, xs, hk, es, by omega, er, rfl⟩
theorem rows0 {s t : List Int} {xs : List (List Int)} (h : PyFlat.rows 0 s = some (xs, t)) : xs = [] ∧ t = s := by
  cases h
  exact ⟨rfl, rfl⟩
theorem rows_succ {m : Nat} {l : List Nat} {i : Nat} {xs : List (List Int)} {s : List Int} (h : PyFlat.rows (m + 1) (vz (l.drop i)) = some (xs, s)) : ∃ t j ys, RowN l i t j ∧ xs = vz t :: ys ∧ PyFlat.rows m (vz (l.drop j)) = some (ys, s) := by
  have h' : (match PyFlat.row (vz (l.drop i)) with
    | none => none
    | some (x, s) => match PyFlat.rows m s with
      | none => none
      | some (xs, t) => some (x :: xs, t)) = some (xs, s) := h
  cases e : PyFlat.row (vz (l.drop i)) with
  | none => rw [e] at h'; cases h'
  | some p =>
    obtain ⟨x, s1⟩ := p
    rw [e] at h'
    obtain ⟨t, j, g1, rfl, rfl⟩ := row_inv e
    cases er : PyFlat.rows m (vz (l.drop j)) with
    | none => simp only [er] at h'; cases h'
    | some q =>
      obtain ⟨ys, u⟩ := q
      simp only [er] at h'
      cases h'
      exact ⟨t, j, ys, g1, rfl, er⟩
theorem shape_some {k : Nat} {p : Nat × Nat} (h : PyWqaibk.shape (k : Int) = some p) : k = 1 ∨ k = 2 ∨ k = 3 ∨ k = 4 ∨ k = 5 ∨ k = 6 ∨ k = 7 ∨ k = 8 ∨ k = 9 ∨ k = 10 ∨ k = 11 ∨ k = 12 := by
  refine Classical.byContradiction fun g => ?_
  unfold PyWqaibk.shape at h
  iterate 12 rw [if_neg (by omega)] at h
  cases h
theorem nat_some (n : Nat) : SyRows.nat? (n : Int) = some n := by
  unfold SyRows.nat?
  rw [if_pos (by omega), Int.toNat_natCast]
theorem vz_back (l : List Nat) : (vz l).map Int.toNat = l := by
  unfold vz
  rw [List.map_map]
  conv => rhs; rw [← List.map_id l]
  exact List.map_congr_left fun n _ => Int.toNat_natCast n
theorem nats_some (l : List Nat) : SyRows.nats? (vz l) = some l := by
  unfold SyRows.nats?
  rw [if_pos, vz_back]
  rw [List.all_eq_true]
  intro z hz
  obtain ⟨n, _, rfl⟩ := List.mem_map.mp hz
  exact decide_eq_true (by omega)
theorem text_some {l : List Nat} (h : ∀ x ∈ l, x < 256) : SyRows.text? (vz l) = some (l.map UInt8.ofNat) := by
  unfold SyRows.text? NeutralIO.bytes
  rw [if_pos]
  · congr 1
    unfold vz
    rw [List.map_map]
    exact List.map_congr_left fun n _ => by show UInt8.ofNat (n : Int).toNat = _; rw [Int.toNat_natCast]
  · rw [List.all_eq_true]
    intro z hz
    obtain ⟨n, hn, rfl⟩ := List.mem_map.mp hz
    have := h n hn
    rw [Bool.and_eq_true, decide_eq_true_eq, decide_eq_true_eq]
    omega
theorem bytes_of {l : List Nat} (h : (vz l).all (fun (z : Int) => decide (0 ≤ z) && decide (z ≤ 255)) = true) : ∀ x ∈ l, x < 256 := by
  intro x hx
  have := List.all_eq_true.mp h (x : Int) (List.mem_map.mpr ⟨x, hx, rfl⟩)
  rw [Bool.and_eq_true, decide_eq_true_eq, decide_eq_true_eq] at this
  omega
theorem take_one {l : List Nat} {i : Nat} (h : i + 1 ≤ l.length) : ∃ x, l[i]? = some x ∧ (l.drop i).take 1 = [x] := by
  have e : l[i]? = some (l[i]'(by omega)) := List.getElem?_eq_getElem (by omega)
  exact ⟨_, e, by rw [Sx.drop_at e]; rfl⟩
theorem take_three {l : List Nat} {i : Nat} (h : i + 3 ≤ l.length) : ∃ x y z, l[i]? = some x ∧ l[i + 1]? = some y ∧ l[i + 2]? = some z ∧ (l.drop i).take 3 = [x, y, z] := by
  have e1 : l[i]? = some (l[i]'(by omega)) := List.getElem?_eq_getElem (by omega)
  have e2 : l[i + 1]? = some (l[i + 1]'(by omega)) := List.getElem?_eq_getElem (by omega)
  have e3 : l[i + 2]? = some (l[i + 2]'(by omega)) := List.getElem?_eq_getElem (by omega)
  exact ⟨_, _, _, e1, e2, e3, by rw [Sx.drop_at e1, Sx.drop_at e2, Sx.drop_at e3]; rfl⟩
theorem RowN.len {l t : List Nat} {i j : Nat} (h : RowN l i t j) : t.length ≤ l.length := by
  obtain ⟨n, _, _, _, rfl⟩ := h
  rw [List.length_drop, List.length_take]
  omega
theorem one_call {l : List Nat} {i : Nat} {raw : List (List Int)} {s : List Int} (hz : l.length ≤ 100000) (h : PyFlat.call PyWqaibk.shape (vz (l.drop i)) = some (raw, s)) (ha : LexNeutral.asked1 (PyWqaibk.whole raw) = true) :
    ∃ c j, CN.At l i j c ∧ s = vz (l.drop j) ∧ c.In ∧ c.Kind ∧ LexNeutral.callOf (PyWqaibk.whole raw) = some c.call := by
  obtain ⟨k, n, m, xs, h1, h2, h3, h4, rfl⟩ := call_inv h
  rcases shape_some h2 with rfl | rfl | rfl | rfl | rfl | rfl | rfl | rfl | rfl | rfl | rfl | rfl
  · cases (show some (0, 0) = some (n, m) from h2)
    obtain ⟨rfl, rfl⟩ := rows0 h4
    exact ⟨.beg, i + 1, ⟨h1, rfl⟩, rfl, trivial, trivial, rfl⟩
  · cases (show some (0, 1) = some (n, m) from h2)
    obtain ⟨t, j, ys, g1, rfl, h5⟩ := rows_succ h4
    obtain ⟨rfl, rfl⟩ := rows0 h5
    have hb := bytes_of (l := t) ha
    refine ⟨.read t, j, ⟨h1, g1⟩, rfl, ⟨Nat.le_trans g1.len hz, hb⟩, trivial, ?_⟩
    show (SyRows.text? (vz t)).bind (fun t => some (SyC.Call.read t)) = _
    rw [text_some hb]
    rfl
  · cases (show some (0, 0) = some (n, m) from h2)
    obtain ⟨rfl, rfl⟩ := rows0 h4
    exact ⟨.write, i + 1, ⟨h1, rfl⟩, rfl, trivial, trivial, rfl⟩
  · cases (show some (0, 0) = some (n, m) from h2)
    obtain ⟨rfl, rfl⟩ := rows0 h4
    exact ⟨.count, i + 1, ⟨h1, rfl⟩, rfl, trivial, trivial, rfl⟩
  · cases (show some (3, 2) = some (n, m) from h2)
    obtain ⟨r, j1, ys, g1, rfl, h5⟩ := rows_succ h4
    obtain ⟨t, j, zs, g2, rfl, h6⟩ := rows_succ h5
    obtain ⟨rfl, rfl⟩ := rows0 h6
    obtain ⟨x, y, c, e1, e2, e3, e4⟩ := take_three (l := l) (i := i + 1) (by omega)
    refine ⟨.put ⟨r, t, x, y, c⟩, j, ⟨h1, e1, e2, e3, j1, g1, g2⟩, rfl, trivial, trivial, ?_⟩
    rw [e4]
    show ((SyRows.nat? (x : Int)).bind fun x => (SyRows.nat? (y : Int)).bind fun y => (SyRows.nat? (c : Int)).bind fun c => (SyRows.nats? (vz r)).bind fun r => (SyRows.nats? (vz t)).bind fun t => some (SyC.Call.put x y c r t)) = _
    rw [nat_some, nat_some, nat_some, nats_some, nats_some]
    rfl
  · cases (show some (1, 0) = some (n, m) from h2)
    obtain ⟨rfl, rfl⟩ := rows0 h4
    obtain ⟨x, e1, e2⟩ := take_one (l := l) (i := i + 1) (by omega)
    refine ⟨.drop x, i + 2, ⟨h1, e1, rfl⟩, rfl, trivial, trivial, ?_⟩
    rw [e2]
    show (SyRows.nat? (x : Int)).bind (fun x => some (SyC.Call.drop x)) = _
    rw [nat_some]
    rfl
  · cases (show some (1, 0) = some (n, m) from h2)
    obtain ⟨rfl, rfl⟩ := rows0 h4
    obtain ⟨x, e1, e2⟩ := take_one (l := l) (i := i + 1) (by omega)
    refine ⟨.get x, i + 2, ⟨h1, e1, rfl⟩, rfl, trivial, trivial, ?_⟩
    rw [e2]
    show (SyRows.nat? (x : Int)).bind (fun x => some (SyC.Call.get x)) = _
    rw [nat_some]
    rfl
  · cases (show some (0, 2) = some (n, m) from h2)
    obtain ⟨r, j1, ys, g1, rfl, h5⟩ := rows_succ h4
    obtain ⟨t, j, zs, g2, rfl, h6⟩ := rows_succ h5
    obtain ⟨rfl, rfl⟩ := rows0 h6
    refine ⟨.num r t, j, ⟨h1, j1, g1, g2⟩, rfl, trivial, trivial, ?_⟩
    show ((SyRows.nats? (vz r)).bind fun r => (SyRows.nats? (vz t)).bind fun t => some (SyC.Call.number r t)) = _
    rw [nats_some, nats_some]
    rfl
  · cases (show some (0, 1) = some (n, m) from h2)
    obtain ⟨r, j, ys, g1, rfl, h5⟩ := rows_succ h4
    obtain ⟨rfl, rfl⟩ := rows0 h5
    refine ⟨.ask 9 r, j, ⟨h1, .inl rfl, g1⟩, rfl, trivial, .inl rfl, ?_⟩
    show ((SyRows.nats? (vz r)).bind fun r => some (SyC.Call.find r)) = _
    rw [nats_some]
    rfl
  · cases (show some (0, 1) = some (n, m) from h2)
    obtain ⟨r, j, ys, g1, rfl, h5⟩ := rows_succ h4
    obtain ⟨rfl, rfl⟩ := rows0 h5
    refine ⟨.ask 10 r, j, ⟨h1, .inr (.inl rfl), g1⟩, rfl, trivial, .inr (.inl rfl), ?_⟩
    show ((SyRows.nats? (vz r)).bind fun r => some (SyC.Call.begins r)) = _
    rw [nats_some]
    rfl
  · cases (show some (0, 1) = some (n, m) from h2)
    obtain ⟨r, j, ys, g1, rfl, h5⟩ := rows_succ h4
    obtain ⟨rfl, rfl⟩ := rows0 h5
    refine ⟨.ask 11 r, j, ⟨h1, .inr (.inr rfl), g1⟩, rfl, trivial, .inr (.inr rfl), ?_⟩
    show ((SyRows.nats? (vz r)).bind fun r => some (SyC.Call.goes r)) = _
    rw [nats_some]
    rfl
  · cases (show some (1, 1) = some (n, m) from h2)
    obtain ⟨r, j, ys, g1, rfl, h5⟩ := rows_succ h4
    obtain ⟨rfl, rfl⟩ := rows0 h5
    obtain ⟨x, e1, e2⟩ := take_one (l := l) (i := i + 1) (by omega)
    refine ⟨.lik x r, j, ⟨h1, e1, g1⟩, rfl, trivial, trivial, ?_⟩
    rw [e2]
    show ((SyRows.nats? (vz r)).bind fun r => (SyRows.nat? (x : Int)).bind fun x => some (SyC.Call.likely r x)) = _
    rw [nats_some, nat_some]
    rfl
theorem runs {l : List Nat} (hz : l.length ≤ 100000) : ∀ (f i : Nat) (cs : List (List (List Int))) (L : List Word), PyFlat.calls PyWqaibk.shape f (vz (l.drop i)) = some cs → i ≤ l.length → LexNeutral.asked (cs.map PyWqaibk.whole) = true → Ok L →
    Run l L i (PyFlat.told (PyFlat.played LexNeutral.step L (cs.map PyWqaibk.whole)))
  | f, i, cs, L, h, hi, ha, hL => by
    rcases drop_cases l i with ⟨e, e2⟩ | ⟨n, hn, e⟩
    · rw [e] at h
      have : cs = [] := by
        cases f <;> exact (Option.some.inj h).symm
      subst this
      have : i = l.length := by omega
      subst this
      exact Run.fin L
    · cases f with
      | zero =>
        rw [e] at h
        cases h
      | succ f =>
        have h' : (match PyFlat.call PyWqaibk.shape (vz (l.drop i)) with
          | none => none
          | some (c, t) => match PyFlat.calls PyWqaibk.shape f t with
            | none => none
            | some cs => some (c :: cs)) = some cs := by
          rw [e] at h ⊢
          exact h
        cases ec : PyFlat.call PyWqaibk.shape (vz (l.drop i)) with
        | none => rw [ec] at h'; cases h'
        | some p =>
          obtain ⟨c, t⟩ := p
          rw [ec] at h'
          have h2 : (match PyFlat.calls PyWqaibk.shape f t with
            | none => none
            | some cs => some (c :: cs)) = some cs := h'
          cases er : PyFlat.calls PyWqaibk.shape f t with
          | none => rw [er] at h2; cases h2
          | some cs' =>
            rw [er] at h2
            cases h2
            have ha2 : (LexNeutral.asked1 (PyWqaibk.whole c) && (cs'.map PyWqaibk.whole).all LexNeutral.asked1) = true := ha
            rw [Bool.and_eq_true] at ha2
            obtain ⟨c', j, g1, rfl, g2, g3, g4⟩ := one_call hz ec ha2.1
            obtain ⟨s1, s2, s3⟩ := step_all hL c' g2 g3
            have es : LexNeutral.step L (PyWqaibk.whole c) = c'.step L := by
              unfold LexNeutral.step
              rw [g4]
              exact Prod.ext s1 s2
            have hr := runs hz f j cs' (c'.step L).1 er g1.lt.2 ha2.2 s3
            have eo : PyFlat.told (PyFlat.played LexNeutral.step L ((c :: cs').map PyWqaibk.whole)) = (((c'.step L).2.length : Int) :: (c'.step L).2) ++ PyFlat.told (PyFlat.played LexNeutral.step (c'.step L).1 (cs'.map PyWqaibk.whole)) := by
              rw [← es]
              rfl
            rw [eo]
            exact Run.turn hL.good g1 g2 hr
/-- all that the walk asks -/
theorem law {l : List Int} (hn : ∀ z ∈ l, 0 ≤ z) (hz : l.length ≤ 100000) (ha : PyWqaibk.answers_asked l = true) : ∃ m : List Nat, l = vz m ∧ Run m [] 0 (PyWqaibk.answers l) ∧ (PyWqaibk.answers l).length ≤ 10000000 := by
  have el : l = vz (l.map Int.toNat) := by
    unfold vz
    rw [List.map_map]
    conv => lhs; rw [← List.map_id l]
    exact List.map_congr_left fun z h => by
      have := hn z h
      show z = ((z.toNat : Nat) : Int)
      omega
  refine ⟨l.map Int.toNat, el, ?_⟩
  generalize l.map Int.toNat = m at el
  subst el
  unfold PyWqaibk.answers_asked at ha
  cases e : PyFlat.calls PyWqaibk.shape (vz m).length (vz m) with
  | none => rw [e] at ha; cases ha
  | some raw =>
    rw [e] at ha
    have ha2 : (((PyFlat.atMost 300 raw && PyInside.calls PyWqaibk.bound raw) && LexNeutral.asked (raw.map PyWqaibk.whole)) && PyFlat.short 10000000 (PyWqaibk.answers (vz m))) = true := ha
    rw [Bool.and_eq_true, Bool.and_eq_true] at ha2
    refine ⟨?_, of_decide_eq_true ha2.2⟩
    have ea : PyWqaibk.answers (vz m) = PyFlat.told (PyFlat.played LexNeutral.step LexNeutral.start (raw.map PyWqaibk.whole)) := by
      unfold PyWqaibk.answers PyWqaibk.calls
      rw [e]
    rw [ea]
    rw [vz_len] at hz
    exact runs hz _ 0 raw [] (by rw [List.drop_zero]; exact e) (Nat.zero_le _) ha2.1.2 Ok.nil
end Lx
/-! ## W19 -/
namespace Sx
open PySem PySem.Spec PyProof.Rows L2
/-- the request -/
theorem asked_ok (K : PySem.W.Frag) (H : Hp) (xs : List V) (a : PySem.W.Codec.denoteAll PySem.Challenge.rw_soundlex_s01_answers.args) (hO : OnlyF H) (hwi : PySem.W.Codec.withinAll PySem.Challenge.rw_soundlex_s01_answers.args a = true)
    (hask : PySem.W.Codec.app PySem.Challenge.rw_soundlex_s01_answers.args PySem.Challenge.rw_soundlex_s01_answers.asked a = true) (hx : DwAll K H xs (PySem.W.Codec.encAll PySem.Challenge.rw_soundlex_s01_answers.args a)) :
    sp_answs K xs H (fun v H' => Dw K H' v (PySem.Challenge.rw_soundlex_s01_answers.ret.enc (PySem.W.Codec.app PySem.Challenge.rw_soundlex_s01_answers.args PySem.Challenge.rw_soundlex_s01_answers.f a))) fun _ _ _ => False := by
  cases hx with
  | cons h1 h2 =>
    cases h2
    cases h1 with
    | lst hs ha =>
      have e := L2.ints_dw a.1 _ ha
      subst e
      have q : ((PySem.W.Codec.inLen 0 47000 a.1 && a.1.all (PySem.W.Codec.inInt 0 2097151)) && true) = true := hwi
      rw [Bool.and_eq_true, Bool.and_eq_true] at q
      have hlen := (PySem.W.Codec.inNat_iff.mp q.1.1).2
      have hnn : ∀ z ∈ a.1, 0 ≤ z := fun z hz => by
        have := List.all_eq_true.mp q.1.2 z hz
        exact (PySem.W.Codec.inInt_iff.mp this).1
      obtain ⟨m, em, hr, ho⟩ := Lx.law hnn (Nat.le_trans hlen (by decide)) hask
      refine ⟨_, m, PyWqaibk.answers a.1, rfl, ?_, hr, ho, fun p H' hp hk hq => .lst (L2.SqL.of hq) (L2.dw_ints _)⟩
      rw [em] at hs
      unfold Lx.vz at hs
      rw [List.map_map] at hs
      exact hs
end Sx
/-! ## The end -/
open PySem PySem.W PyProof.Rows
set_option maxRecDepth 100000 in
set_option maxHeartbeats 0 in
theorem PySem.Challenge.cw_soundlex_s01_answers_holds : PySem.Challenge.rw_soundlex_s01_answers.Holds := by
  w_on; k_headS; (case hw => exact ⟨[.list []], by decide +kernel, by decide +kernel⟩)
  k_fillS
  refine L2.walk_specK (r := PySem.Challenge.rw_soundlex_s01_answers) (k := 10) (CX := L2.CX0) (ps := ["calls"]) (sp := Sx.sp_answs) (by decide +kernel) rfl rfl ⟨rfl, by decide, by decide⟩ (fun w h Y => PySem.W.kIn_of Y) ?F ?S (fun _ _ _ _ z => z)
  case F =>
    intro w mg fa h Y KX G hmg
    refine' Sx.all_mk KX G hmg ?a0 ?l0 ?c0 ?k0 ?FF
    (case a0 => k_is); (case l0 => k_is); (case c0 => k_is); (case k0 => k_is)
    case FF =>
     refine' Sx.Facts.mk ?fT ?fTL ?fTD ?fd_isch ?fd_arech ?fd_may ?fd_allmay ?fd_chb ?fd_rowb ?fd_lenby ?fd_begun ?fd_chat ?fd_chof ?fd_short ?fd_bounded ?fd_isw ?fd_made ?fd_rof ?fd_hasn ?fd_byc ?fd_beg ?fd_linit ?fd_take ?fd_size ?fd_has ?fd_word ?fd_lnum ?fd_full ?fd_ldrop ?fd_lput ?fd_lbef ?fd_lfound ?fd_lon ?fd_llik ?fd_llen ?fd_par ?fd_isn ?fd_numof ?fd_arep ?fd_pof ?fd_numsof ?fd_wof ?fd_ist ?fd_decb ?fd_lineb ?fd_fault ?fd_readw ?fd_frows ?fd_dinit ?fd_dbeg ?fd_dread ?fd_dwrite ?fd_dput ?fd_ddrop ?fd_dget ?fd_dnum ?fd_dlik ?fd_dask ?fd_rowat ?fd_tworat ?fd_plain ?fd_answd
     case fd_linit =>
       refine' Sx.mak_mk KX G (fun _ _ _ _ _ _ us hl => match us, hl with | [_], _ => rfl) ?aC ?mk ?kc ?a ?i ?l ?c ?k
       (case aC => k_is); (case mk => k_is); (case kc => k_is); (case a => k_is); (case i => k_is); (case l => k_is); (case c => k_is); (case k => k_is)
     case fd_dinit =>
       refine' Sx.mak_mk KX G (fun _ _ _ _ _ _ us hl => match us, hl with | [_], _ => rfl) ?aC ?mk ?kc ?a ?i ?l ?c ?k
       (case aC => k_is); (case mk => k_is); (case kc => k_is); (case a => k_is); (case i => k_is); (case l => k_is); (case c => k_is); (case k => k_is)
     case fd_isch =>
       refine' Sx.def_mk KX G (fun _ _ _ _ _ _ us hl => match us, hl with | [_], _ => rfl) ?a ?l ?c ?k
       (case a => k_is); (case l => k_is); (case c => k_is); (case k => k_is)
     case fd_arech =>
       refine' Sx.def_mk KX G (fun _ _ _ _ _ _ us hl => match us, hl with | [_], _ => rfl) ?a ?l ?c ?k
       (case a => k_is); (case l => k_is); (case c => k_is); (case k => k_is)
     case fd_may =>
       refine' Sx.def_mk KX G (fun _ _ _ _ _ _ us hl => match us, hl with | [_], _ => rfl) ?a ?l ?c ?k
       (case a => k_is); (case l => k_is); (case c => k_is); (case k => k_is)
     case fd_allmay =>
       refine' Sx.def_mk KX G (fun _ _ _ _ _ _ us hl => match us, hl with | [_], _ => rfl) ?a ?l ?c ?k
       (case a => k_is); (case l => k_is); (case c => k_is); (case k => k_is)
     case fd_chb =>
       refine' Sx.def_mk KX G (fun _ _ _ _ _ _ us hl => match us, hl with | [_], _ => rfl) ?a ?l ?c ?k
       (case a => k_is); (case l => k_is); (case c => k_is); (case k => k_is)
     case fd_rowb =>
       refine' Sx.def_mk KX G (fun _ _ _ _ _ _ us hl => match us, hl with | [_], _ => rfl) ?a ?l ?c ?k
       (case a => k_is); (case l => k_is); (case c => k_is); (case k => k_is)
     case fd_lenby =>
       refine' Sx.def_mk KX G (fun _ _ _ _ _ _ us hl => match us, hl with | [_], _ => rfl) ?a ?l ?c ?k
       (case a => k_is); (case l => k_is); (case c => k_is); (case k => k_is)
     case fd_begun =>
       refine' Sx.def_mk KX G (fun _ _ _ _ _ _ us hl => match us, hl with | [_, _], _ => rfl) ?a ?l ?c ?k
       (case a => k_is); (case l => k_is); (case c => k_is); (case k => k_is)
     case fd_chat =>
       refine' Sx.def_mk KX G (fun _ _ _ _ _ _ us hl => match us, hl with | [_, _], _ => rfl) ?a ?l ?c ?k
       (case a => k_is); (case l => k_is); (case c => k_is); (case k => k_is)
     case fd_chof =>
       refine' Sx.def_mk KX G (fun _ _ _ _ _ _ us hl => match us, hl with | [_], _ => rfl) ?a ?l ?c ?k
       (case a => k_is); (case l => k_is); (case c => k_is); (case k => k_is)
     case fd_short =>
       refine' Sx.def_mk KX G (fun _ _ _ _ _ _ us hl => match us, hl with | [_], _ => rfl) ?a ?l ?c ?k
       (case a => k_is); (case l => k_is); (case c => k_is); (case k => k_is)
     case fd_bounded =>
       refine' Sx.def_mk KX G (fun _ _ _ _ _ _ us hl => match us, hl with | [_, _, _], _ => rfl) ?a ?l ?c ?k
       (case a => k_is); (case l => k_is); (case c => k_is); (case k => k_is)
     case fd_isw =>
       refine' Sx.def_mk KX G (fun _ _ _ _ _ _ us hl => match us, hl with | [_, _, _, _, _], _ => rfl) ?a ?l ?c ?k
       (case a => k_is); (case l => k_is); (case c => k_is); (case k => k_is)
     case fd_made =>
       refine' Sx.def_mk KX G (fun _ _ _ _ _ _ us hl => match us, hl with | [_, _, _, _, _], _ => rfl) ?a ?l ?c ?k
       (case a => k_is); (case l => k_is); (case c => k_is); (case k => k_is)
     case fd_rof =>
       refine' Sx.def_mk KX G (fun _ _ _ _ _ _ us hl => match us, hl with | [_], _ => rfl) ?a ?l ?c ?k
       (case a => k_is); (case l => k_is); (case c => k_is); (case k => k_is)
     case fd_hasn =>
       refine' Sx.def_mk KX G (fun _ _ _ _ _ _ us hl => match us, hl with | [_, _, _], _ => rfl) ?a ?l ?c ?k
       (case a => k_is); (case l => k_is); (case c => k_is); (case k => k_is)
     case fd_byc =>
       refine' Sx.def_mk KX G (fun _ _ _ _ _ _ us hl => match us, hl with | [_], _ => rfl) ?a ?l ?c ?k
       (case a => k_is); (case l => k_is); (case c => k_is); (case k => k_is)
     case fd_beg =>
       refine' Sx.def_mk KX G (fun _ _ _ _ _ _ us hl => match us, hl with | [_, _], _ => rfl) ?a ?l ?c ?k
       (case a => k_is); (case l => k_is); (case c => k_is); (case k => k_is)
     case fd_take =>
       refine' Sx.met_mk ⟨?pg, ?hd, ?po, ?sa⟩ (fun _ _ _ _ _ _ us hl => match us, hl with | [_, _], _ => rfl) ?a ?i ?l ?c ?k
       (case pg => k_is); (case hd => k_is); (case po => k_is); (case sa => k_is); (case a => k_is); (case i => k_is); (case l => k_is); (case c => k_is); (case k => k_is)
     case fd_size =>
       refine' Sx.met_mk ⟨?pg, ?hd, ?po, ?sa⟩ (fun _ _ _ _ _ _ us hl => match us, hl with | [_], _ => rfl) ?a ?i ?l ?c ?k
       (case pg => k_is); (case hd => k_is); (case po => k_is); (case sa => k_is); (case a => k_is); (case i => k_is); (case l => k_is); (case c => k_is); (case k => k_is)
     case fd_has =>
       refine' Sx.met_mk ⟨?pg, ?hd, ?po, ?sa⟩ (fun _ _ _ _ _ _ us hl => match us, hl with | [_, _], _ => rfl) ?a ?i ?l ?c ?k
       (case pg => k_is); (case hd => k_is); (case po => k_is); (case sa => k_is); (case a => k_is); (case i => k_is); (case l => k_is); (case c => k_is); (case k => k_is)
     case fd_word =>
       refine' Sx.met_mk ⟨?pg, ?hd, ?po, ?sa⟩ (fun _ _ _ _ _ _ us hl => match us, hl with | [_, _], _ => rfl) ?a ?i ?l ?c ?k
       (case pg => k_is); (case hd => k_is); (case po => k_is); (case sa => k_is); (case a => k_is); (case i => k_is); (case l => k_is); (case c => k_is); (case k => k_is)
     case fd_lnum =>
       refine' Sx.met_mk ⟨?pg, ?hd, ?po, ?sa⟩ (fun _ _ _ _ _ _ us hl => match us, hl with | [_, _, _], _ => rfl) ?a ?i ?l ?c ?k
       (case pg => k_is); (case hd => k_is); (case po => k_is); (case sa => k_is); (case a => k_is); (case i => k_is); (case l => k_is); (case c => k_is); (case k => k_is)
     case fd_full =>
       refine' Sx.met_mk ⟨?pg, ?hd, ?po, ?sa⟩ (fun _ _ _ _ _ _ us hl => match us, hl with | [_, _, _], _ => rfl) ?a ?i ?l ?c ?k
       (case pg => k_is); (case hd => k_is); (case po => k_is); (case sa => k_is); (case a => k_is); (case i => k_is); (case l => k_is); (case c => k_is); (case k => k_is)
     case fd_ldrop =>
       refine' Sx.met_mk ⟨?pg, ?hd, ?po, ?sa⟩ (fun _ _ _ _ _ _ us hl => match us, hl with | [_, _], _ => rfl) ?a ?i ?l ?c ?k
       (case pg => k_is); (case hd => k_is); (case po => k_is); (case sa => k_is); (case a => k_is); (case i => k_is); (case l => k_is); (case c => k_is); (case k => k_is)
     case fd_lput =>
       refine' Sx.met_mk ⟨?pg, ?hd, ?po, ?sa⟩ (fun _ _ _ _ _ _ us hl => match us, hl with | [_, _], _ => rfl) ?a ?i ?l ?c ?k
       (case pg => k_is); (case hd => k_is); (case po => k_is); (case sa => k_is); (case a => k_is); (case i => k_is); (case l => k_is); (case c => k_is); (case k => k_is)
     case fd_lbef =>
       refine' Sx.met_mk ⟨?pg, ?hd, ?po, ?sa⟩ (fun _ _ _ _ _ _ us hl => match us, hl with | [_, _], _ => rfl) ?a ?i ?l ?c ?k
       (case pg => k_is); (case hd => k_is); (case po => k_is); (case sa => k_is); (case a => k_is); (case i => k_is); (case l => k_is); (case c => k_is); (case k => k_is)
     case fd_lfound =>
       refine' Sx.met_mk ⟨?pg, ?hd, ?po, ?sa⟩ (fun _ _ _ _ _ _ us hl => match us, hl with | [_, _], _ => rfl) ?a ?i ?l ?c ?k
       (case pg => k_is); (case hd => k_is); (case po => k_is); (case sa => k_is); (case a => k_is); (case i => k_is); (case l => k_is); (case c => k_is); (case k => k_is)
     case fd_lon =>
       refine' Sx.met_mk ⟨?pg, ?hd, ?po, ?sa⟩ (fun _ _ _ _ _ _ us hl => match us, hl with | [_, _], _ => rfl) ?a ?i ?l ?c ?k
       (case pg => k_is); (case hd => k_is); (case po => k_is); (case sa => k_is); (case a => k_is); (case i => k_is); (case l => k_is); (case c => k_is); (case k => k_is)
     case fd_llik =>
       refine' Sx.met_mk ⟨?pg, ?hd, ?po, ?sa⟩ (fun _ _ _ _ _ _ us hl => match us, hl with | [_, _, _], _ => rfl) ?a ?i ?l ?c ?k
       (case pg => k_is); (case hd => k_is); (case po => k_is); (case sa => k_is); (case a => k_is); (case i => k_is); (case l => k_is); (case c => k_is); (case k => k_is)
     case fd_llen =>
       refine' Sx.met_mk ⟨?pg, ?hd, ?po, ?sa⟩ (fun _ _ _ _ _ _ us hl => match us, hl with | [_, _], _ => rfl) ?a ?i ?l ?c ?k
       (case pg => k_is); (case hd => k_is); (case po => k_is); (case sa => k_is); (case a => k_is); (case i => k_is); (case l => k_is); (case c => k_is); (case k => k_is)
     case fd_par =>
       refine' Sx.def_mk KX G (fun _ _ _ _ _ _ us hl => match us, hl with | [_, _], _ => rfl) ?a ?l ?c ?k
       (case a => k_is); (case l => k_is); (case c => k_is); (case k => k_is)
     case fd_isn =>
       refine' Sx.def_mk KX G (fun _ _ _ _ _ _ us hl => match us, hl with | [_], _ => rfl) ?a ?l ?c ?k
       (case a => k_is); (case l => k_is); (case c => k_is); (case k => k_is)
     case fd_numof =>
       refine' Sx.def_mk KX G (fun _ _ _ _ _ _ us hl => match us, hl with | [_], _ => rfl) ?a ?l ?c ?k
       (case a => k_is); (case l => k_is); (case c => k_is); (case k => k_is)
     case fd_arep =>
       refine' Sx.def_mk KX G (fun _ _ _ _ _ _ us hl => match us, hl with | [_], _ => rfl) ?a ?l ?c ?k
       (case a => k_is); (case l => k_is); (case c => k_is); (case k => k_is)
     case fd_pof =>
       refine' Sx.def_mk KX G (fun _ _ _ _ _ _ us hl => match us, hl with | [_], _ => rfl) ?a ?l ?c ?k
       (case a => k_is); (case l => k_is); (case c => k_is); (case k => k_is)
     case fd_numsof =>
       refine' Sx.def_mk KX G (fun _ _ _ _ _ _ us hl => match us, hl with | [_], _ => rfl) ?a ?l ?c ?k
       (case a => k_is); (case l => k_is); (case c => k_is); (case k => k_is)
     case fd_wof =>
       refine' Sx.def_mk KX G (fun _ _ _ _ _ _ us hl => match us, hl with | [_], _ => rfl) ?a ?l ?c ?k
       (case a => k_is); (case l => k_is); (case c => k_is); (case k => k_is)
     case fd_ist =>
       refine' Sx.def_mk KX G (fun _ _ _ _ _ _ us hl => match us, hl with | [_, _], _ => rfl) ?a ?l ?c ?k
       (case a => k_is); (case l => k_is); (case c => k_is); (case k => k_is)
     case fd_decb =>
       refine' Sx.def_mk KX G (fun _ _ _ _ _ _ us hl => match us, hl with | [_], _ => rfl) ?a ?l ?c ?k
       (case a => k_is); (case l => k_is); (case c => k_is); (case k => k_is)
     case fd_lineb =>
       refine' Sx.def_mk KX G (fun _ _ _ _ _ _ us hl => match us, hl with | [_], _ => rfl) ?a ?l ?c ?k
       (case a => k_is); (case l => k_is); (case c => k_is); (case k => k_is)
     case fd_fault =>
       refine' Sx.def_mk KX G (fun _ _ _ _ _ _ us hl => match us, hl with | [_, _], _ => rfl) ?a ?l ?c ?k
       (case a => k_is); (case l => k_is); (case c => k_is); (case k => k_is)
     case fd_readw =>
       refine' Sx.def_mk KX G (fun _ _ _ _ _ _ us hl => match us, hl with | [_], _ => rfl) ?a ?l ?c ?k
       (case a => k_is); (case l => k_is); (case c => k_is); (case k => k_is)
     case fd_frows =>
       refine' Sx.def_mk KX G (fun _ _ _ _ _ _ us hl => match us, hl with | [_], _ => rfl) ?a ?l ?c ?k
       (case a => k_is); (case l => k_is); (case c => k_is); (case k => k_is)
     case fd_dbeg =>
       refine' Sx.met_mk ⟨?pg, ?hd, ?po, ?sa⟩ (fun _ _ _ _ _ _ us hl => match us, hl with | [_], _ => rfl) ?a ?i ?l ?c ?k
       (case pg => k_is); (case hd => k_is); (case po => k_is); (case sa => k_is); (case a => k_is); (case i => k_is); (case l => k_is); (case c => k_is); (case k => k_is)
     case fd_dread =>
       refine' Sx.met_mk ⟨?pg, ?hd, ?po, ?sa⟩ (fun _ _ _ _ _ _ us hl => match us, hl with | [_, _], _ => rfl) ?a ?i ?l ?c ?k
       (case pg => k_is); (case hd => k_is); (case po => k_is); (case sa => k_is); (case a => k_is); (case i => k_is); (case l => k_is); (case c => k_is); (case k => k_is)
     case fd_dwrite =>
       refine' Sx.met_mk ⟨?pg, ?hd, ?po, ?sa⟩ (fun _ _ _ _ _ _ us hl => match us, hl with | [_], _ => rfl) ?a ?i ?l ?c ?k
       (case pg => k_is); (case hd => k_is); (case po => k_is); (case sa => k_is); (case a => k_is); (case i => k_is); (case l => k_is); (case c => k_is); (case k => k_is)
     case fd_dput =>
       refine' Sx.met_mk ⟨?pg, ?hd, ?po, ?sa⟩ (fun _ _ _ _ _ _ us hl => match us, hl with | [_, _, _, _], _ => rfl) ?a ?i ?l ?c ?k
       (case pg => k_is); (case hd => k_is); (case po => k_is); (case sa => k_is); (case a => k_is); (case i => k_is); (case l => k_is); (case c => k_is); (case k => k_is)
     case fd_ddrop =>
       refine' Sx.met_mk ⟨?pg, ?hd, ?po, ?sa⟩ (fun _ _ _ _ _ _ us hl => match us, hl with | [_, _], _ => rfl) ?a ?i ?l ?c ?k
       (case pg => k_is); (case hd => k_is); (case po => k_is); (case sa => k_is); (case a => k_is); (case i => k_is); (case l => k_is); (case c => k_is); (case k => k_is)
     case fd_dget =>
       refine' Sx.met_mk ⟨?pg, ?hd, ?po, ?sa⟩ (fun _ _ _ _ _ _ us hl => match us, hl with | [_, _], _ => rfl) ?a ?i ?l ?c ?k
       (case pg => k_is); (case hd => k_is); (case po => k_is); (case sa => k_is); (case a => k_is); (case i => k_is); (case l => k_is); (case c => k_is); (case k => k_is)
     case fd_dnum =>
       refine' Sx.met_mk ⟨?pg, ?hd, ?po, ?sa⟩ (fun _ _ _ _ _ _ us hl => match us, hl with | [_, _, _], _ => rfl) ?a ?i ?l ?c ?k
       (case pg => k_is); (case hd => k_is); (case po => k_is); (case sa => k_is); (case a => k_is); (case i => k_is); (case l => k_is); (case c => k_is); (case k => k_is)
     case fd_dlik =>
       refine' Sx.met_mk ⟨?pg, ?hd, ?po, ?sa⟩ (fun _ _ _ _ _ _ us hl => match us, hl with | [_, _, _], _ => rfl) ?a ?i ?l ?c ?k
       (case pg => k_is); (case hd => k_is); (case po => k_is); (case sa => k_is); (case a => k_is); (case i => k_is); (case l => k_is); (case c => k_is); (case k => k_is)
     case fd_dask =>
       refine' Sx.met_mk ⟨?pg, ?hd, ?po, ?sa⟩ (fun _ _ _ _ _ _ us hl => match us, hl with | [_, _, _], _ => rfl) ?a ?i ?l ?c ?k
       (case pg => k_is); (case hd => k_is); (case po => k_is); (case sa => k_is); (case a => k_is); (case i => k_is); (case l => k_is); (case c => k_is); (case k => k_is)
     case fd_rowat =>
       refine' Sx.def_mk KX G (fun _ _ _ _ _ _ us hl => match us, hl with | [_, _], _ => rfl) ?a ?l ?c ?k
       (case a => k_is); (case l => k_is); (case c => k_is); (case k => k_is)
     case fd_tworat =>
       refine' Sx.def_mk KX G (fun _ _ _ _ _ _ us hl => match us, hl with | [_, _], _ => rfl) ?a ?l ?c ?k
       (case a => k_is); (case l => k_is); (case c => k_is); (case k => k_is)
     case fd_plain =>
       refine' Sx.def_mk KX G (fun _ _ _ _ _ _ us hl => match us, hl with | [_, _, _, _], _ => rfl) ?a ?l ?c ?k
       (case a => k_is); (case l => k_is); (case c => k_is); (case k => k_is)
     case fd_answd =>
       refine' Sx.def_mk KX G (fun _ _ _ _ _ _ us hl => match us, hl with | [_, _, _], _ => rfl) ?a ?l ?c ?k
       (case a => k_is); (case l => k_is); (case c => k_is); (case k => k_is)
     case fT =>
       refine' Sx.Txt.mk (Sx.gi_mk KX G ?limit) (Sx.gi_mk KX G ?fbar) (Sx.gi_mk KX G ?lbar) (Sx.gi_mk KX G ?mchar) (Sx.gi_mk KX G ?gsort) (Sx.gi_mk KX G ?gcost) (Sx.gi_mk KX G ?mwl) (Sx.gi_mk KX G ?blank) (Sx.gi_mk KX G ?feed) (Sx.gi_mk KX G ?zero) (Sx.gi_mk KX G ?great) (Sx.gi_mk KX G ?mwr) (Sx.gi_mk KX G ?mby) (Sx.gi_mk KX G ?mrow) (PySem.W.mg_none_of KX G ?blen) (PySem.W.mg_none_of KX G ?brange) (PySem.W.mg_none_of KX G ?btuple) (PySem.W.mg_none_of KX G ?blist) (PySem.W.mg_none_of KX G ?bsorted) (PySem.W.mg_none_of KX G ?bmin)
       (case limit => k_is); (case fbar => k_is); (case lbar => k_is); (case mchar => k_is); (case gsort => k_is); (case gcost => k_is); (case mwl => k_is); (case blank => k_is); (case feed => k_is); (case zero => k_is); (case great => k_is); (case mwr => k_is); (case mby => k_is); (case mrow => k_is); (case blen => k_is); (case brange => k_is); (case btuple => k_is); (case blist => k_is); (case bsorted => k_is); (case bmin => k_is)
     case fTL =>
       refine' ⟨⟨?pg, ?hd, ?po, ?sa⟩, ?n⟩
       (case pg => k_is); (case hd => k_is); (case po => k_is); (case sa => k_is); (case n => unfold L2.NoAttr; k_is)
     case fTD =>
       refine' ⟨⟨?pg, ?hd, ?po, ?sa⟩, ?n⟩
       (case pg => k_is); (case hd => k_is); (case po => k_is); (case sa => k_is); (case n => unfold L2.NoAttr; k_is)
  case S => exact fun K H xs a hO hwi hask hx => Sx.asked_ok K H xs a hO hwi hask hx
