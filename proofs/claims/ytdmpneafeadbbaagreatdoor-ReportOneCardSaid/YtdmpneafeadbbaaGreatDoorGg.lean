/- Texts of this claim, joined: each says ahead what it shows. Conditions: those of each contract. -/
import Derived.Test.YtdmpneafeadbbaaGreatDoorGe
import Derived.Lib.ConvBytes
import Derived.Lib.AtoiAllMem
import Derived.Lib.AtoiErrMem
import Derived.Lib.Hide
import Derived.Laws.Strings3
import Derived.Laws.Closers25
import Derived.Laws.Closers25b
import Derived.WalkKit
import Derived.BigCall
import Derived.BigGuard
import Derived.Test.YtdmpneafeadbbaaGreatDoorGf
import Derived.Lib.ParseIntBTie
set_option linter.unusedSimpArgs false
/- strconv.ParseUint to the base 16, 64 bits. Conditions: those of each contract. -/
set_option maxRecDepth 100000
set_option linter.unusedVariables false
namespace Go.Proofs.YtdmpneafeadbbaaGreatDoor
open Go Go.Abs Go.RowKit
namespace Ph
/-- what a sign counts to the base 16; from 16 on: no such sign -/
def dv (c : UInt8) : Nat := if 48 ≤ c.toNat ∧ c.toNat ≤ 57 then c.toNat - 48 else if 97 ≤ bits .or .u8 c.toNat 32 ∧ bits .or .u8 c.toNat 32 ≤ 122 then (bits .or .u8 c.toNat 32).toNat - 87 else 99
/-- a number to the base 16 -/
def p16 (acc : Nat) : List UInt8 → Option Nat
  | [] => some acc
  | c :: l => if dv c < 16 ∧ acc < 1152921504606846976 then p16 (acc * 16 + dv c) l else none
/-- what ParseUint within strconv gives back -/
def R (o : Option Nat) (v : Value) : Prop := match o with
  | some n => v = .tuple #[.int .u64 n, .nilIface]
  | none => ∃ u c, (c = 1 ∨ c = 2) ∧ v = .tuple #[.int .u64 u, .iface 159 (.int .i64 c)]
set_option maxHeartbeats 32000000 in
theorem inner (t : ByteArray) (hne : t.size ≠ 0) (hmax : t.size ≤ 9223372036854775806) (w : World) :
    Calls Tryz.prog 68 #[.string t, .int .i64 16, .int .i64 64] w fun e w' => (∃ v, e = .returned v ∧ R (p16 0 t.data.toList) v) ∧ w' = Lib.bytesWorld w 5 t := by
  have mixed := mix
  have hemp : t.toList.isEmpty = false := by
    rw [← decide_eq_emptyBytes]
    exact decide_eq_false (fun h => hne (by rw [h]; rfl))
  have hcv := Lib.run_convert_string_bytes (P := Tryz.prog) w 9 61 5 t (u := .string) Tryz.underlying9 Tryz.underlying61 Tryz.underlying5
  have hB : ∀ j, j < t.size → (Lib.bytesWorld w 5 t).cell? ⟨w.heap.size, j, none⟩ = some (.int .u8 (t.data.toList.getD j 0).toNat) := fun j hj => Lib.bytesWorld_cell w 5 t j hj
  obtain ⟨W1, hW1⟩ : ∃ W1, W1 = Lib.bytesWorld w 5 t := ⟨_, rfl⟩
  rw [← hW1] at hcv hB ⊢
  clear hW1
  obtain ⟨bs, hL⟩ : ∃ bs, bs = t.data.toList := ⟨_, rfl⟩
  have hLn : bs.length = t.size := by rw [hL, Lib.size_eq]
  rw [← hL] at hB ⊢
  clear hL
  have hmv : IntKind.u64.wrap (IntKind.u64.wrap 18446744073709551616 - 1) = 18446744073709551615 := by
    rw [IntKind.wrap_u64, IntKind.wrap_u64]
    decide
  go_enter Tryz.func68, Tryz.ntmps68
  go_wp2
  go_loop [12, 13, 101] (fun vu vn vi => ∃ (k acc : Nat) (a : Int), vu = .bool false ∧ vn = .int .u64 a ∧ vi = .int .i64 k ∧ k ≤ t.size ∧ Hid (a = (acc : Int) ∧ acc < 18446744073709551616 ∧ p16 0 bs = p16 acc (bs.drop k)))
    (fun _ _ vi => t.size - (intOf vi).toNat)
  case atStart => exact ⟨0, 0, 0, rfl, rfl, rfl, by omega, rfl, by omega, rfl⟩
  case round =>
    obtain ⟨k, acc, a, rfl, rfl, rfl, hk, hh⟩ := hrel
    obtain ⟨ha, hacc, hdec⟩ := hh.out
    clear hh
    have a0 : 0 ≤ a := by omega
    have a1 : a < 18446744073709551616 := by omega
    by_cases hkn : k < t.size
    · have hc := hB k hkn
      have hdrop : bs.drop k = bs[k]'(by omega) :: bs.drop (k + 1) := List.drop_eq_getElem_cons (by omega)
      have hget : bs.getD k 0 = bs[k]'(by omega) := by simp [List.getD, List.getElem?_eq_getElem (show k < bs.length by omega)]
      rw [hdrop] at hdec
      rw [hget] at hc
      generalize bs[k]'(by omega) = c at hc hdec
      have hc256 : c.toNat < 256 := c.toNat_lt
      clear hB hdrop hget
      by_cases hdig : 48 ≤ c.toNat ∧ c.toNat ≤ 57
      · have hdv : dv c = c.toNat - 48 := by unfold dv; rw [if_pos hdig]
        obtain ⟨hd0, hd1⟩ := hdig
        by_cases hcut : acc < 1152921504606846976
        · have hF : p16 acc (c :: bs.drop (k + 1)) = p16 (acc * 16 + (c.toNat - 48)) (bs.drop (k + 1)) := by rw [p16, if_pos ⟨by omega, hcut⟩, hdv]
          have HN : Hid (a * 16 + ((c.toNat : Int) - 48) = ((acc * 16 + (c.toNat - 48) : Nat) : Int) ∧ acc * 16 + (c.toNat - 48) < 18446744073709551616 ∧ p16 0 bs = p16 (acc * 16 + (c.toNat - 48)) (bs.drop (k + 1))) := Lib.hid ⟨by omega, by omega, hdec.trans hF⟩
          have icut : a < 1152921504606846976 := by omega
          have iov : a * 16 + ((c.toNat : Int) - 48) < 18446744073709551616 := by omega
          clear hcut hacc hF hdec ha hdv
          go_wp2
          refine ⟨⟨k + 1, acc * 16 + (c.toNat - 48), a * 16 + ((c.toNat : Int) - 48), rfl, (by first | rfl | (congr 1; omega)), (by first | rfl | (congr 1; omega)), by omega, HN⟩, by simp [intOf]; omega⟩
        · have hF : p16 acc (c :: bs.drop (k + 1)) = none := by rw [p16, if_neg (fun h => hcut h.2)]
          rw [hF] at hdec
          have HD := Lib.hid hdec
          have icut : 1152921504606846976 ≤ a := by omega
          clear hcut hacc hF ha hdv hdec
          go_wp2
          go_ret2
          exact ⟨⟨_, rfl, by rw [HD.out]; exact ⟨_, 1, .inl rfl, rfl⟩⟩, rfl⟩
      · have hv0 := bits_lo_u8 .or (c.toNat : Int) 32
        have hv1 := bits_hi_u8 .or (c.toNat : Int) 32
        have hdv : dv c = if 97 ≤ bits .or .u8 c.toNat 32 ∧ bits .or .u8 c.toNat 32 ≤ 122 then (bits .or .u8 c.toNat 32).toNat - 87 else 99 := by unfold dv; rw [if_neg hdig]
        have hlow := fun w1 => Tryz.internal_strconv_lower c.toNat w1
        have hdig' : ¬ (48 ≤ (c.toNat : Int) ∧ (c.toNat : Int) ≤ 57) := by omega
        have h95 : (c.toNat : Int) = 95 → bits .or .u8 (c.toNat : Int) 32 = 127 := fun h => by rw [h]; decide
        clear hdig
        generalize bits .or .u8 (c.toNat : Int) 32 = z at hv0 hv1 hdv hlow h95
        by_cases hz : 97 ≤ z ∧ z ≤ 122
        · rw [if_pos hz] at hdv
          have hne95 : ((c.toNat : Int) == 95) = false := by
            have : (c.toNat : Int) ≠ 95 := fun h => by have := h95 h; omega
            simpa using this
          clear h95
          have hz1 := hz.1
          have hzz := hz.2
          clear hz
          by_cases hz2 : z ≤ 102
          · by_cases hcut : acc < 1152921504606846976
            · have hF : p16 acc (c :: bs.drop (k + 1)) = p16 (acc * 16 + (z.toNat - 87)) (bs.drop (k + 1)) := by rw [p16, if_pos ⟨by omega, hcut⟩, hdv]
              have HN : Hid (a * 16 + (z - 97 + 10) = ((acc * 16 + (z.toNat - 87) : Nat) : Int) ∧ acc * 16 + (z.toNat - 87) < 18446744073709551616 ∧ p16 0 bs = p16 (acc * 16 + (z.toNat - 87)) (bs.drop (k + 1))) := Lib.hid ⟨by omega, by omega, hdec.trans hF⟩
              have icut : a < 1152921504606846976 := by omega
              have iov : a * 16 + (z - 97 + 10) < 18446744073709551616 := by omega
              clear hcut hacc hF hdec ha hdv
              go_wp2_with (go_at_call 100; refine (hlow _).mono ?_; rintro e w' ⟨rfl, rfl⟩)
              all_goals refine ⟨⟨k + 1, acc * 16 + (z.toNat - 87), a * 16 + (z - 97 + 10), rfl, (by first | rfl | (congr 1; omega)), (by first | rfl | (congr 1; omega)), by omega, HN⟩, by simp [intOf]; omega⟩
            · have hF : p16 acc (c :: bs.drop (k + 1)) = none := by rw [p16, if_neg (fun h => hcut h.2)]
              rw [hF] at hdec
              have HD := Lib.hid hdec
              have icut : 1152921504606846976 ≤ a := by omega
              clear hcut hacc hF ha hdv hdec
              go_wp2_with (go_at_call 100; refine (hlow _).mono ?_; rintro e w' ⟨rfl, rfl⟩)
              all_goals go_ret2
              all_goals exact ⟨⟨_, rfl, by rw [HD.out]; exact ⟨_, 1, .inl rfl, rfl⟩⟩, rfl⟩
          · have hF : p16 acc (c :: bs.drop (k + 1)) = none := by rw [p16, if_neg (fun h => by have := h.1; omega)]
            rw [hF] at hdec
            have HD := Lib.hid hdec
            clear hacc hF ha hdv hdec
            go_wp2_with (go_at_call 100; refine (hlow _).mono ?_; rintro e w' ⟨rfl, rfl⟩)
            all_goals go_ret2
            all_goals exact ⟨⟨_, rfl, by rw [HD.out]; exact ⟨_, 2, .inr rfl, rfl⟩⟩, rfl⟩
        · rw [if_neg hz] at hdv
          have hF : p16 acc (c :: bs.drop (k + 1)) = none := by rw [p16, if_neg (fun h => by have := h.1; omega)]
          by_cases hc95 : (c.toNat : Int) = 95
          · rw [hF] at hdec
            have HD := Lib.hid hdec
            have hlow95 := fun w1 => Tryz.internal_strconv_lower 95 w1
            have hb : bits .or .u8 95 32 = 127 := by decide
            rw [hb] at hlow95
            clear hlow h95
            rw [hc95] at hc
            clear hacc hF ha hdv hdec hz
            go_wp2_with (go_at_call 100; refine (hlow95 _).mono ?_; rintro e w' ⟨rfl, rfl⟩)
            all_goals go_ret2
            all_goals exact ⟨⟨_, rfl, by rw [HD.out]; exact ⟨_, 2, .inr rfl, rfl⟩⟩, rfl⟩
          · rw [hF] at hdec
            have HD := Lib.hid hdec
            have hne95 : ((c.toNat : Int) == 95) = false := by simpa using hc95
            clear hc95 h95
            have hz : z < 97 ∨ 122 < z := by omega
            clear hacc hF ha hdv hdec
            rcases hz with hz | hz
            all_goals go_wp2_with (go_at_call 100; refine (hlow _).mono ?_; rintro e w' ⟨rfl, rfl⟩)
            all_goals go_ret2
            all_goals exact ⟨⟨_, rfl, by rw [HD.out]; exact ⟨_, 2, .inr rfl, rfl⟩⟩, rfl⟩
    · have hkk : k = t.size := by omega
      subst hkk
      have hF : p16 acc (bs.drop t.size) = some acc := by rw [List.drop_eq_nil_of_le (by omega)]; rfl
      rw [hF] at hdec
      subst ha
      have HD := Lib.hid hdec
      clear hacc hF a0 a1 hdec
      go_wp2
      go_ret2
      exact ⟨⟨_, rfl, by rw [HD.out]; rfl⟩, rfl⟩
set_option maxHeartbeats 4000000 in
theorem parse (s : ByteArray) (hlim : s.size ≤ 281474976710656) (w : World) (hv : Vl.Vars w) :
    Calls Tryz.prog 26 #[.string s, .int .i64 16, .int .i64 64] w fun e w' => (match (if s.size = 0 then none else p16 0 s.data.toList) with
      | some n => e = .returned (.tuple #[.int .u64 n, .nilIface])
      | none => ∃ u t p, e = .returned (.tuple #[.int .u64 u, .iface t p])) ∧ Below w.heap.size w w' := by
  have mixed := mix
  have hI : Calls Tryz.prog 68 #[.string s, .int .i64 16, .int .i64 64] w fun e w' => (∃ v, e = .returned v ∧ R (if s.size = 0 then none else p16 0 s.data.toList) v) ∧ Below w.heap.size w w' := by
    by_cases h0 : s.size = 0
    · rw [if_pos h0]
      have hs : s = ⟨#[]⟩ := by
        apply ByteArray.ext
        exact Array.eq_empty_of_size_eq_zero h0
      subst hs
      go_enter Tryz.func68, Tryz.ntmps68
      go_wp2
      go_ret2
      exact ⟨⟨_, rfl, _, 2, .inr rfl, rfl⟩, Below.refl _ _⟩
    · rw [if_neg h0]
      exact (inner s h0 (by omega) w).mono fun e w' ⟨g1, g2⟩ => ⟨g1, g2 ▸ Lib.bytesWorld_below _ _ _⟩
  generalize (if s.size = 0 then none else p16 0 s.data.toList) = o at hI ⊢
  obtain ⟨ts, ps, hS⟩ := hv.syn
  obtain ⟨tr, pr, hR⟩ := hv.ran
  have hsz := hv.size
  clear hv
  cases o with
  | some n =>
    have hI : Calls Tryz.prog 68 #[.string s, .int .i64 16, .int .i64 64] w fun e w' => e = .returned (.tuple #[.int .u64 n, .nilIface]) ∧ Below w.heap.size w w' := hI.mono fun e w' ⟨⟨v, g1, g2⟩, g3⟩ => ⟨g1.trans (congrArg _ g2), g3⟩
    go_enter Tryz.func26, Tryz.ntmps26
    go_wp2_with (go_at_call 68; refine hI.mono ?_)
    rintro e w1 ⟨rfl, hb⟩
    go_wp2
    go_ret2
    exact ⟨rfl, hb⟩
  | none =>
    go_enter Tryz.func26, Tryz.ntmps26
    go_wp2_with (go_at_call 68; refine hI.mono ?_)
    rintro e w1 ⟨⟨v, rfl, u, c, hc, rfl⟩, hb⟩
    have hS1 : w1.cell? ⟨1, 0, none⟩ = some (.iface ts ps) := (hb.cell (p := ⟨1, 0, none⟩) (show 1 < w.heap.size by omega)).trans hS
    have hR1 : w1.cell? ⟨2, 0, none⟩ = some (.iface tr pr) := (hb.cell (p := ⟨2, 0, none⟩) (show 2 < w.heap.size by omega)).trans hR
    rcases hc with rfl | rfl
    · go_wp2_with (go_at_call 67; refine (Tryz.strconv_toError_range _ s 16 64 _ w1 hlim hR1 (.inr ⟨_, _, rfl⟩)).mono ?_)
      rintro e w2 ⟨N, rfl, _, _, h3⟩
      have hb := hb.trans (h3.mono hb.size)
      go_wp2
      go_ret2
      exact ⟨⟨_, _, _, rfl⟩, hb⟩
    · go_wp2_with (go_at_call 67; refine (Tryz.strconv_toError_syntax _ s 16 64 _ w1 hlim hS1 (.inr ⟨_, _, rfl⟩)).mono ?_)
      rintro e w2 ⟨N, rfl, _, _, h3⟩
      have hb := hb.trans (h3.mono hb.size)
      go_wp2
      go_ret2
      exact ⟨⟨_, _, _, rfl⟩, hb⟩
end Ph
end Go.Proofs.YtdmpneafeadbbaaGreatDoor
/- report.ReadValue. Conditions: those of each contract. -/
set_option maxRecDepth 100000
set_option linter.unusedVariables false
namespace Go.Proofs.YtdmpneafeadbbaaGreatDoor
open Go Go.Abs Go.RowKit
namespace Rv
open Vl L
/-- report.Value -/
theorem value (k m : Int) (b : Nat) (l : List UInt8) (hb : b < 18446744073709551616) (h0 : -9223372036854775808 ≤ m) (h1 : m ≤ 9223372036854775807) (hl : l.length ≤ 1000) (w : World) (hv : Vars w) :
    Calls Tryz.prog 6 #[vV k m b ⟨⟨l⟩⟩] w fun e w' => e = .returned (.tuple #[.string ⟨(if okv k m b l = true then txt k m b l else []).toArray⟩, .int .i64 (if okv k m b l = true then 0 else 8)]) ∧ Below w.heap.size w w' := by
  have hc := fun w1 => check k m b l hb (by omega) w1
  cases ho : okv k m b l with
  | false =>
    rw [ho] at hc
    exact value_bad k m b 8 ⟨⟨l⟩⟩ w hc (by decide)
  | true =>
    rw [ho] at hc
    have hsz : (⟨⟨l⟩⟩ : ByteArray).size ≤ 1000 := hl
    by_cases k1 : k = 1
    · subst k1
      exact value_num m b ⟨⟨l⟩⟩ w hv hc h0 h1
    · by_cases k2 : k = 2
      · subst k2
        exact value_flt m b ⟨⟨l⟩⟩ w hb hc
      · have h := value_txt k m b ⟨⟨l⟩⟩ w k1 k2 hsz hc
        unfold txt
        rw [if_pos rfl, if_pos rfl, if_neg k1, if_neg k2]
        exact h
/-- what is read, before it is looked at again -/
def cand : List UInt8 → Option (Int × Int × Nat × List UInt8)
  | [] => none
  | c :: l => if c = 110 then (match Lib.parseIntB 64 l with | .ok v => some (1, v, 0, []) | _ => none)
    else if c = 102 then (match (if l = [] then none else Ph.p16 0 l) with | some b => some (2, 0, b, []) | none => none)
    else if c = 116 then some (3, 0, 0, Wg.une l) else some (0, 0, 0, [])
/-- what is read -/
def rd (s : List UInt8) : Option (Int × Int × Nat × List UInt8) := match cand s with
  | some (k, m, b, l) => if okv k m b l = true ∧ txt k m b l = s then some (k, m, b, l) else none
  | none => none
def vO (o : Option (Int × Int × Nat × List UInt8)) : Value := match o with
  | some (k, m, b, l) => .tuple #[vV k m b ⟨⟨l⟩⟩, .int .i64 0]
  | none => .tuple #[vV 0 0 0 ⟨#[]⟩, .int .i64 12]
theorem Wh_ext (s : ByteArray) : (s.extract 1 s.size).data.toList = s.data.toList.drop 1 := Wg.ext_drop s 1
set_option maxHeartbeats 2000000 in
theorem read_nil (w : World) : Calls Tryz.prog 8 #[.string ⟨#[]⟩] w fun e w' => e = .returned (.tuple #[vV 0 0 0 ⟨#[]⟩, .int .i64 12]) ∧ Below w.heap.size w w' := by
  have mixed := mix
  unfold vV
  go_enter Tryz.func8, Tryz.ntmps8
  go_wp2
  exact bodyPost_ret (by simp [results, Tryz.results8, go_sem]) rfl ⟨rfl, (Below.refl _ _).alloc (Nat.le_refl _) _⟩
/-- the two blocks: what is handed back, what is read -/
theorem blocks (w : World) (w' : World) (v : Value) (k m b : Value) (l : Value) (h : Below (w.heap.size + 2) ((w.alloc (.cells #[.int .u8 0, .int .i64 0, .int .u64 0, .string ⟨#[]⟩] 24)).alloc (.cells #[k, m, b, l] 24)) w') :
    w'.heap[w.heap.size]? = some (.cells #[.int .u8 0, .int .i64 0, .int .u64 0, .string ⟨#[]⟩] 24 (0, 0)) ∧ w'.heap[w.heap.size + 1]? = some (.cells #[k, m, b, l] 24 (0, 0)) := by
  constructor
  · rw [h.block _ (by omega), Below.heap_alloc _ _ _ (by simp)]
    exact Tx.heap_new _ _
  · rw [h.block _ (by omega)]
    have := Tx.heap_new (w.alloc (.cells #[.int .u8 0, .int .i64 0, .int .u64 0, .string ⟨#[]⟩] 24)) (.cells #[k, m, b, l] 24)
    simpa using this
set_option maxHeartbeats 2000000 in
theorem read_other (s : ByteArray) (hs : 0 < s.size) (h1 : (s[0]).toNat ≠ 110) (h2 : (s[0]).toNat ≠ 102) (h3 : (s[0]).toNat ≠ 116) (w : World) : Calls Tryz.prog 8 #[.string s] w fun e w' => e = .returned (.tuple #[vV 0 0 0 ⟨#[]⟩, .int .i64 12]) ∧ Below w.heap.size w w' := by
  have mixed := mix
  have hemp : s.toList.isEmpty = false := by rw [Lk.empty_of s _ rfl]; exact decide_eq_false (by omega)
  have n1 : (((s[0]).toNat : Int) == 110) = false := by simpa using (fun h => h1 (by omega) : ¬ ((s[0]).toNat : Int) = 110)
  have n2 : (((s[0]).toNat : Int) == 102) = false := by simpa using (fun h => h2 (by omega) : ¬ ((s[0]).toNat : Int) = 102)
  have n3 : (((s[0]).toNat : Int) == 116) = false := by simpa using (fun h => h3 (by omega) : ¬ ((s[0]).toNat : Int) = 116)
  unfold vV
  go_enter Tryz.func8, Tryz.ntmps8
  go_wp2
  exact bodyPost_ret (by simp [results, Tryz.results8, go_sem]) rfl ⟨rfl, by go_grown; all_goals go_size⟩
/-- a value is put into a block -/
theorem set4 (w : World) (M : Nat) (x : Array Value) (hx : x.size = 4) (h : w.heap[M]? = some (.cells x 24 (0, 0))) (a b c d : Value) :
    ((((w.setCell ⟨M, 0, none⟩ a).setCell ⟨M, 1, none⟩ b).setCell ⟨M, 2, none⟩ c).setCell ⟨M, 3, none⟩ d).heap[M]? = some (.cells #[a, b, c, d] 24 (0, 0)) ∧
    (∀ j, j ≠ M → ((((w.setCell ⟨M, 0, none⟩ a).setCell ⟨M, 1, none⟩ b).setCell ⟨M, 2, none⟩ c).setCell ⟨M, 3, none⟩ d).heap[j]? = w.heap[j]?) ∧
    ((((w.setCell ⟨M, 0, none⟩ a).setCell ⟨M, 1, none⟩ b).setCell ⟨M, 2, none⟩ c).setCell ⟨M, 3, none⟩ d).heap.size = w.heap.size ∧
    Below M w ((((w.setCell ⟨M, 0, none⟩ a).setCell ⟨M, 1, none⟩ b).setCell ⟨M, 2, none⟩ c).setCell ⟨M, 3, none⟩ d) := by
  obtain ⟨x⟩ := x
  match x, hx with
  | [x0, x1, x2, x3], _ =>
    refine ⟨?_, fun j hj => ?_, ?_, ?_⟩
    · simp [World.setCell, Array.getElem?_modify, h]
    · rw [Below.heap_setCell _ _ _ _ hj, Below.heap_setCell _ _ _ _ hj, Below.heap_setCell _ _ _ _ hj, Below.heap_setCell _ _ _ _ hj]
    · simp [World.setCell]
    · exact ((((Below.refl _ _).setCell (p := ⟨M, 0, none⟩) (Nat.le_refl _) _).setCell (p := ⟨M, 1, none⟩) (Nat.le_refl _) _).setCell (p := ⟨M, 2, none⟩) (Nat.le_refl _) _).setCell (p := ⟨M, 3, none⟩) (Nat.le_refl _) _
theorem toL (s : ByteArray) : s.toList = s.data.toList := ByteArray.toList_eq s
theorem p16_lt : ∀ (l : List UInt8) (acc b : Nat), acc < 18446744073709551616 → Ph.p16 acc l = some b → b < 18446744073709551616
  | [], acc, b, h, hp => by cases hp; exact h
  | c :: l, acc, b, h, hp => by
    rw [Ph.p16] at hp
    split at hp
    · rename_i h2
      exact p16_lt l _ b (by omega) hp
    · cases hp
set_option maxHeartbeats 4000000 in
theorem read_txt (s : ByteArray) (hs : 0 < s.size) (hl : s.size ≤ 1000) (h1 : (s[0]).toNat = 116) (w : World) (hv : Vars w) : Calls Tryz.prog 8 #[.string s] w fun e w' => e = .returned (vO (if okv 3 0 0 (Wg.une (s.data.toList.drop 1)) = true ∧ txt 3 0 0 (Wg.une (s.data.toList.drop 1)) = s.data.toList then some (3, 0, 0, Wg.une (s.data.toList.drop 1)) else none)) ∧ Below w.heap.size w w' := by
  have mixed := mix
  have hemp : s.toList.isEmpty = false := by rw [Lk.empty_of s _ rfl]; exact decide_eq_false (by omega)
  have hle1 : (1 : Int) ≤ (s.size : Int) := by omega
  have hpl := fun w1 => Wg.plain (s.extract 1 s.size) w1 (by simp; omega)
  rw [Wh_ext] at hpl
  have hul := Wg.une_length (s.data.toList.drop 1)
  have hsl : s.data.toList.length = s.size := rfl
  rw [List.length_drop, hsl] at hul
  obtain ⟨u, qu⟩ : ∃ u, u = Wg.une (s.data.toList.drop 1) := ⟨_, rfl⟩
  rw [← qu] at hpl hul ⊢
  clear qu
  have hres : ∀ (T : List UInt8) (C : Int), (T = if okv 3 0 0 u = true then txt 3 0 0 u else []) → (C = if okv 3 0 0 u = true then 0 else 8) → (C = 8 ∧ vO (if okv 3 0 0 u = true ∧ txt 3 0 0 u = s.data.toList then some (3, 0, 0, u) else none) = vO none) ∨
      (C = 0 ∧ ⟨T.toArray⟩ = s ∧ vO (if okv 3 0 0 u = true ∧ txt 3 0 0 u = s.data.toList then some (3, 0, 0, u) else none) = vO (some (3, 0, 0, u))) ∨
      (C = 0 ∧ (T == s.toList) = false ∧ vO (if okv 3 0 0 u = true ∧ txt 3 0 0 u = s.data.toList then some (3, 0, 0, u) else none) = vO none) := fun T C hT hC => by
    cases ho : okv 3 0 0 u with
    | false => rw [ho] at hC; exact .inl ⟨hC, by rw [if_neg (fun h => by cases h.1)]⟩
    | true =>
      rw [ho] at hC hT
      by_cases he : txt 3 0 0 u = s.data.toList
      · refine .inr (.inl ⟨hC, ?_, by rw [if_pos ⟨rfl, he⟩]⟩)
        rw [hT, if_pos rfl, he]
      · refine .inr (.inr ⟨hC, ?_, by rw [if_neg (fun h => he h.2)]⟩)
        rw [hT, if_pos rfl, toL]
        simpa using he
  generalize vO (if okv 3 0 0 u = true ∧ txt 3 0 0 u = s.data.toList then some (3, 0, 0, u) else none) = R at hres ⊢
  obtain ⟨T, qT⟩ : ∃ T, T = if okv 3 0 0 u = true then txt 3 0 0 u else [] := ⟨_, rfl⟩
  obtain ⟨C, qC⟩ : ∃ C : Int, C = if okv 3 0 0 u = true then 0 else 8 := ⟨_, rfl⟩
  have hres := Lib.hid (hres T C qT qC)
  have hval := fun w1 (hv1 : Vars w1) => value 3 0 0 u (by decide) (by decide) (by decide) (by omega) w1 hv1
  rw [← qT, ← qC] at hval
  clear qT qC
  unfold vV at hval
  go_enter Tryz.func8, Tryz.ntmps8
  go_wp2_with (go_at_call 27; refine (hpl _).mono ?_)
  rintro e w1 ⟨rfl, hb1⟩
  have hb1 : Below (w.heap.size + 2) ((w.alloc (.cells #[.int .u8 0, .int .i64 0, .int .u64 0, .string ⟨#[]⟩] 24)).alloc (.cells #[.int .u8 0, .int .i64 0, .int .u64 0, .string ⟨#[]⟩] 24)) w1 := by simpa using hb1
  obtain ⟨g1, g2⟩ := blocks w w1 undef _ _ _ _ hb1
  obtain ⟨⟨c0, c1, c2, c3⟩, f0, f1, f2, f3⟩ := Tx.box4 g2
  obtain ⟨t1, t2, t3, t4⟩ := set4 w1 _ _ rfl g2 (.int .u8 3) (.int .i64 0) (.int .u64 0) (.string ⟨⟨u⟩⟩)
  have hb2 : Below w.heap.size w w1 := (((Below.refl _ _).alloc (Nat.le_refl _) _).alloc (by simp) _).trans (hb1.mono (by omega))
  have hlt : w.heap.size + 1 < w1.heap.size := by have := hb1.size; simp at this; omega
  have t2 := (t2 w.heap.size (by omega)).trans g1
  have hb3 := hb2.trans (t4.mono (Nat.le_succ _))
  go_wp2_with (go_at_call 6; refine (hval _ (hv.below ?hbb)).mono ?_)
  case hbb => exact hb3
  rintro e w2 ⟨rfl, hb4⟩
  have g1' := (hb4.block _ (by rw [t3]; omega)).trans t2
  have g2' := (hb4.block _ (by rw [t3]; omega)).trans t1
  have hb5 := hb3.trans (hb4.mono (by rw [t3]; omega))
  obtain ⟨⟨a0, a1, a2, a3⟩, e0, e1, e2, e3⟩ := Tx.box4 g1'
  obtain ⟨⟨d0, d1, d2, d3⟩, _, _, _, _⟩ := Tx.box4 g2'
  clear t1 t2 t3 t4 g1 g2 g1' g2' hb3 hb4 hlt c0 c1 c2 c3 f0 f1 f2 f3 hv hb1 hb2
  have hE : ∀ (x0 x1 x2 x3 : Value), Below w.heap.size w ((((w2.setCell ⟨w.heap.size, 0, none⟩ x0).setCell ⟨w.heap.size, 1, none⟩ x1).setCell ⟨w.heap.size, 2, none⟩ x2).setCell ⟨w.heap.size, 3, none⟩ x3) := fun x0 x1 x2 x3 =>
    (((hb5.setCell (p := ⟨w.heap.size, 0, none⟩) (Nat.le_refl _) _).setCell (p := ⟨w.heap.size, 1, none⟩) (Nat.le_refl _) _).setCell (p := ⟨w.heap.size, 2, none⟩) (Nat.le_refl _) _).setCell (p := ⟨w.heap.size, 3, none⟩) (Nat.le_refl _) _
  rcases hres.out with ⟨rfl, rfl⟩ | ⟨rfl, hts, rfl⟩ | ⟨rfl, hts, rfl⟩
  · clear hres
    go_wp2
    exact bodyPost_ret (by simp [results, Tryz.results8, go_sem, a0, a1, a2, a3, vO, vV]) rfl ⟨rfl, hE _ _ _ _⟩
  · clear hres
    rw [hts]
    clear hts
    go_wp2
    exact bodyPost_ret (by simp [results, Tryz.results8, go_sem, a0, a1, a2, a3, vO, vV]) rfl ⟨rfl, hE _ _ _ _⟩
  · clear hres
    go_wp2
    exact bodyPost_ret (by simp [results, Tryz.results8, go_sem, a0, a1, a2, a3, vO, vV]) rfl ⟨rfl, hE _ _ _ _⟩
set_option maxHeartbeats 4000000 in
theorem read_num (s : ByteArray) (hs : 0 < s.size) (hl : s.size ≤ 1000) (h1 : (s[0]).toNat = 110) {m : Int} (hp : Lib.parseIntB 64 (s.data.toList.drop 1) = .ok m) (w : World) (hv : Vars w) : Calls Tryz.prog 8 #[.string s] w fun e w' => e = .returned (vO (if okv 1 m 0 [] = true ∧ txt 1 m 0 [] = s.data.toList then some (1, m, 0, []) else none)) ∧ Below w.heap.size w w' := by
  have mixed := mix
  have hemp : s.toList.isEmpty = false := by rw [Lk.empty_of s _ rfl]; exact decide_eq_false (by omega)
  have hle1 : (1 : Int) ≤ (s.size : Int) := by omega
  have hsl : s.data.toList.length = s.size := rfl
  obtain ⟨hm0, hm1⟩ := Lib.parseIntB_bounds hp
  have hpi : ∀ w1, Calls Tryz.prog 25 #[.string (s.extract 1 s.size), .int .i64 10, .int .i64 64] w1 fun e w' => e = .returned (.tuple #[.int .i64 m, .nilIface]) ∧ Below w1.heap.size w1 w' := fun w1 => (Tryz.strconv_ParseInt_10_at64_ok (s.extract 1 s.size) (by simp; omega) m (by rw [Wh_ext]; exact hp) w1).mono (fun e w' ⟨g1, g2⟩ => ⟨g1, by
    rcases g2 with rfl | ⟨t, rfl⟩
    · exact Below.refl _ _
    · exact Lib.bytesWorld_below _ _ _⟩)
  have hm0 : -9223372036854775808 ≤ m := hm0
  have hm1 : m ≤ 9223372036854775807 := Int.le_of_lt_add_one hm1
  clear hp
  have hres : ∀ (T : List UInt8) (C : Int), (T = if okv 1 m 0 [] = true then txt 1 m 0 [] else []) → (C = if okv 1 m 0 [] = true then 0 else 8) → (C = 8 ∧ vO (if okv 1 m 0 [] = true ∧ txt 1 m 0 [] = s.data.toList then some (1, m, 0, []) else none) = vO none) ∨
      (C = 0 ∧ ⟨T.toArray⟩ = s ∧ vO (if okv 1 m 0 [] = true ∧ txt 1 m 0 [] = s.data.toList then some (1, m, 0, []) else none) = vO (some (1, m, 0, []))) ∨
      (C = 0 ∧ (T == s.toList) = false ∧ vO (if okv 1 m 0 [] = true ∧ txt 1 m 0 [] = s.data.toList then some (1, m, 0, []) else none) = vO none) := fun T C hT hC => by
    cases ho : okv 1 m 0 [] with
    | false => rw [ho] at hC; exact .inl ⟨hC, by rw [if_neg (fun h => by cases h.1)]⟩
    | true =>
      rw [ho] at hC hT
      by_cases he : txt 1 m 0 [] = s.data.toList
      · refine .inr (.inl ⟨hC, ?_, by rw [if_pos ⟨rfl, he⟩]⟩)
        rw [hT, if_pos rfl, he]
      · refine .inr (.inr ⟨hC, ?_, by rw [if_neg (fun h => he h.2)]⟩)
        rw [hT, if_pos rfl, toL]
        simpa using he
  generalize vO (if okv 1 m 0 [] = true ∧ txt 1 m 0 [] = s.data.toList then some (1, m, 0, []) else none) = R at hres ⊢
  obtain ⟨T, qT⟩ : ∃ T, T = if okv 1 m 0 [] = true then txt 1 m 0 [] else [] := ⟨_, rfl⟩
  obtain ⟨C, qC⟩ : ∃ C : Int, C = if okv 1 m 0 [] = true then 0 else 8 := ⟨_, rfl⟩
  have hres := Lib.hid (hres T C qT qC)
  have hval := fun w1 (hv1 : Vars w1) => value 1 m 0 [] (by decide) hm0 hm1 (by decide) w1 hv1
  rw [← qT, ← qC] at hval
  clear qT qC
  unfold vV at hval
  go_enter Tryz.func8, Tryz.ntmps8
  go_wp2_with (go_at_call 25; refine (hpi _).mono ?_)
  rintro e w1 ⟨rfl, hb1⟩
  have hb1 : Below (w.heap.size + 2) ((w.alloc (.cells #[.int .u8 0, .int .i64 0, .int .u64 0, .string ⟨#[]⟩] 24)).alloc (.cells #[.int .u8 0, .int .i64 0, .int .u64 0, .string ⟨#[]⟩] 24)) w1 := by simpa using hb1
  obtain ⟨g1, g2⟩ := blocks w w1 undef _ _ _ _ hb1
  obtain ⟨⟨c0, c1, c2, c3⟩, f0, f1, f2, f3⟩ := Tx.box4 g2
  obtain ⟨t1, t2, t3, t4⟩ := set4 w1 _ _ rfl g2 (.int .u8 1) (.int .i64 m) (.int .u64 0) (.string ⟨⟨[]⟩⟩)
  have hb2 : Below w.heap.size w w1 := (((Below.refl _ _).alloc (Nat.le_refl _) _).alloc (by simp) _).trans (hb1.mono (by omega))
  have hlt : w.heap.size + 1 < w1.heap.size := by have := hb1.size; simp at this; omega
  have t2 := (t2 w.heap.size (by omega)).trans g1
  have hb3 := hb2.trans (t4.mono (Nat.le_succ _))
  go_wp2_with (go_at_call 6; refine (hval _ (hv.below ?hbb)).mono ?_)
  case hbb => exact hb3
  rintro e w2 ⟨rfl, hb4⟩
  have g1' := (hb4.block _ (by rw [t3]; omega)).trans t2
  have g2' := (hb4.block _ (by rw [t3]; omega)).trans t1
  have hb5 := hb3.trans (hb4.mono (by rw [t3]; omega))
  obtain ⟨⟨a0, a1, a2, a3⟩, e0, e1, e2, e3⟩ := Tx.box4 g1'
  obtain ⟨⟨d0, d1, d2, d3⟩, _, _, _, _⟩ := Tx.box4 g2'
  clear t1 t2 t3 t4 g1 g2 g1' g2' hb3 hb4 hlt c0 c1 c2 c3 f0 f1 f2 f3 hv hb1 hb2
  have hE : ∀ (x0 x1 x2 x3 : Value), Below w.heap.size w ((((w2.setCell ⟨w.heap.size, 0, none⟩ x0).setCell ⟨w.heap.size, 1, none⟩ x1).setCell ⟨w.heap.size, 2, none⟩ x2).setCell ⟨w.heap.size, 3, none⟩ x3) := fun x0 x1 x2 x3 =>
    (((hb5.setCell (p := ⟨w.heap.size, 0, none⟩) (Nat.le_refl _) _).setCell (p := ⟨w.heap.size, 1, none⟩) (Nat.le_refl _) _).setCell (p := ⟨w.heap.size, 2, none⟩) (Nat.le_refl _) _).setCell (p := ⟨w.heap.size, 3, none⟩) (Nat.le_refl _) _
  rcases hres.out with ⟨rfl, rfl⟩ | ⟨rfl, hts, rfl⟩ | ⟨rfl, hts, rfl⟩
  · clear hres
    go_wp2
    exact bodyPost_ret (by simp [results, Tryz.results8, go_sem, a0, a1, a2, a3, vO, vV]) rfl ⟨rfl, hE _ _ _ _⟩
  · clear hres
    rw [hts]
    clear hts
    go_wp2
    exact bodyPost_ret (by simp [results, Tryz.results8, go_sem, a0, a1, a2, a3, vO, vV]) rfl ⟨rfl, hE _ _ _ _⟩
  · clear hres
    go_wp2
    exact bodyPost_ret (by simp [results, Tryz.results8, go_sem, a0, a1, a2, a3, vO, vV]) rfl ⟨rfl, hE _ _ _ _⟩
set_option maxHeartbeats 4000000 in
theorem read_flt (s : ByteArray) (hs : 0 < s.size) (hl : s.size ≤ 1000) (h1 : (s[0]).toNat = 102) {b : Nat} (hp : ¬ (s.extract 1 s.size).size = 0 ∧ Ph.p16 0 (s.data.toList.drop 1) = some b) (w : World) (hv : Vars w) : Calls Tryz.prog 8 #[.string s] w fun e w' => e = .returned (vO (if okv 2 0 b [] = true ∧ txt 2 0 b [] = s.data.toList then some (2, 0, b, []) else none)) ∧ Below w.heap.size w w' := by
  have mixed := mix
  have hemp : s.toList.isEmpty = false := by rw [Lk.empty_of s _ rfl]; exact decide_eq_false (by omega)
  have hle1 : (1 : Int) ≤ (s.size : Int) := by omega
  have hpu := fun w1 (hv1 : Vars w1) => Ph.parse (s.extract 1 s.size) (by simp; omega) w1 hv1
  rw [Wh_ext] at hpu
  have hz : ¬ (s.extract 1 s.size).size = 0 := hp.1
  rw [if_neg hz, hp.2] at hpu
  have hpu : ∀ w1, Vars w1 → Calls Tryz.prog 26 #[.string (s.extract 1 s.size), .int .i64 16, .int .i64 64] w1 fun e w' => e = .returned (.tuple #[.int .u64 b, .nilIface]) ∧ Below w1.heap.size w1 w' := hpu
  have hb64 : b < 18446744073709551616 := p16_lt _ _ _ (by decide) hp.2
  clear hz hp
  have hv2 := hv.below (((Below.refl _ w).alloc (Nat.le_refl _) (.cells #[.int .u8 0, .int .i64 0, .int .u64 0, .string ⟨#[]⟩] 24)).alloc (by simp) (.cells #[.int .u8 0, .int .i64 0, .int .u64 0, .string ⟨#[]⟩] 24))
  have hres : ∀ (T : List UInt8) (C : Int), (T = if okv 2 0 b [] = true then txt 2 0 b [] else []) → (C = if okv 2 0 b [] = true then 0 else 8) → (C = 8 ∧ vO (if okv 2 0 b [] = true ∧ txt 2 0 b [] = s.data.toList then some (2, 0, b, []) else none) = vO none) ∨
      (C = 0 ∧ ⟨T.toArray⟩ = s ∧ vO (if okv 2 0 b [] = true ∧ txt 2 0 b [] = s.data.toList then some (2, 0, b, []) else none) = vO (some (2, 0, b, []))) ∨
      (C = 0 ∧ (T == s.toList) = false ∧ vO (if okv 2 0 b [] = true ∧ txt 2 0 b [] = s.data.toList then some (2, 0, b, []) else none) = vO none) := fun T C hT hC => by
    cases ho : okv 2 0 b [] with
    | false => rw [ho] at hC; exact .inl ⟨hC, by rw [if_neg (fun h => by cases h.1)]⟩
    | true =>
      rw [ho] at hC hT
      by_cases he : txt 2 0 b [] = s.data.toList
      · refine .inr (.inl ⟨hC, ?_, by rw [if_pos ⟨rfl, he⟩]⟩)
        rw [hT, if_pos rfl, he]
      · refine .inr (.inr ⟨hC, ?_, by rw [if_neg (fun h => he h.2)]⟩)
        rw [hT, if_pos rfl, toL]
        simpa using he
  generalize vO (if okv 2 0 b [] = true ∧ txt 2 0 b [] = s.data.toList then some (2, 0, b, []) else none) = R at hres ⊢
  obtain ⟨T, qT⟩ : ∃ T, T = if okv 2 0 b [] = true then txt 2 0 b [] else [] := ⟨_, rfl⟩
  obtain ⟨C, qC⟩ : ∃ C : Int, C = if okv 2 0 b [] = true then 0 else 8 := ⟨_, rfl⟩
  have hres := Lib.hid (hres T C qT qC)
  have hval := fun w1 (hv1 : Vars w1) => value 2 0 b [] hb64 (by decide) (by decide) (by decide) w1 hv1
  rw [← qT, ← qC] at hval
  clear qT qC
  unfold vV at hval
  go_enter Tryz.func8, Tryz.ntmps8
  go_wp2_with (go_at_call 26; refine (hpu _ hv2).mono ?_)
  rintro e w1 rfl hb1
  have hb1 : Below (w.heap.size + 2) ((w.alloc (.cells #[.int .u8 0, .int .i64 0, .int .u64 0, .string ⟨#[]⟩] 24)).alloc (.cells #[.int .u8 0, .int .i64 0, .int .u64 0, .string ⟨#[]⟩] 24)) w1 := by simpa using hb1
  obtain ⟨g1, g2⟩ := blocks w w1 undef _ _ _ _ hb1
  obtain ⟨⟨c0, c1, c2, c3⟩, f0, f1, f2, f3⟩ := Tx.box4 g2
  obtain ⟨t1, t2, t3, t4⟩ := set4 w1 _ _ rfl g2 (.int .u8 2) (.int .i64 0) (.int .u64 b) (.string ⟨⟨[]⟩⟩)
  have hb2 : Below w.heap.size w w1 := (((Below.refl _ _).alloc (Nat.le_refl _) _).alloc (by simp) _).trans (hb1.mono (by omega))
  have hlt : w.heap.size + 1 < w1.heap.size := by have := hb1.size; simp at this; omega
  have t2 := (t2 w.heap.size (by omega)).trans g1
  have hb3 := hb2.trans (t4.mono (Nat.le_succ _))
  go_wp2_with (go_at_call 6; refine (hval _ (hv.below ?hbb)).mono ?_)
  case hbb => exact hb3
  rintro e w2 ⟨rfl, hb4⟩
  have g1' := (hb4.block _ (by rw [t3]; omega)).trans t2
  have g2' := (hb4.block _ (by rw [t3]; omega)).trans t1
  have hb5 := hb3.trans (hb4.mono (by rw [t3]; omega))
  obtain ⟨⟨a0, a1, a2, a3⟩, e0, e1, e2, e3⟩ := Tx.box4 g1'
  obtain ⟨⟨d0, d1, d2, d3⟩, _, _, _, _⟩ := Tx.box4 g2'
  clear t1 t2 t3 t4 g1 g2 g1' g2' hb3 hb4 hlt c0 c1 c2 c3 f0 f1 f2 f3 hv hb1 hb2
  have hE : ∀ (x0 x1 x2 x3 : Value), Below w.heap.size w ((((w2.setCell ⟨w.heap.size, 0, none⟩ x0).setCell ⟨w.heap.size, 1, none⟩ x1).setCell ⟨w.heap.size, 2, none⟩ x2).setCell ⟨w.heap.size, 3, none⟩ x3) := fun x0 x1 x2 x3 =>
    (((hb5.setCell (p := ⟨w.heap.size, 0, none⟩) (Nat.le_refl _) _).setCell (p := ⟨w.heap.size, 1, none⟩) (Nat.le_refl _) _).setCell (p := ⟨w.heap.size, 2, none⟩) (Nat.le_refl _) _).setCell (p := ⟨w.heap.size, 3, none⟩) (Nat.le_refl _) _
  rcases hres.out with ⟨rfl, rfl⟩ | ⟨rfl, hts, rfl⟩ | ⟨rfl, hts, rfl⟩
  · clear hres
    go_wp2
    exact bodyPost_ret (by simp [results, Tryz.results8, go_sem, a0, a1, a2, a3, vO, vV]) rfl ⟨rfl, hE _ _ _ _⟩
  · clear hres
    rw [hts]
    clear hts
    go_wp2
    exact bodyPost_ret (by simp [results, Tryz.results8, go_sem, a0, a1, a2, a3, vO, vV]) rfl ⟨rfl, hE _ _ _ _⟩
  · clear hres
    go_wp2
    exact bodyPost_ret (by simp [results, Tryz.results8, go_sem, a0, a1, a2, a3, vO, vV]) rfl ⟨rfl, hE _ _ _ _⟩
end Rv
end Go.Proofs.YtdmpneafeadbbaaGreatDoor
/- report.ReadValue, as a whole. Conditions: the text's length. -/
set_option maxRecDepth 100000
set_option linter.unusedVariables false
namespace Go.Proofs.YtdmpneafeadbbaaGreatDoor
open Go Go.Abs Go.RowKit
namespace Rv
open Vl L
set_option maxHeartbeats 4000000 in
theorem bad_num (s : ByteArray) (hs : 0 < s.size) (hl : s.size ≤ 1000) (h1 : (s[0]).toNat = 110) (hp : ∀ m, Lib.parseIntB 64 (s.data.toList.drop 1) ≠ .ok m) (w : World) (hv : Vars w) : Calls Tryz.prog 8 #[.string s] w fun e w' => e = .returned (vO none) ∧ Below w.heap.size w w' := by
  have mixed := mix
  have hemp : s.toList.isEmpty = false := by rw [Lk.empty_of s _ rfl]; exact decide_eq_false (by omega)
  have hle1 : (1 : Int) ≤ (s.size : Int) := by omega
  have hpi : ∀ w1, Vars w1 → Calls Tryz.prog 25 #[.string (s.extract 1 s.size), .int .i64 10, .int .i64 64] w1 fun e w' => (∃ u t p, e = .returned (.tuple #[.int .i64 u, .iface t p])) ∧ Below w1.heap.size w1 w' := fun w1 hv1 => by
    obtain ⟨ts, ps, hS⟩ := hv1.syn
    obtain ⟨tr, pr, hR⟩ := hv1.ran
    rcases hq : Lib.parseIntB 64 (s.extract 1 s.size).data.toList with m | _ | _
    · exact absurd (by rw [← Wh_ext]; exact hq) (hp m)
    · refine (Any.strconv_ParseInt_10_at64_syntax Tryz.laysC174 (s.extract 1 s.size) (by simp; omega) hq _ w1 hS (.inr ⟨_, _, rfl⟩)).mono ?_
      rintro e w2 ⟨N, rfl, _, _, h3⟩
      exact ⟨⟨_, _, _, rfl⟩, h3⟩
    · refine (Tryz.strconv_ParseInt_10_at64_range (s.extract 1 s.size) (by simp; omega) hq _ w1 hR (.inr ⟨_, _, rfl⟩)).mono ?_
      rintro e w2 ⟨N, rfl, _, _, h3⟩
      exact ⟨⟨_, _, _, rfl⟩, h3⟩
  clear hp
  have hv2 := hv.below (((Below.refl _ w).alloc (Nat.le_refl _) (.cells #[.int .u8 0, .int .i64 0, .int .u64 0, .string ⟨#[]⟩] 24)).alloc (by simp) (.cells #[.int .u8 0, .int .i64 0, .int .u64 0, .string ⟨#[]⟩] 24))
  have hb2 := (((Below.refl _ w).alloc (Nat.le_refl _) (.cells #[.int .u8 0, .int .i64 0, .int .u64 0, .string ⟨#[]⟩] 24)).alloc (by simp) (.cells #[.int .u8 0, .int .i64 0, .int .u64 0, .string ⟨#[]⟩] 24))
  unfold vO vV
  go_enter Tryz.func8, Tryz.ntmps8
  go_wp2_with (go_at_call 25; refine (hpi _ hv2).mono ?_)
  rintro e w1 ⟨⟨u, t, p, rfl⟩, hb1⟩
  have hb1' : Below (w.heap.size + 2) ((w.alloc (.cells #[.int .u8 0, .int .i64 0, .int .u64 0, .string ⟨#[]⟩] 24)).alloc (.cells #[.int .u8 0, .int .i64 0, .int .u64 0, .string ⟨#[]⟩] 24)) w1 := by simpa using hb1
  obtain ⟨g1, g2⟩ := blocks w w1 undef _ _ _ _ hb1'
  obtain ⟨⟨a0, a1, a2, a3⟩, e0, e1, e2, e3⟩ := Tx.box4 g1
  have hb5 := hb2.trans (hb1.mono (by simp; omega))
  clear hb1 hb1' g1 g2 hv hv2 hb2
  have hE : ∀ (x0 x1 x2 x3 : Value), Below w.heap.size w ((((w1.setCell ⟨w.heap.size, 0, none⟩ x0).setCell ⟨w.heap.size, 1, none⟩ x1).setCell ⟨w.heap.size, 2, none⟩ x2).setCell ⟨w.heap.size, 3, none⟩ x3) := fun x0 x1 x2 x3 =>
    (((hb5.setCell (p := ⟨w.heap.size, 0, none⟩) (Nat.le_refl _) _).setCell (p := ⟨w.heap.size, 1, none⟩) (Nat.le_refl _) _).setCell (p := ⟨w.heap.size, 2, none⟩) (Nat.le_refl _) _).setCell (p := ⟨w.heap.size, 3, none⟩) (Nat.le_refl _) _
  go_wp2
  exact bodyPost_ret (by simp [results, Tryz.results8, go_sem, a0, a1, a2, a3, vO, vV]) rfl ⟨rfl, hE _ _ _ _⟩
set_option maxHeartbeats 4000000 in
theorem bad_flt (s : ByteArray) (hs : 0 < s.size) (hl : s.size ≤ 1000) (h1 : (s[0]).toNat = 102) (hp : (if (s.extract 1 s.size).size = 0 then none else Ph.p16 0 (s.data.toList.drop 1)) = none) (w : World) (hv : Vars w) : Calls Tryz.prog 8 #[.string s] w fun e w' => e = .returned (vO none) ∧ Below w.heap.size w w' := by
  have mixed := mix
  have hemp : s.toList.isEmpty = false := by rw [Lk.empty_of s _ rfl]; exact decide_eq_false (by omega)
  have hle1 : (1 : Int) ≤ (s.size : Int) := by omega
  have hpi : ∀ w1, Vars w1 → Calls Tryz.prog 26 #[.string (s.extract 1 s.size), .int .i64 16, .int .i64 64] w1 fun e w' => (∃ u t p, e = .returned (.tuple #[.int .u64 u, .iface t p])) ∧ Below w1.heap.size w1 w' := fun w1 hv1 => by
    have h := Ph.parse (s.extract 1 s.size) (by simp; omega) w1 hv1
    rw [Wh_ext, hp] at h
    exact h
  clear hp
  have hv2 := hv.below (((Below.refl _ w).alloc (Nat.le_refl _) (.cells #[.int .u8 0, .int .i64 0, .int .u64 0, .string ⟨#[]⟩] 24)).alloc (by simp) (.cells #[.int .u8 0, .int .i64 0, .int .u64 0, .string ⟨#[]⟩] 24))
  have hb2 := (((Below.refl _ w).alloc (Nat.le_refl _) (.cells #[.int .u8 0, .int .i64 0, .int .u64 0, .string ⟨#[]⟩] 24)).alloc (by simp) (.cells #[.int .u8 0, .int .i64 0, .int .u64 0, .string ⟨#[]⟩] 24))
  unfold vO vV
  go_enter Tryz.func8, Tryz.ntmps8
  go_wp2_with (go_at_call 26; refine (hpi _ hv2).mono ?_)
  rintro e w1 ⟨⟨u, t, p, rfl⟩, hb1⟩
  have hb1' : Below (w.heap.size + 2) ((w.alloc (.cells #[.int .u8 0, .int .i64 0, .int .u64 0, .string ⟨#[]⟩] 24)).alloc (.cells #[.int .u8 0, .int .i64 0, .int .u64 0, .string ⟨#[]⟩] 24)) w1 := by simpa using hb1
  obtain ⟨g1, g2⟩ := blocks w w1 undef _ _ _ _ hb1'
  obtain ⟨⟨a0, a1, a2, a3⟩, e0, e1, e2, e3⟩ := Tx.box4 g1
  have hb5 := hb2.trans (hb1.mono (by simp; omega))
  clear hb1 hb1' g1 g2 hv hv2 hb2
  have hE : ∀ (x0 x1 x2 x3 : Value), Below w.heap.size w ((((w1.setCell ⟨w.heap.size, 0, none⟩ x0).setCell ⟨w.heap.size, 1, none⟩ x1).setCell ⟨w.heap.size, 2, none⟩ x2).setCell ⟨w.heap.size, 3, none⟩ x3) := fun x0 x1 x2 x3 =>
    (((hb5.setCell (p := ⟨w.heap.size, 0, none⟩) (Nat.le_refl _) _).setCell (p := ⟨w.heap.size, 1, none⟩) (Nat.le_refl _) _).setCell (p := ⟨w.heap.size, 2, none⟩) (Nat.le_refl _) _).setCell (p := ⟨w.heap.size, 3, none⟩) (Nat.le_refl _) _
  go_wp2
  exact bodyPost_ret (by simp [results, Tryz.results8, go_sem, a0, a1, a2, a3, vO, vV]) rfl ⟨rfl, hE _ _ _ _⟩
theorem head_eq (s : ByteArray) (hs : 0 < s.size) : s.data.toList = s[0] :: s.data.toList.drop 1 := by
  have h : 0 < s.data.toList.length := hs
  have := List.drop_eq_getElem_cons h
  rw [List.drop_zero] at this
  exact this
/-- **report.ReadValue** -/
theorem read (s : ByteArray) (hl : s.size ≤ 1000) (w : World) (hv : Vars w) : Calls Tryz.prog 8 #[.string s] w fun e w' => e = .returned (vO (rd s.data.toList)) ∧ Below w.heap.size w w' := by
  by_cases hs : s.size = 0
  · have : s = ⟨#[]⟩ := ByteArray.ext (Array.eq_empty_of_size_eq_zero hs)
    subst this
    exact read_nil w
  · have hs : 0 < s.size := Nat.pos_of_ne_zero hs
    have hh := head_eq s hs
    have e8 : ∀ n : Nat, n < 256 → ((s[0]).toNat = n ↔ s[0] = UInt8.ofNat n) := fun n hn => ⟨fun h => by rw [← h]; simp, fun h => by rw [h]; simp; omega⟩
    unfold rd
    by_cases h1 : (s[0]).toNat = 110
    · have c1 : s[0] = 110 := (e8 110 (by decide)).1 h1
      rcases hq : Lib.parseIntB 64 (s.data.toList.drop 1) with m | _ | _
      · have hc : cand s.data.toList = some (1, m, 0, []) := by rw [hh, cand, if_pos c1, hq]
        rw [hc]
        exact read_num s hs hl h1 hq w hv
      · have hc : cand s.data.toList = none := by rw [hh, cand, if_pos c1, hq]
        rw [hc]
        exact bad_num s hs hl h1 (fun m h => by rw [hq] at h; cases h) w hv
      · have hc : cand s.data.toList = none := by rw [hh, cand, if_pos c1, hq]
        rw [hc]
        exact bad_num s hs hl h1 (fun m h => by rw [hq] at h; cases h) w hv
    · have c1 : ¬ s[0] = 110 := fun h => h1 ((e8 110 (by decide)).2 h)
      by_cases h2 : (s[0]).toNat = 102
      · have c2 : s[0] = 102 := (e8 102 (by decide)).1 h2
        have hz : (s.extract 1 s.size).size = 0 ↔ s.data.toList.drop 1 = [] := by
          rw [← Wh_ext]
          exact ⟨fun h => List.eq_nil_of_length_eq_zero h, fun h => congrArg List.length h⟩
        cases hq : (if s.data.toList.drop 1 = [] then none else Ph.p16 0 (s.data.toList.drop 1)) with
        | some b =>
          have hc : cand s.data.toList = some (2, 0, b, []) := by rw [hh, cand, if_neg c1, if_pos c2, hq]
          rw [hc]
          refine read_flt s hs hl h2 ⟨fun h => ?_, ?_⟩ w hv
          · rw [if_pos (hz.1 h)] at hq; cases hq
          · by_cases hn : s.data.toList.drop 1 = []
            · rw [if_pos hn] at hq; cases hq
            · rw [if_neg hn] at hq; exact hq
        | none =>
          have hc : cand s.data.toList = none := by rw [hh, cand, if_neg c1, if_pos c2, hq]
          rw [hc]
          refine bad_flt s hs hl h2 ?_ w hv
          by_cases hn : s.data.toList.drop 1 = []
          · rw [if_pos (hz.2 hn)]
          · rw [if_neg (fun h => hn (hz.1 h))]
            rw [if_neg hn] at hq
            exact hq
      · have c2 : ¬ s[0] = 102 := fun h => h2 ((e8 102 (by decide)).2 h)
        by_cases h3 : (s[0]).toNat = 116
        · have c3 : s[0] = 116 := (e8 116 (by decide)).1 h3
          have hc : cand s.data.toList = some (3, 0, 0, Wg.une (s.data.toList.drop 1)) := by
            have : ∀ l, s.data.toList = s[0] :: l → cand (s[0] :: l) = some (3, 0, 0, Wg.une l) := fun l _ => by rw [cand, if_neg c1, if_neg c2, if_pos c3]
            rw [hh]
            exact this _ hh
          rw [hc]
          exact read_txt s hs hl h3 w hv
        · have c3 : ¬ s[0] = 116 := fun h => h3 ((e8 116 (by decide)).2 h)
          have hc : cand s.data.toList = some (0, 0, 0, []) := by rw [hh, cand, if_neg c1, if_neg c2, if_neg c3]
          rw [hc]
          exact read_other s hs h1 h2 h3 w
end Rv
end Go.Proofs.YtdmpneafeadbbaaGreatDoor
