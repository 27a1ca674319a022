/-
  Texts that are read: what the functions hand back, and the plain laws.
-/
import Derived.Shelf.Pu.Lays
import Derived.Shelf.Pu.Lower
import Derived.Lib.Strings
import Derived.Lib.Walk
import Derived.Lib.ConvBytes
import Derived.Lib.ParseIntBMem
import Derived.Lib.Hide
import Derived.Laws.Strings3
import Derived.Laws.Closers25
import Derived.Laws.Closers25b
import Derived.WalkKit
import Derived.BigCall
import Derived.BigGuard
import Derived.Shelf.Pu.ParseUintPublic10
import Derived.Maps.AppendAt
import Derived.Lib.Split
import Derived.Lib.SplitLaws
import Derived.Lib.IndexBytes
import Derived.Test.YtmkhoggpejemiaaDoorSxM
import Derived.Test.YtmkhoggpejemiaaDoorProg
set_option linter.unusedVariables false
set_option linter.unusedSimpArgs false
namespace Go.Proofs.YtmkhoggpejemiaaDoor
open Go.Shelf Go.RowKit Go.Proofs
variable {P : Program} {ρ : Ren}

/-- A byte with the bit 32 set. -/
def lowC (c : Nat) : Int := bits .or .u8 (c : Int) 32
/-- A digit to the base 16. -/
def dg16 (c : Nat) : Option Nat := if 48 ≤ c ∧ c ≤ 57 then some (c - 48) else if 97 ≤ lowC c ∧ lowC c ≤ 102 then some ((lowC c).toNat - 87) else none
def parse16 : Nat → List UInt8 → Lib.NumEnd Nat
  | acc, [] => .ok acc
  | acc, c :: l =>
    match dg16 c.toNat with
    | none => .syntax
    | some d => if 4294967295 < acc * 16 + d then .range else parse16 (acc * 16 + d) l

theorem lowC95 : lowC 95 = 127 := by decide

set_option maxHeartbeats 32000000 in
set_option maxRecDepth 100000 in
theorem parseUint16 (L : LaysPu.n16 P ρ) (t : ByteArray) (hne : t.size ≠ 0) (hmax : t.size ≤ 9223372036854775806) (w : World) :
    Calls P (ρ.f 16) #[.string t, .int .i64 16, .int .i64 32] w fun e w' => e = .returned (Lib.uintTupleM (ρ.t 34) 4294967295 (parse16 0 t.data.toList)) ∧ w' = Lib.bytesWorld w (ρ.t 5) t := by
  have mixed := L.mixed
  have t9 := L.t9; have a9 := L.a9; have z9 := L.z9; have v9 := L.v9
  have t3 := L.t3; have a3 := L.a3; have z3 := L.z3; have v3 := L.v3
  have t22 := L.t22; have a22 := L.a22; have z22 := L.z22; have v22 := L.v22
  have t24 := L.t24; have a24 := L.a24; have z24 := L.z24; have v24 := L.v24
  have t4 := L.t4; have a4 := L.a4; have z4 := L.z4; have v4 := L.v4
  have t34 := L.t34; have a34 := L.a34; have z34 := L.z34; have v34 := L.v34
  have t5 := L.t5; have a5 := L.a5; have z5 := L.z5; have v5 := L.v5
  have t36 := L.t36; have a36 := L.a36; have z36 := L.z36; have v36 := L.v36
  have t37 := L.t37; have a37 := L.a37; have z37 := L.z37; have v37 := L.v37
  have t0 := L.t0; have a0 := L.a0; have z0 := L.z0; have v0 := L.v0
  have e19 : ∀ args w, (callFunc (ρ.f 19) args).run P w = .ok (.enter (ρ.f 19) args) w := enters_of L.f19 (by kernel_rfl) rfl
  have hemp : t.toList.isEmpty = false := by
    rw [← decide_eq_emptyBytes]
    exact decide_eq_false (fun h => hne (by rw [h]; rfl))
  have hcv := Lib.run_convert_string_bytes (P := P) w (ρ.t 9) (ρ.t 37) (ρ.t 5) t (u := .string) L.t9 L.t37 L.t5
  have hB : ∀ j, j < t.size → (Lib.bytesWorld w (ρ.t 5) t).cell? ⟨w.heap.size, j, none⟩ = some (.int .u8 (t.data.toList.getD j 0).toNat) := fun j hj => Lib.bytesWorld_cell w (ρ.t 5) t j hj
  obtain ⟨W1, hW1⟩ : ∃ W1, W1 = Lib.bytesWorld w (ρ.t 5) t := ⟨_, rfl⟩
  rw [← hW1] at hcv hB ⊢
  clear hW1
  obtain ⟨bs, hL⟩ : ∃ bs, bs = t.data.toList := ⟨_, rfl⟩
  have hLn : bs.length = t.size := by rw [hL, Lib.size_eq]
  rw [← hL] at hB ⊢
  clear hL
  have hmv : IntKind.u64.wrap (IntKind.u64.wrap 4294967296 - 1) = 4294967295 := by
    rw [IntKind.wrap_u64, IntKind.wrap_u64]
    decide
  go_enter L.f16, BodyPu.n16_ntmps ρ
  go_wp2
  go_loop [12, 13, 101] (fun vu vn vi => ∃ (k acc : Nat) (a : Int), vu = .bool false ∧ vn = .int .u64 a ∧ vi = .int .i64 k ∧ k ≤ t.size ∧ Hid (a = (acc : Int) ∧ acc ≤ 4294967295 ∧ parse16 0 bs = parse16 acc (bs.drop k)))
    (fun _ _ vi => t.size - (intOf vi).toNat)
  case atStart => exact ⟨0, 0, 0, rfl, rfl, rfl, by omega, rfl, by omega, rfl⟩
  case round =>
    obtain ⟨k, acc, a, rfl, rfl, rfl, hk, hh⟩ := hrel
    obtain ⟨ha, hacc, hdec⟩ := hh.out
    clear hh
    have a0 : 0 ≤ a := by omega
    have a1 : a ≤ 4294967295 := by omega
    by_cases hkn : k < t.size
    · have hc := hB k hkn
      have hdrop : bs.drop k = bs[k]'(by omega) :: bs.drop (k + 1) := List.drop_eq_getElem_cons (by omega)
      have hget : bs.getD k 0 = bs[k]'(by omega) := by simp [List.getD, List.getElem?_eq_getElem (show k < bs.length by omega)]
      rw [hdrop] at hdec
      rw [hget] at hc
      generalize bs[k]'(by omega) = c at hc hdec
      have hc256 : c.toNat < 256 := c.toNat_lt
      clear hB hdrop hget
      by_cases hdig : 48 ≤ c.toNat ∧ c.toNat ≤ 57
      · have hd : dg16 c.toNat = some (c.toNat - 48) := by unfold dg16; rw [if_pos hdig]
        obtain ⟨hd0, hd1⟩ := hdig
        by_cases hov : 4294967295 < acc * 16 + (c.toNat - 48)
        · have hF : parse16 acc (c :: bs.drop (k + 1)) = .range := by simp [parse16, hd, hov]
          rw [hF] at hdec
          have iov : 4294967295 < a * 16 + ((c.toNat : Int) - 48) := by omega
          clear hacc hF hov ha hd
          go_wp2
          go_ret2
          exact ⟨rfl, rfl⟩
        · have hF : parse16 acc (c :: bs.drop (k + 1)) = parse16 (acc * 16 + (c.toNat - 48)) (bs.drop (k + 1)) := by simp [parse16, hd, hov]
          have HN : Hid (a * 16 + ((c.toNat : Int) - 48) = ((acc * 16 + (c.toNat - 48) : Nat) : Int) ∧ acc * 16 + (c.toNat - 48) ≤ 4294967295 ∧ parse16 0 bs = parse16 (acc * 16 + (c.toNat - 48)) (bs.drop (k + 1))) := Lib.hid ⟨by omega, by omega, hdec.trans hF⟩
          have iov : a * 16 + ((c.toNat : Int) - 48) ≤ 4294967295 := by omega
          clear hacc hF hov hdec ha hd
          go_wp2
          refine ⟨⟨k + 1, acc * 16 + (c.toNat - 48), a * 16 + ((c.toNat : Int) - 48), rfl, (by first | rfl | (congr 1; omega)), (by first | rfl | (congr 1; omega)), by omega, HN⟩, by simp [intOf]; omega⟩
      · by_cases hlet : 97 ≤ lowC c.toNat ∧ lowC c.toNat ≤ 102
        · have hd : dg16 c.toNat = some ((lowC c.toNat).toNat - 87) := by unfold dg16; rw [if_neg hdig, if_pos hlet]
          have h95 : ¬ c.toNat = 95 := fun e => by rw [e, lowC95] at hlet; omega
          have hx : lowC c.toNat = bits .or .u8 (c.toNat : Int) 32 := rfl
          rw [hx] at hlet hd
          obtain ⟨x, hX⟩ : ∃ x, x = bits .or .u8 (c.toNat : Int) 32 := ⟨_, rfl⟩
          rw [← hX] at hlet hd
          clear hx
          obtain ⟨hl0, hl1⟩ := hlet
          by_cases hov : 4294967295 < acc * 16 + (x.toNat - 87)
          · have hF : parse16 acc (c :: bs.drop (k + 1)) = .range := by simp [parse16, hd, hov]
            rw [hF] at hdec
            have iov : 4294967295 < a * 16 + (x - 97 + 10) := by omega
            clear hacc hF hov ha hd
            go_wp2_with (go_at_fn (ρ.f 19); refine (AnyPu.internal_strconv_lower { L with } _ _).mono ?_; rintro e w' ⟨rfl, rfl⟩; rw [← hX])
            all_goals go_ret2
            all_goals first | exact ⟨rfl, rfl⟩ | exact ⟨by rw [hdec]; rfl, rfl⟩
          · have hF : parse16 acc (c :: bs.drop (k + 1)) = parse16 (acc * 16 + (x.toNat - 87)) (bs.drop (k + 1)) := by simp [parse16, hd, hov]
            have HN : Hid (a * 16 + (x - 97 + 10) = ((acc * 16 + (x.toNat - 87) : Nat) : Int) ∧ acc * 16 + (x.toNat - 87) ≤ 4294967295 ∧ parse16 0 bs = parse16 (acc * 16 + (x.toNat - 87)) (bs.drop (k + 1))) := Lib.hid ⟨by omega, by omega, hdec.trans hF⟩
            have iov : a * 16 + (x - 97 + 10) ≤ 4294967295 := by omega
            clear hacc hF hov hdec ha hd
            go_wp2_with (go_at_fn (ρ.f 19); refine (AnyPu.internal_strconv_lower { L with } _ _).mono ?_; rintro e w' ⟨rfl, rfl⟩; rw [← hX])
            all_goals refine ⟨⟨k + 1, acc * 16 + (x.toNat - 87), a * 16 + (x - 97 + 10), rfl, (by first | rfl | (congr 1; omega)), (by first | rfl | (congr 1; omega)), by omega, HN⟩, by simp [intOf]; omega⟩
        · have hF : parse16 acc (c :: bs.drop (k + 1)) = .syntax := by
            have hd : dg16 c.toNat = none := by unfold dg16; rw [if_neg hdig, if_neg hlet]
            simp [parse16, hd]
          rw [hF] at hdec
          clear hacc hF ha
          have hx : lowC c.toNat = bits .or .u8 (c.toNat : Int) 32 := rfl
          rw [hx] at hlet
          have hv0 := bits_lo_u8 .or (c.toNat : Int) 32
          have hv1 := bits_hi_u8 .or (c.toNat : Int) 32
          have hu0 := bits_lo_u8 .or 95 32
          have hu1 := bits_hi_u8 .or 95 32
          go_wp2_with (go_at_fn (ρ.f 19); refine (AnyPu.internal_strconv_lower { L with } _ _).mono ?_; rintro e w' ⟨rfl, rfl⟩)
          all_goals go_ret2
          all_goals first | exact ⟨rfl, rfl⟩ | exact ⟨by rw [hdec]; rfl, rfl⟩
    · have hkk : k = t.size := by omega
      subst hkk
      have hF : parse16 acc (bs.drop t.size) = .ok acc := by rw [List.drop_eq_nil_of_le (by omega)]; rfl
      rw [hF] at hdec
      subst ha
      clear hacc hF a0 a1
      go_wp2
      go_ret2
      exact ⟨rfl, rfl⟩
end Go.Proofs.YtmkhoggpejemiaaDoor

namespace Go.Proofs.YtmkhoggpejemiaaDoor
open Go.Shelf Go.RowKit Go.Proofs
variable {P : Program} {ρ : Ren}

def parseU (l : List UInt8) : Lib.NumEnd Nat := if l = [] then .syntax else parse16 0 l

theorem inner16 (L : LaysPu.n16 P ρ) (t : ByteArray) (hmax : t.size ≤ 9223372036854775806) (w : World) :
    Calls P (ρ.f 16) #[.string t, .int .i64 16, .int .i64 32] w fun e w' => e = .returned (Lib.uintTupleM (ρ.t 34) 4294967295 (parseU t.data.toList)) ∧ (w' = w ∨ w' = Lib.bytesWorld w (ρ.t 5) t) := by
  by_cases h0 : t.size = 0
  · have ht : t = ⟨#[]⟩ := by
      apply ByteArray.ext
      exact Array.eq_empty_of_size_eq_zero h0
    subst ht
    exact (AnyPu.internal_strconv_ParseUint_empty { L with } 16 32 w).mono fun e w' ⟨he, hw⟩ => ⟨he, Or.inl hw⟩
  · have hne : t.data.toList ≠ [] := fun h => h0 (by rw [Lib.size_eq, h]; rfl)
    refine (parseUint16 { L with } t h0 hmax w).mono fun e w' ⟨he, hw⟩ => ⟨?_, Or.inr hw⟩
    rw [he, parseU, if_neg hne]

theorem ok_of {n : Nat} : ∀ {l : List UInt8} {acc : Nat}, acc ≤ 4294967295 → parse16 acc l = .ok n → n ≤ 4294967295
  | [], acc, h, e => by cases e; exact h
  | c :: l, acc, h, e => by
    unfold parse16 at e
    split at e
    · cases e
    · split at e
      · cases e
      · rename_i d _ hd
        exact ok_of (by omega) e

set_option maxHeartbeats 4000000 in
set_option maxRecDepth 100000 in
theorem public16 (L : LaysPu.n14 P ρ) (s : ByteArray) (hlim : s.size ≤ 281474976710656) (ev ew : Value) (w : World) (hv : w.cell? ⟨(ρ.g 0), 0, none⟩ = some ev) (hev : ev = .nilIface ∨ ∃ te pe, ev = .iface te pe)
    (hx : w.cell? ⟨(ρ.g 1), 0, none⟩ = some ew) (hew : ew = .nilIface ∨ ∃ te pe, ew = .iface te pe) :
    Calls P (ρ.f 14) #[.string s, .int .i64 16, .int .i64 32] w fun e w' => Below w.heap.size w w' ∧
      ((∃ u : Nat, parseU s.data.toList = .ok u ∧ e = .returned (.tuple #[.int .u64 u, .nilIface])) ∨
       ((∀ u, parseU s.data.toList ≠ .ok u) ∧ ∃ (n : Int) (T : TypeId) (N : Nat), 0 ≤ n ∧ n ≤ 4294967295 ∧ e = .returned (.tuple #[.int .u64 n, .iface T (.pointer (some ⟨N, 0, none⟩))]))) := by
  have mixed := L.mixed
  have t9 := L.t9; have a9 := L.a9; have z9 := L.z9; have v9 := L.v9
  have t3 := L.t3; have a3 := L.a3; have z3 := L.z3; have v3 := L.v3
  have t22 := L.t22; have a22 := L.a22; have z22 := L.z22; have v22 := L.v22
  have t24 := L.t24; have a24 := L.a24; have z24 := L.z24; have v24 := L.v24
  have t25 := L.t25; have a25 := L.a25; have z25 := L.z25; have v25 := L.v25
  have t4 := L.t4; have a4 := L.a4; have z4 := L.z4; have v4 := L.v4
  have e16 : ∀ args w, (callFunc (ρ.f 16) args).run P w = .ok (.enter (ρ.f 16) args) w := enters_of L.f16 (by kernel_rfl) rfl
  have e17 : ∀ args w, (callFunc (ρ.f 17) args).run P w = .ok (.enter (ρ.f 17) args) w := enters_of L.f17 (by kernel_rfl) rfl
  have hG : (ρ.g 0) < w.heap.size := Lib.lt_of_cell hv
  have hG1 : (ρ.g 1) < w.heap.size := Lib.lt_of_cell hx
  have hI := inner16 { L with } s (by omega) w
  cases h : parseU s.data.toList with
  | ok u =>
    rw [h] at hI
    have hI : Calls P (ρ.f 16) #[.string s, .int .i64 16, .int .i64 32] w fun e w' => e = .returned (.tuple #[.int .u64 u, .nilIface]) ∧ (w' = w ∨ w' = Lib.bytesWorld w (ρ.t 5) s) := hI
    clear h
    go_enter L.f14, BodyPu.n14_ntmps ρ
    go_wp2_with (go_at_fn (ρ.f 16); refine hI.mono ?_; rintro e W1 ⟨rfl, hW⟩)
    go_wp2
    go_ret2
    refine ⟨?_, .inl ⟨u, rfl, rfl⟩⟩
    rcases hW with rfl | rfl
    · exact Below.refl _ _
    · exact Lib.bytesWorld_below _ _ _
  | «syntax» =>
    rw [h] at hI
    have hI : Calls P (ρ.f 16) #[.string s, .int .i64 16, .int .i64 32] w fun e w' => e = .returned (.tuple #[.int .u64 0, .iface (ρ.t 34) (.int .i64 2)]) ∧ (w' = w ∨ w' = Lib.bytesWorld w (ρ.t 5) s) := hI
    clear h
    go_enter L.f14, BodyPu.n14_ntmps ρ
    go_wp2_with (go_at_fn (ρ.f 16); refine hI.mono ?_)
    rintro e W1 ⟨rfl, hW⟩
    have hb1 : Below w.heap.size w W1 := by
      rcases hW with rfl | rfl
      · exact Below.refl _ _
      · exact Lib.bytesWorld_below _ _ _
    have hv1 : W1.cell? ⟨(ρ.g 0), 0, none⟩ = some ev := (hb1.cell (show (⟨(ρ.g 0), 0, none⟩ : Addr).block < w.heap.size from hG)).trans hv
    clear hW
    go_wp2_with (go_at_fn (ρ.f 17); refine (AnyPu.strconv_toError_syntax { L with } ⟨#[80, 97, 114, 115, 101, 85, 105, 110, 116]⟩ s 16 32 ev _ hlim ?_ hev).mono ?_)
    · exact hv1
    rintro e W2 ⟨N, rfl, h1, h2, h3⟩
    go_wp2
    go_ret2
    exact ⟨hb1.trans (h3.mono hb1.size), .inr ⟨(fun u h => nomatch h), 0, _, N, by omega, by omega, rfl⟩⟩
  | range =>
    rw [h] at hI
    have hI : Calls P (ρ.f 16) #[.string s, .int .i64 16, .int .i64 32] w fun e w' => e = .returned (.tuple #[.int .u64 4294967295, .iface (ρ.t 34) (.int .i64 1)]) ∧ (w' = w ∨ w' = Lib.bytesWorld w (ρ.t 5) s) := hI
    clear h
    go_enter L.f14, BodyPu.n14_ntmps ρ
    go_wp2_with (go_at_fn (ρ.f 16); refine hI.mono ?_)
    rintro e W1 ⟨rfl, hW⟩
    have hb1 : Below w.heap.size w W1 := by
      rcases hW with rfl | rfl
      · exact Below.refl _ _
      · exact Lib.bytesWorld_below _ _ _
    have hv1 : W1.cell? ⟨(ρ.g 1), 0, none⟩ = some ew := (hb1.cell (show (⟨(ρ.g 1), 0, none⟩ : Addr).block < w.heap.size from hG1)).trans hx
    clear hW
    go_wp2_with (go_at_fn (ρ.f 17); refine (AnyPu.strconv_toError_range { L with } ⟨#[80, 97, 114, 115, 101, 85, 105, 110, 116]⟩ s 16 32 ew _ hlim ?_ hew).mono ?_)
    · exact hv1
    rintro e W2 ⟨N, rfl, h1, h2, h3⟩
    go_wp2
    go_ret2
    exact ⟨hb1.trans (h3.mono hb1.size), .inr ⟨(fun u h => nomatch h), 4294967295, _, N, by omega, by omega, rfl⟩⟩
end Go.Proofs.YtmkhoggpejemiaaDoor

namespace Go.Proofs.YtmkhoggpejemiaaDoor
open Go.Shelf Go.Proofs Go.Sx

theorem dgE_dig : ∀ d, d < 16 → dg16 (if d < 10 then 48 + d else 87 + d) = some d := by decide

/-- The byte of a digit. -/
def digB (d : Nat) : Nat := if d < 10 then 48 + d else 87 + d

theorem dgE_eq (d : Nat) : dgE d = [((digB d : Nat) : Int)] := by
  unfold dgE digB
  split <;> rfl

theorem parse16_cons {acc d : Nat} {c : UInt8} {l : List UInt8} (hd : d < 16) (hc : c.toNat = digB d) (h : acc * 16 + d ≤ 4294967295) : parse16 acc (c :: l) = parse16 (acc * 16 + d) l := by
  have e : dg16 c.toNat = some d := by rw [hc]; exact dgE_dig d hd
  simp only [parse16, e]
  rw [if_neg (by omega)]

theorem parse_hex {l : List UInt8} {b : Nat} (hb : b < 4294967296) (h : bytesL l = hexL b) : parseU l = .ok b := by
  unfold hexL at h
  simp only [dgE_eq] at h
  match l, h with
  | [c0, c1, c2, c3, c4, c5, c6, c7], h =>
    simp only [bytesL, List.map_cons, List.map_nil, List.cons.injEq, and_true, Int.ofNat_inj] at h
    obtain ⟨h0, h1, h2, h3, h4, h5, h6, h7⟩ := h
    unfold parseU
    rw [if_neg (by simp)]
    rw [parse16_cons (by omega) h0 (by omega), parse16_cons (by omega) h1 (by omega), parse16_cons (by omega) h2 (by omega), parse16_cons (by omega) h3 (by omega),
      parse16_cons (by omega) h4 (by omega), parse16_cons (by omega) h5 (by omega), parse16_cons (by omega) h6 (by omega), parse16_cons (by omega) h7 (by omega)]
    unfold parse16
    congr 1
    omega
  | [], h => cases h
  | [_], h => simp [bytesL] at h
  | [_, _], h => simp [bytesL] at h
  | [_, _, _], h => simp [bytesL] at h
  | [_, _, _, _], h => simp [bytesL] at h
  | [_, _, _, _, _], h => simp [bytesL] at h
  | [_, _, _, _, _, _], h => simp [bytesL] at h
  | [_, _, _, _, _, _, _], h => simp [bytesL] at h
  | _ :: _ :: _ :: _ :: _ :: _ :: _ :: _ :: _ :: _, h => simp [bytesL] at h

/-- What is read is what was told. -/
theorem read_ok {l : List UInt8} {u : Nat} (hu : u < 4294967296) (hp : parseU l = .ok u) : (bytesL l = hexL (canon .f32 u) ↔ OkN (bytesL l)) ∧ (OkN (bytesL l) → canon .f32 u = u ∧ bytesL l = hexL u) := by
  have back : OkN (bytesL l) → canon .f32 u = u ∧ bytesL l = hexL u := by
    rintro ⟨b, hb, hc, e⟩
    have h2 := parse_hex hb e
    rw [hp] at h2
    cases h2
    exact ⟨hc, e⟩
  refine ⟨⟨fun h => ⟨canon .f32 u, canon_lt hu, canon_canon _ _, h⟩, fun h => ?_⟩, back⟩
  obtain ⟨h1, h2⟩ := back h
  rw [h1]; exact h2

theorem read_none {l : List UInt8} (hp : ∀ u, parseU l ≠ .ok u) : ¬ OkN (bytesL l) := by
  rintro ⟨b, hb, _, e⟩
  exact hp b (parse_hex hb e)

theorem numOf_hex {b : Nat} (hb : b < 4294967296) (hc : canon .f32 b = b) : numOf (hexL b) = b := by
  have h : OkN (hexL b) := ⟨b, hb, hc, rfl⟩
  unfold numOf
  rw [dif_pos h]
  obtain ⟨h1, h2, h3⟩ := Classical.choose_spec h
  exact hexL_inj h1 hb h3.symm
end Go.Proofs.YtmkhoggpejemiaaDoor

namespace Go.Proofs.YtmkhoggpejemiaaDoor
open Go.Shelf Go.Proofs Go.Sx Go.RowKit

/-- What a function that reads a number hands back. -/
noncomputable def readN (l : List (List Int)) : Nat := if okB l then numOf l else 0

set_option maxHeartbeats 4000000 in
set_option maxRecDepth 100000 in
theorem readNumber (s : ByteArray) (w : World)
    (hp : Calls Tryd.prog 55 #[.string s, .int .i64 16, .int .i64 32] w fun e w' => Below w.heap.size w w' ∧
      ((∃ u : Nat, parseU s.data.toList = .ok u ∧ e = .returned (.tuple #[.int .u64 u, .nilIface])) ∨
       ((∀ u, parseU s.data.toList ≠ .ok u) ∧ ∃ (n : Int) (T : TypeId) (N : Nat), 0 ≤ n ∧ n ≤ 4294967295 ∧ e = .returned (.tuple #[.int .u64 n, .iface T (.pointer (some ⟨N, 0, none⟩))]))))
    (hnum : ∀ (b : Nat) (w' : World), b < 4294967296 → Below w.heap.size w w' → Calls Tryd.prog 37 #[.float .f32 b] w' fun e w2 => ∃ t, e = .returned (.string t) ∧ bytesE t = hexL (canon .f32 b) ∧ Below w'.heap.size w' w2) :
    Calls Tryd.prog 43 #[.string s] w fun e w' => Below w.heap.size w w' ∧
      ((OkN (bytesE s) ∧ ∃ b : Nat, bytesE s = hexL b ∧ b < 4294967296 ∧ canon .f32 b = b ∧ e = .returned (.tuple #[.float .f32 b, .int .i64 0])) ∨ (¬ OkN (bytesE s) ∧ e = .returned (.tuple #[.float .f32 0, .int .i64 5]))) := by
  have e55 : ∀ args w, (callFunc 55 args).run Tryd.prog w = .ok (.enter 55 args) w := enters_of Tryd.func55 (by kernel_rfl) rfl
  have e37 : ∀ args w, (callFunc 37 args).run Tryd.prog w = .ok (.enter 37 args) w := enters_of Tryd.func37 (by kernel_rfl) rfl
  have e54 : ∀ (n : Int) w, (callFunc 54 #[.int .u32 n]).run Tryd.prog w = .ok (.value (.float .f32 n.toNat)) w := by
    intro n w
    rw [run_callFunc_extern Tryd.func54 (by kernel_rfl) (by kernel_rfl) (by kernel_rfl) (e := Extern.MathFloatBits.float32frombits) (by kernel_rfl), fromBits32_at]
    rfl
  go_enter Tryd.func43, Tryd.ntmps43
  go_wp2_with (go_at_fn 55; refine hp.mono ?_)
  rintro e W1 ⟨hb1, ⟨u, hu, rfl⟩ | ⟨hno, n, T, N, h0, h1, rfl⟩⟩
  · have hu32 : u ≤ 4294967295 := by
      unfold parseU at hu
      split at hu
      · cases hu
      · exact ok_of (by omega) hu
    go_wp2_with (go_at_fn 37; refine (hnum u _ (by omega) hb1).mono ?_)
    rintro e W2 ⟨t, rfl, ht, hb2⟩
    obtain ⟨h1, h2⟩ := read_ok (l := s.data.toList) (by omega) hu
    by_cases hts : t.toList = s.toList
    · have hb : (t.toList == s.toList) = true := by simp [hts]
      have hst : bytesE s = hexL (canon .f32 u) := by
        rw [← ht]
        unfold bytesE
        rw [← toList_data, ← toList_data, hts]
      obtain ⟨h3, h4⟩ := h2 (h1.1 hst)
      have hok := h1.1 hst
      go_wp2
      go_ret2
      exact ⟨hb1.trans (hb2.mono hb1.size), .inl ⟨hok, u, h4, by omega, h3, rfl⟩⟩
    · have hb : (t.toList == s.toList) = false := by simp [hts]
      have hnok : ¬ OkN (bytesE s) := fun h => hts (by
        have := h1.2 h
        rw [toList_data, toList_data]
        have e : bytesE t = bytesE s := ht.trans this.symm
        rw [bytesE_inj e])
      go_wp2
      go_ret2
      exact ⟨hb1.trans (hb2.mono hb1.size), .inr ⟨hnok, rfl⟩⟩
  · have hnok := read_none hno
    go_wp2
    go_ret2
    exact ⟨hb1, .inr ⟨hnok, rfl⟩⟩
end Go.Proofs.YtmkhoggpejemiaaDoor

namespace Go.Proofs.YtmkhoggpejemiaaDoor
open Go.Shelf Go.Proofs Go.Sx Go.RowKit

def rdig (c : Nat) : Option Nat := if 48 ≤ c ∧ c ≤ 57 then some (c - 48) else if 97 ≤ c ∧ c ≤ 102 then some (c - 87) else none
def rdA : Nat → List UInt8 → Option Nat
  | acc, [] => some acc
  | acc, c :: l =>
    match rdig c.toNat with
    | none => none
    | some d => rdA (acc * 16 + d) l

theorem rdig_inv {c d : Nat} (h : rdig c = some d) : d < 16 ∧ c = digB d := by
  unfold rdig at h
  unfold digB
  split at h
  · cases h
    refine ⟨by omega, ?_⟩
    rw [if_pos (by omega)]; omega
  · split at h
    · cases h
      refine ⟨by omega, ?_⟩
      rw [if_neg (by omega)]; omega
    · cases h

theorem rdig_dig : ∀ d, d < 16 → rdig (digB d) = some d := by decide

theorem rdA_cons {acc v : Nat} {c : UInt8} {l : List UInt8} (h : rdA acc (c :: l) = some v) : ∃ d, d < 16 ∧ c.toNat = digB d ∧ rdA (acc * 16 + d) l = some v := by
  unfold rdA at h
  split at h
  · cases h
  · rename_i d hd
    obtain ⟨h1, h2⟩ := rdig_inv hd
    exact ⟨d, h1, h2, h⟩

theorem rdA_put {acc d : Nat} {c : UInt8} {l : List UInt8} (hd : d < 16) (hc : c.toNat = digB d) : rdA acc (c :: l) = rdA (acc * 16 + d) l := by
  have e : rdig c.toNat = some d := by rw [hc]; exact rdig_dig d hd
  simp only [rdA, e]

/-- Eight bytes that are read. -/
theorem rdA_hex {l : List UInt8} (hl : l.length = 8) {v : Nat} (h : rdA 0 l = some v) : v < 4294967296 ∧ bytesL l = hexL v := by
  match l, hl with
  | [c0, c1, c2, c3, c4, c5, c6, c7], _ =>
    obtain ⟨d0, h0, e0, h⟩ := rdA_cons h
    obtain ⟨d1, h1, e1, h⟩ := rdA_cons h
    obtain ⟨d2, h2, e2, h⟩ := rdA_cons h
    obtain ⟨d3, h3, e3, h⟩ := rdA_cons h
    obtain ⟨d4, h4, e4, h⟩ := rdA_cons h
    obtain ⟨d5, h5, e5, h⟩ := rdA_cons h
    obtain ⟨d6, h6, e6, h⟩ := rdA_cons h
    obtain ⟨d7, h7, e7, h⟩ := rdA_cons h
    unfold rdA at h
    cases h
    refine ⟨by omega, ?_⟩
    unfold hexL
    simp only [dgE_eq, bytesL, List.map_cons, List.map_nil, e0, e1, e2, e3, e4, e5, e6, e7]
    have f0 : (((((((((0 * 16 + d0) * 16 + d1) * 16 + d2) * 16 + d3) * 16 + d4) * 16 + d5) * 16 + d6) * 16 + d7) / 268435456 % 16) = d0 := by omega
    have f1 : (((((((((0 * 16 + d0) * 16 + d1) * 16 + d2) * 16 + d3) * 16 + d4) * 16 + d5) * 16 + d6) * 16 + d7) / 16777216 % 16) = d1 := by omega
    have f2 : (((((((((0 * 16 + d0) * 16 + d1) * 16 + d2) * 16 + d3) * 16 + d4) * 16 + d5) * 16 + d6) * 16 + d7) / 1048576 % 16) = d2 := by omega
    have f3 : (((((((((0 * 16 + d0) * 16 + d1) * 16 + d2) * 16 + d3) * 16 + d4) * 16 + d5) * 16 + d6) * 16 + d7) / 65536 % 16) = d3 := by omega
    have f4 : (((((((((0 * 16 + d0) * 16 + d1) * 16 + d2) * 16 + d3) * 16 + d4) * 16 + d5) * 16 + d6) * 16 + d7) / 4096 % 16) = d4 := by omega
    have f5 : (((((((((0 * 16 + d0) * 16 + d1) * 16 + d2) * 16 + d3) * 16 + d4) * 16 + d5) * 16 + d6) * 16 + d7) / 256 % 16) = d5 := by omega
    have f6 : (((((((((0 * 16 + d0) * 16 + d1) * 16 + d2) * 16 + d3) * 16 + d4) * 16 + d5) * 16 + d6) * 16 + d7) / 16 % 16) = d6 := by omega
    have f7 : (((((((((0 * 16 + d0) * 16 + d1) * 16 + d2) * 16 + d3) * 16 + d4) * 16 + d5) * 16 + d6) * 16 + d7) % 16) = d7 := by omega
    rw [f0, f1, f2, f3, f4, f5, f6, f7]

theorem hex_rdA {l : List UInt8} {b : Nat} (hb : b < 4294967296) (h : bytesL l = hexL b) : rdA 0 l = some b := by
  unfold hexL at h
  simp only [dgE_eq] at h
  match l, h with
  | [c0, c1, c2, c3, c4, c5, c6, c7], h =>
    simp only [bytesL, List.map_cons, List.map_nil, List.cons.injEq, and_true, Int.ofNat_inj] at h
    obtain ⟨h0, h1, h2, h3, h4, h5, h6, h7⟩ := h
    rw [rdA_put (by omega) h0, rdA_put (by omega) h1, rdA_put (by omega) h2, rdA_put (by omega) h3, rdA_put (by omega) h4, rdA_put (by omega) h5, rdA_put (by omega) h6, rdA_put (by omega) h7]
    unfold rdA
    congr 1
    omega
  | [], h => cases h
  | [_], h => simp [bytesL] at h
  | [_, _], h => simp [bytesL] at h
  | [_, _, _], h => simp [bytesL] at h
  | [_, _, _, _], h => simp [bytesL] at h
  | [_, _, _, _, _], h => simp [bytesL] at h
  | [_, _, _, _, _, _], h => simp [bytesL] at h
  | [_, _, _, _, _, _, _], h => simp [bytesL] at h
  | _ :: _ :: _ :: _ :: _ :: _ :: _ :: _ :: _ :: _, h => simp [bytesL] at h

theorem okN_len {s : ByteArray} (h : OkN (bytesE s)) : s.size = 8 := by
  obtain ⟨b, _, _, e⟩ := h
  have := congrArg List.length e
  rw [bytesE_len] at this
  exact this

set_option maxHeartbeats 4000000 in
set_option maxRecDepth 100000 in
theorem l01Read (s : ByteArray) (hmax : s.size ≤ 1099511627776) (w : World)
    (hbits : ∀ (b : Nat) (w' : World), Calls Tryd.prog 46 #[.float .f32 b] w' fun e w2 => e = .returned (.int .u32 (canon .f32 b : Nat)) ∧ Below w'.heap.size w' w2) :
    Calls Tryd.prog 42 #[.string s] w fun e w' => Below w.heap.size w w' ∧
      ((OkN (bytesE s) ∧ ∃ b : Nat, bytesE s = hexL b ∧ b < 4294967296 ∧ canon .f32 b = b ∧ e = .returned (.tuple #[.float .f32 b, .bool true])) ∨ (¬ OkN (bytesE s) ∧ ∃ b : Nat, e = .returned (.tuple #[.float .f32 b, .bool false]))) := by
  have e46 : ∀ args w, (callFunc 46 args).run Tryd.prog w = .ok (.enter 46 args) w := enters_of Tryd.func46 (by kernel_rfl) rfl
  have e54 : ∀ (n : Int) w, (callFunc 54 #[.int .u32 n]).run Tryd.prog w = .ok (.value (.float .f32 n.toNat)) w := by
    intro n w
    rw [run_callFunc_extern Tryd.func54 (by kernel_rfl) (by kernel_rfl) (by kernel_rfl) (e := Extern.MathFloatBits.float32frombits) (by kernel_rfl), fromBits32_at]
    rfl
  by_cases hsz : s.size = 8
  · obtain ⟨bs, hL⟩ : ∃ bs, bs = s.data.toList := ⟨_, rfl⟩
    have hLn : bs.length = 8 := by rw [hL, ← hsz, Lib.size_eq]
    have hE : bytesE s = bytesL bs := by rw [hL]; rfl
    rw [hE]
    have hidx : ∀ (k : Nat) (hk : k < 8) (w : World), (Instr.index 9 (.string s) (.int .i64 (k : Int))).run Tryd.prog w = .ok (.int .u8 (((bs[k]'(by omega)).toNat : Nat) : Int)) w := by
      intro k hk w
      obtain ⟨c, h1, h2, _⟩ := bytes_get s k (by omega)
      have h3 : bs[k]'(by omega) = c := by
        rw [← hL] at h2
        rw [List.getElem?_eq_getElem (show k < bs.length by omega)] at h2
        exact Option.some.inj h2
      rw [h3]
      simp [Instr.index, asIntOf, run_underlying Tryd.underlying9, h1]
    clear hL hE
    go_enter Tryd.func42, Tryd.ntmps42
    go_wp2
    go_loop [4, 5] (fun vn vi => ∃ (k acc : Nat) (a : Int), vn = .int .u32 a ∧ vi = .int .i64 k ∧ k ≤ 8 ∧ Hid (a = (acc : Int) ∧ acc < 16 ^ k ∧ rdA 0 bs = rdA acc (bs.drop k)))
      (fun _ vi => 8 - (intOf vi).toNat)
    case atStart => exact ⟨0, 0, 0, rfl, rfl, by omega, rfl, by omega, rfl⟩
    case round =>
      obtain ⟨k, acc, a, rfl, rfl, hk, hh⟩ := hrel
      obtain ⟨ha, hacc, hdec⟩ := hh.out
      clear hh
      by_cases hk8 : k < 8
      · have hx := hidx k hk8
        have hdrop : bs.drop k = bs[k]'(by omega) :: bs.drop (k + 1) := List.drop_eq_getElem_cons (by omega)
        rw [hdrop] at hdec
        generalize bs[k]'(by omega) = c at hx hdec
        have hc256 : c.toNat < 256 := c.toNat_lt
        clear hdrop hidx
        have hp7 : 16 ^ k ≤ 16 ^ 7 := Nat.pow_le_pow_right (by omega) (by omega)
        have hpk : 16 ^ (k + 1) = 16 ^ k * 16 := Nat.pow_succ 16 k
        have a0 : 0 ≤ a := by omega
        have a1 : a ≤ 268435455 := by omega
        by_cases hd1 : 48 ≤ c.toNat ∧ c.toNat ≤ 57
        · have hd : rdig c.toNat = some (c.toNat - 48) := by unfold rdig; rw [if_pos hd1]
          obtain ⟨hl, hh⟩ := hd1
          have HN : Hid (a * 16 + ((c.toNat : Int) - 48) = ((acc * 16 + (c.toNat - 48) : Nat) : Int) ∧ acc * 16 + (c.toNat - 48) < 16 ^ (k + 1) ∧ rdA 0 bs = rdA (acc * 16 + (c.toNat - 48)) (bs.drop (k + 1))) := Lib.hid ⟨by omega, by omega, hdec.trans (by simp only [rdA, hd])⟩
          clear hacc hdec ha hd hp7 hpk
          go_wp2
          refine ⟨⟨k + 1, acc * 16 + (c.toNat - 48), a * 16 + ((c.toNat : Int) - 48), (by first | rfl | (congr 1; omega)), (by first | rfl | (congr 1; omega)), by omega, HN⟩, by simp [intOf]; omega⟩
        · by_cases hd2 : 97 ≤ c.toNat ∧ c.toNat ≤ 102
          · have hd : rdig c.toNat = some (c.toNat - 87) := by unfold rdig; rw [if_neg hd1, if_pos hd2]
            obtain ⟨hl, hh⟩ := hd2
            have HN : Hid (a * 16 + ((c.toNat : Int) - 97) + 10 = ((acc * 16 + (c.toNat - 87) : Nat) : Int) ∧ acc * 16 + (c.toNat - 87) < 16 ^ (k + 1) ∧ rdA 0 bs = rdA (acc * 16 + (c.toNat - 87)) (bs.drop (k + 1))) := Lib.hid ⟨by omega, by omega, hdec.trans (by simp only [rdA, hd])⟩
            clear hacc hdec ha hd hp7 hpk
            go_wp2
            refine ⟨⟨k + 1, acc * 16 + (c.toNat - 87), a * 16 + ((c.toNat : Int) - 97) + 10, (by first | rfl | (congr 1; omega)), (by first | rfl | (congr 1; omega)), by omega, HN⟩, by simp [intOf]; omega⟩
          · have hd : rdig c.toNat = none := by unfold rdig; rw [if_neg hd1, if_neg hd2]
            have hnok : ¬ OkN (bytesL bs) := by
              rintro ⟨b, hb, _, e⟩
              have := hex_rdA hb e
              rw [hdec] at this
              simp [rdA, hd] at this
            have HK : Hid (¬ OkN (bytesL bs)) := Lib.hid hnok
            clear hacc hdec ha hd hp7 hpk hnok
            go_wp2
            all_goals go_ret2
            all_goals exact ⟨Below.refl _ _, .inr ⟨HK.out, 0, rfl⟩⟩
      · have hk2 : k = 8 := by omega
        subst hk2
        have hv : rdA 0 bs = some acc := by rw [hdec, List.drop_eq_nil_of_le (by omega)]; rfl
        obtain ⟨hb, hx⟩ := rdA_hex hLn hv
        subst ha
        clear hacc hdec hidx
        by_cases hc : canon .f32 acc = acc
        · have hq : (((canon .f32 acc : Nat) : Int) == ((acc : Nat) : Int)) = true := by rw [hc]; simp
          have HK : Hid (OkN (bytesL bs) ∧ ∃ b : Nat, bytesL bs = hexL b ∧ b < 4294967296 ∧ canon .f32 b = b ∧ b = acc) := Lib.hid ⟨⟨acc, hb, hc, hx⟩, acc, hx, hb, hc, rfl⟩
          clear hx hc hb hv
          go_wp2_with (go_at_fn 46; refine (hbits _ _).mono ?_; rintro e W1 ⟨rfl, hb1⟩)
          go_ret2
          obtain ⟨h1, b, h2, h3, h4, h5⟩ := HK.out
          subst h5
          exact ⟨hb1, .inl ⟨h1, b, h2, h3, h4, rfl⟩⟩
        · have hq : (((canon .f32 acc : Nat) : Int) == ((acc : Nat) : Int)) = false := by
            rw [beq_eq_false_iff_ne]
            intro e
            exact hc (Int.ofNat_inj.1 e)
          have hnok : ¬ OkN (bytesL bs) := by
            rintro ⟨b, hb', hcb, e⟩
            have := hexL_inj hb' hb (e.symm.trans hx)
            subst this
            exact hc hcb
          have HK : Hid (¬ OkN (bytesL bs)) := Lib.hid hnok
          clear hnok hx hc hb hv
          go_wp2_with (go_at_fn 46; refine (hbits _ _).mono ?_; rintro e W1 ⟨rfl, hb1⟩)
          go_ret2
          exact ⟨hb1, .inr ⟨HK.out, acc, rfl⟩⟩
  · have hnok : ¬ OkN (bytesE s) := fun h => hsz (okN_len h)
    go_enter Tryd.func42, Tryd.ntmps42
    go_wp2
    go_ret2
    exact ⟨Below.refl _ _, .inr ⟨hnok, 0, rfl⟩⟩
end Go.Proofs.YtmkhoggpejemiaaDoor

namespace Go.Proofs.YtmkhoggpejemiaaDoor
open Go.Shelf Go.Proofs Go.Sx Go.RowKit
set_option maxRecDepth 100000 in
theorem l01Bits (b : Nat) (w : World) : Calls Tryd.prog 46 #[.float .f32 b] w fun e w2 => e = .returned (.int .u32 (canon .f32 b : Nat)) ∧ Below w.heap.size w w2 := by
  have e49 : ∀ (n : Nat) w, (callFunc 49 #[.float .f32 n]).run Tryd.prog w = .ok (.value (.int .u32 (n : Nat))) w := by
    intro n w
    rw [run_callFunc_extern Tryd.func49 (by kernel_rfl) (by kernel_rfl) (by kernel_rfl) (e := Extern.MathFloatBits.float32bits) (by kernel_rfl), bits32_at]
    rfl
  go_enter Tryd.func46, Tryd.ntmps46
  have hself : (FloatKind.f32.format.order b b == some Ordering.eq) = !(isN .f32 b) := by
    have e : fcmp .eql .f32 b b = (FloatKind.f32.format.order b b == some Ordering.eq) := rfl
    rw [← e]
    cases hn : isN .f32 b with
    | false => exact (eql_iff _ _ _).2 ⟨hn, hn, rfl⟩
    | true =>
      cases h : fcmp .eql .f32 b b with
      | false => rfl
      | true => rw [((eql_iff _ _ _).1 h).1] at hn; cases hn
  go_wp2
  · rename_i h
    have hn : isN .f32 b = true := by
      have h2 : (FloatKind.f32.format.order b b == some Ordering.eq) = false := by simpa [bne] using h
      rw [hself] at h2
      simpa using h2
    rw [canon_nan hn]
    go_ret
    exact ⟨rfl, Below.refl _ _⟩
  · rename_i h
    have hn : isN .f32 b = false := by
      have h2 : (FloatKind.f32.format.order b b == some Ordering.eq) = true := by simpa [bne] using h
      rw [hself] at h2
      simpa using h2
    have hc : canon .f32 b = b := by unfold canon; rw [if_neg (by rw [hn]; exact Bool.false_ne_true)]
    rw [hc]
    go_ret
    exact ⟨rfl, Below.refl _ _⟩
end Go.Proofs.YtmkhoggpejemiaaDoor

namespace Go.Proofs.YtmkhoggpejemiaaDoor
open Go.Shelf Go.Proofs Go.Sx Go.RowKit

theorem info22 : (Tryd.prog.info? 22).map (fun i => (i.zero, i.size, i.bytes)) = some (some (.float .f32 0), 1, 4) := by kernel_rfl

theorem ownsBelow {w w' : World} {base : Nat} {e : TypeId} {size : Nat} {v : Value} {n : Nat} {xs : List Value} (h : w.ownsRow base e size v n xs) (hb : Below w.heap.size w w') : w'.ownsRow base e size v n xs := by
  obtain ⟨h1, h2⟩ := h
  refine ⟨h1, ?_⟩
  rcases h2 with h2 | ⟨g, cap, cur, hv, hg, hh, h3⟩
  · exact .inl h2
  · exact .inr ⟨g, cap, cur, hv, hg, by rw [hb.block g (Array.getElem?_eq_some_iff.1 hh).1]; exact hh, h3⟩


set_option maxHeartbeats 8000000 in
set_option maxRecDepth 100000 in
theorem l01Numbers (b c : Nat) (ws : List ByteArray) (w : World) (hcells : ∀ (j : Nat) x, ws[j]? = some x → w.cell? ⟨b, j, none⟩ = some (.string x)) (hb : b < w.heap.size) (hn : ws.length ≤ 1099511627776) (hc : ws.length ≤ c)
    (hread : ∀ (s : ByteArray) (w' : World), s ∈ ws → Calls Tryd.prog 42 #[.string s] w' fun e w2 => Below w'.heap.size w' w2 ∧
      ((OkN (bytesE s) ∧ ∃ b : Nat, bytesE s = hexL b ∧ b < 4294967296 ∧ canon .f32 b = b ∧ e = .returned (.tuple #[.float .f32 b, .bool true])) ∨ (¬ OkN (bytesE s) ∧ ∃ b : Nat, e = .returned (.tuple #[.float .f32 b, .bool false])))) :
    Calls Tryd.prog 27 #[.slice (some ⟨b, 0, none⟩) ws.length c] w fun e w' => Below w.heap.size w w' ∧
      (((∀ s ∈ ws, OkN (bytesE s)) ∧ ∃ v, e = .returned (.tuple #[v, .bool true]) ∧ w'.ownsRow w.heap.size 22 1 v ws.length (ws.map numV) ∧ v ≠ .slice none 0 0) ∨
       ((¬ ∀ s ∈ ws, OkN (bytesE s)) ∧ ∃ v, e = .returned (.tuple #[v, .bool false]) ∧ w'.ownsRow w.heap.size 22 1 v 0 [] ∧ v ≠ .slice none 0 0)) := by
  obtain ⟨i0, hi, hz0, hz1, hz2⟩ := info_parts info22
  have e42 : ∀ args w, (callFunc 42 args).run Tryd.prog w = .ok (.enter 42 args) w := enters_of Tryd.func42 (by kernel_rfl) rfl
  go_enter Tryd.func27, Tryd.ntmps27
  go_wp2
  go_loopw [4, 5] (fun v i wr => ∃ (k : Nat) (ao : Option Addr) (cv : Nat), k ≤ ws.length ∧ i = .int .i64 k ∧ v = .slice ao k cv ∧ wr.ownsRow w.heap.size 22 1 v k ((ws.take k).map numV) ∧ Below w.heap.size w wr ∧ Hid ((∀ s ∈ ws.take k, OkN (bytesE s)) ∧ v ≠ .slice none 0 0))
    (fun _ i _ => ws.length - (intOf i).toNat)
  case atStart => exact ⟨0, some ⟨w.heap.size, 0, none⟩, 0, Nat.zero_le _, rfl, rfl, World.ownsRow_lit w #[] 0 (Nat.le_refl _) (Nat.zero_le _) rfl, (Below.refl _ _).alloc (Nat.le_refl _) _, Lib.hid ⟨(fun s hs => nomatch hs), by intro e; cases e⟩⟩
  case round =>
    obtain ⟨k, ao, cv, hk, rfl, rfl, hown, hbw, hid⟩ := hrel
    have hsize := hbw.size
    by_cases hkn : k < ws.length
    · obtain ⟨s, hs⟩ : ∃ s, ws[k]? = some s := ⟨_, List.getElem?_eq_getElem hkn⟩
      have hcell : wr.cell? ⟨b, k, none⟩ = some (.string s) := (hbw.cell (p := ⟨b, k, none⟩) hb).trans (hcells k s hs)
      have hmem : s ∈ ws := List.mem_of_getElem? hs
      have hcall := hread s wr hmem
      have htake : ws.take (k + 1) = ws.take k ++ [s] := by rw [List.take_add_one, hs]; rfl
      have hkc : k < c := by omega
      have hk63 : (k : Int) < 9223372036854775807 := by omega
      by_cases hok : OkN (bytesE s)
      · have hcall : Calls Tryd.prog 42 #[.string s] wr fun e w2 => e = .returned (.tuple #[.float .f32 (numOf (bytesE s)), .bool true]) ∧ Below wr.heap.size wr w2 := by
          refine hcall.mono ?_
          rintro e w2 ⟨hb2, ⟨_, x, hx1, hx2, hx3, rfl⟩ | ⟨hno, _⟩⟩
          · refine ⟨?_, hb2⟩
            rw [hx1, numOf_hex hx2 hx3]
          · exact absurd hok hno
        have HID : Hid ((∀ t ∈ ws.take (k + 1), OkN (bytesE t)) ∧ (ws.take (k + 1)).map numV = (ws.take k).map numV ++ [.float .f32 (numOf (bytesE s))]) := Lib.hid ⟨by
          intro t ht
          rw [htake] at ht
          rcases List.mem_append.1 ht with ht | ht
          · exact hid.out.1 t ht
          · rw [List.mem_singleton] at ht; subst ht; exact hok, by rw [htake, List.map_append]; rfl⟩
        generalize numOf (bytesE s) = x at hcall HID
        clear hok hread hs hcells htake hid
        go_wp2_with (first
          | (go_at_fn 42; refine hcall.mono ?_; rintro e W1 ⟨rfl, hb1⟩; have hown1 := ownsBelow hown hb1; have hbw1 := hbw.trans (hb1.mono hbw.size); have hs1 := hb1.size)
          | (at_builtin; refine wpList_append_own _ rfl _ _ 47 rfl w.heap.size 22 i0 (.float .f32 0) 1 4 Tryd.underlying47 hi hz0 hz1 hz2 rfl (by decide) _ _ _ rfl (hown1.alloc _) ⟨W1.heap.size, 0, none⟩ 1 1 [.float .f32 x] rfl rfl (cell_one_new _ _ _) (fun x hx => by simp at hx; subst hx; rfl) (by unfold maxLen; omega) (by omega) (by simp; omega) ?_; intro v' w3 hown' hgrow3 hnil3))
        go_roundw
        case rel =>
          obtain ⟨g3, cap3, hv3⟩ : ∃ g3 cap3, v' = .slice (some ⟨g3, 0, none⟩) (k + 1) cap3 := by
            rcases hown'.2 with ⟨_, h⟩ | ⟨g3, cap3, _, h, _⟩
            · omega
            · exact ⟨g3, cap3, h⟩
          refine ⟨k + 1, some ⟨g3, 0, none⟩, cap3, by omega, by first | rfl | simp, hv3, ?_, ?_, ?_⟩
          · rw [HID.out.2]; exact hown'
          · exact (hbw1.alloc hbw1.size _).grown hgrow3 (by have := hbw1.size; simp; omega) (fun q hq => (hown1.lt q hq).1)
          · exact Lib.hid ⟨HID.out.1, by rw [hv3]; intro e; cases e⟩
        case measure => simp [intOf]; omega
      · have hcall : Calls Tryd.prog 42 #[.string s] wr fun e w2 => (∃ x : Nat, e = .returned (.tuple #[.float .f32 x, .bool false])) ∧ Below wr.heap.size wr w2 := by
          refine hcall.mono ?_
          rintro e w2 ⟨hb2, ⟨hok', _⟩ | ⟨hno, h⟩⟩
          · exact absurd hok' hok
          · exact ⟨h, hb2⟩
        have HK : Hid (¬ ∀ s ∈ ws, OkN (bytesE s)) := Lib.hid fun h => hok (h s hmem)
        clear hok hread hs hcells htake hid
        go_wp2_with (go_at_fn 42; refine hcall.mono ?_; rintro e W1 ⟨⟨x, rfl⟩, hb1⟩)
        go_ret2
        have hbw1 := hbw.trans (hb1.mono hbw.size)
        refine ⟨(hbw1.alloc hbw1.size _), .inr ⟨HK.out, _, rfl, World.ownsRow_lit W1 #[] 0 hbw1.size (Nat.zero_le _) rfl, by intro e; cases e⟩⟩
    · have hkk : k = ws.length := by omega
      subst hkk
      obtain ⟨h1, h2⟩ := hid.out
      rw [List.take_of_length_le (Nat.le_refl _)] at h1 hown
      have HK : Hid (∀ s ∈ ws, OkN (bytesE s)) := Lib.hid h1
      clear h1 hread hcells hid
      go_wp2
      go_ret2
      exact ⟨hbw, .inl ⟨HK.out, _, rfl, hown, h2⟩⟩
end Go.Proofs.YtmkhoggpejemiaaDoor

namespace Go.Proofs.YtmkhoggpejemiaaDoor
open Go.Shelf Go.Proofs Go.Sx Go.RowKit

/-- The parts of a text between such bytes. -/
def spl (c : Nat) : List UInt8 → List (List UInt8)
  | [] => [[]]
  | b :: l =>
    match b.toNat == c, spl c l with
    | true, ps => [] :: ps
    | false, p :: ps => (b :: p) :: ps
    | false, [] => [[b]]
def glue (s : List UInt8) : List (List UInt8) → List (List UInt8)
  | [] => [s]
  | p :: ps => (s ++ p) :: ps

theorem spl_ne (c : Nat) : ∀ l, spl c l ≠ []
  | [] => by simp [spl]
  | b :: l => by
    unfold spl
    split <;> simp

theorem glue_nil {l : List (List UInt8)} (h : l ≠ []) : glue [] l = l := by
  cases l with
  | nil => exact absurd rfl h
  | cons p ps => rfl

theorem glue_hit {c : Nat} {s : List UInt8} {b : UInt8} {l : List UInt8} (h : b.toNat = c) : glue s (spl c (b :: l)) = s :: spl c l := by
  have hb : (b.toNat == c) = true := by rw [h]; simp
  have e : spl c (b :: l) = [] :: spl c l := by simp only [spl, hb]
  rw [e]
  simp [glue]

theorem glue_miss {c : Nat} {s : List UInt8} {b : UInt8} {l : List UInt8} (h : b.toNat ≠ c) : glue s (spl c (b :: l)) = glue (s ++ [b]) (spl c l) := by
  have hb : (b.toNat == c) = false := by simp [h]
  cases hl : spl c l with
  | nil => exact absurd hl (spl_ne c l)
  | cons p ps =>
    have e : spl c (b :: l) = (b :: p) :: ps := by
      unfold spl
      rw [hb, hl]
    rw [e]
    simp [glue]

theorem info9 : (Tryd.prog.info? 9).map (fun i => (i.zero, i.size, i.bytes)) = some (some (.string ByteArray.empty), 1, 16) := by kernel_rfl

/-- What stands between two places. -/
def seg (l : List UInt8) (f k : Nat) : List UInt8 := (l.drop f).take (k - f)

theorem seg_step {l : List UInt8} {f k : Nat} {b : UInt8} (hf : f ≤ k) (hb : l[k]? = some b) : seg l f (k + 1) = seg l f k ++ [b] := by
  unfold seg
  rw [show k + 1 - f = (k - f) + 1 by omega, List.take_add_one, List.getElem?_drop, show f + (k - f) = k by omega, hb]
  rfl

set_option maxHeartbeats 8000000 in
set_option maxRecDepth 100000 in
theorem l01Split (s : ByteArray) (c : Nat) (hc : c < 256) (hmax : s.size ≤ 16777216) (w : World) :
    Calls Tryd.prog 28 #[.string s, .int .u8 c] w fun e w' => Below w.heap.size w w' ∧ ∃ (v : Value) (ps : List ByteArray), e = .returned v ∧ w'.ownsRow w.heap.size 9 1 v ps.length (ps.map Value.string) ∧ v ≠ .slice none 0 0 ∧
      ps.map (·.data.toList) = spl c s.data.toList := by
  obtain ⟨i0, hi, hz0, hz1, hz2⟩ := info_parts info9
  obtain ⟨bs, hL⟩ : ∃ bs, bs = s.data.toList := ⟨_, rfl⟩
  have hLn : bs.length = s.size := by rw [hL, Lib.size_eq]
  rw [← hL]
  have hidx : ∀ (k : Nat) (b : UInt8), bs[k]? = some b → ∀ w : World, (Instr.index 9 (.string s) (.int .i64 (k : Int))).run Tryd.prog w = .ok (.int .u8 ((b.toNat : Nat) : Int)) w := by
    intro k b hb w
    have hk : k < s.size := by rw [← hLn]; exact (List.getElem?_eq_some_iff.1 hb).1
    obtain ⟨c, h1, h2, _⟩ := bytes_get s k hk
    rw [← hL, hb] at h2
    cases h2
    simp [Instr.index, asIntOf, run_underlying Tryd.underlying9, h1]
  have hext : ∀ f k, (s.extract f k).data.toList = seg bs f k := by
    intro f k
    rw [hL]
    simp [seg, List.take_drop]
  clear hL
  go_enter Tryd.func28, Tryd.ntmps28
  go_wp2
  go_loopw [5, 6, 7] (fun v f i wr => ∃ (k m : Nat) (ps : List ByteArray) (ao : Option Addr) (cv : Nat), k ≤ s.size ∧ m ≤ k ∧ ps.length ≤ k ∧ i = .int .i64 k ∧ f = .int .i64 m ∧ v = .slice ao ps.length cv ∧ wr.ownsRow w.heap.size 9 1 v ps.length (ps.map Value.string) ∧ Below w.heap.size w wr ∧
      Hid (ps.map (·.data.toList) ++ glue (seg bs m k) (spl c (bs.drop k)) = spl c bs ∧ v ≠ .slice none 0 0))
    (fun _ _ i _ => s.size - (intOf i).toNat)
  case atStart => exact ⟨0, 0, [], some ⟨w.heap.size, 0, none⟩, 0, Nat.zero_le _, Nat.zero_le _, Nat.zero_le _, rfl, rfl, rfl, World.ownsRow_lit w #[] 0 (Nat.le_refl _) (Nat.zero_le _) rfl, (Below.refl _ _).alloc (Nat.le_refl _) _, Lib.hid ⟨by
    show glue (seg bs 0 0) (spl c (bs.drop 0)) = spl c bs
    rw [List.drop_zero]
    exact glue_nil (spl_ne c bs), by intro e; cases e⟩⟩
  case round =>
    obtain ⟨k, m, ps, ao, cv, hk, hm, hps, rfl, rfl, rfl, hown, hbw, hid⟩ := hrel
    have hsize := hbw.size
    obtain ⟨hrest, hne⟩ := hid.out
    clear hid
    by_cases hkn : k < s.size
    · obtain ⟨b, hb⟩ : ∃ b, bs[k]? = some b := ⟨_, List.getElem?_eq_getElem (by omega)⟩
      have hx := hidx k b hb
      have hdrop : bs.drop k = b :: bs.drop (k + 1) := by
        rw [List.drop_eq_getElem_cons (by omega : k < bs.length)]
        rw [List.getElem?_eq_getElem (by omega : k < bs.length)] at hb
        cases hb; rfl
      rw [hdrop] at hrest
      by_cases hbc : b.toNat = c
      · have HR : Hid ((ps ++ [s.extract m k]).map (·.data.toList) ++ glue (seg bs (k + 1) (k + 1)) (spl c (bs.drop (k + 1))) = spl c bs) := Lib.hid (by
          rw [glue_hit hbc] at hrest
          have e : glue (seg bs (k + 1) (k + 1)) (spl c (bs.drop (k + 1))) = spl c (bs.drop (k + 1)) := by
            rw [show seg bs (k + 1) (k + 1) = [] by unfold seg; rw [Nat.sub_self]; rfl]
            exact glue_nil (spl_ne _ _)
          rw [e, List.map_append, List.map_cons, List.map_nil, hext, List.append_assoc]
          exact hrest)
        have hq : (((b.toNat : Nat) : Int) == ((c : Nat) : Int)) = true := by rw [hbc]; simp
        clear hrest hidx hext hdrop hb hbc
        go_wp2_with (first
          | (at_builtin; refine wpList_append_own _ rfl _ _ 57 rfl w.heap.size 9 i0 (.string ByteArray.empty) 1 16 Tryd.underlying57 hi hz0 hz1 hz2 rfl (by decide) _ _ _ rfl (hown.alloc _) ⟨wr.heap.size, 0, none⟩ 1 1 [.string (s.extract m k)] rfl rfl (cell_one_new _ _ _) (fun x hx => by simp at hx; subst hx; rfl) (by unfold maxLen; omega) (by omega) (by simp; omega) ?_; intro v' w3 hown' hgrow3 hnil3))
        go_roundw
        case rel =>
          obtain ⟨g3, cap3, hv3⟩ : ∃ g3 cap3, v' = .slice (some ⟨g3, 0, none⟩) (ps.length + 1) cap3 := by
            rcases hown'.2 with ⟨_, h⟩ | ⟨g3, cap3, _, h, _⟩
            · omega
            · exact ⟨g3, cap3, h⟩
          refine ⟨k + 1, k + 1, ps ++ [s.extract m k], some ⟨g3, 0, none⟩, cap3, by omega, by omega, by rw [List.length_append]; simp; omega, by first | rfl | simp, by first | rfl | simp, ?_, ?_, ?_, ?_⟩
          · rw [hv3, List.length_append]; rfl
          · rw [List.length_append, List.map_append]; exact hown'
          · exact (hbw.alloc hsize _).grown hgrow3 (by simp; omega) (fun q hq => (hown.lt q hq).1)
          · exact Lib.hid ⟨HR.out, by rw [hv3]; intro e; cases e⟩
        case measure => simp [intOf]; omega
      · have HR : Hid (ps.map (·.data.toList) ++ glue (seg bs m (k + 1)) (spl c (bs.drop (k + 1))) = spl c bs) := Lib.hid (by
          rw [glue_miss hbc] at hrest
          rw [seg_step hm hb]
          exact hrest)
        have hq : (((b.toNat : Nat) : Int) == ((c : Nat) : Int)) = false := by
          rw [beq_eq_false_iff_ne]
          intro e
          exact hbc (Int.ofNat_inj.1 e)
        have HN : Hid (Value.slice ao ps.length cv ≠ .slice none 0 0) := Lib.hid hne
        clear hrest hidx hext hdrop hb hbc hne
        go_wp2
        go_roundw
        case rel => exact ⟨k + 1, m, ps, ao, cv, by omega, by omega, by omega, by first | rfl | simp, rfl, rfl, hown, hbw, Lib.hid ⟨HR.out, HN.out⟩⟩
        case measure => simp [intOf]; omega
    · have hkk : k = s.size := by omega
      subst hkk
      have HR : Hid ((ps ++ [s.extract m s.size]).map (·.data.toList) = spl c bs) := Lib.hid (by
        rw [List.drop_eq_nil_of_le (by omega)] at hrest
        rw [List.map_append, List.map_cons, List.map_nil, hext, ← hrest]
        simp [spl, glue])
      clear hrest hidx hext
      go_wp2_with (first
        | (at_builtin; refine wpList_append_own _ rfl _ _ 57 rfl w.heap.size 9 i0 (.string ByteArray.empty) 1 16 Tryd.underlying57 hi hz0 hz1 hz2 rfl (by decide) _ _ _ rfl (hown.alloc _) ⟨wr.heap.size, 0, none⟩ 1 1 [.string (s.extract m s.size)] rfl rfl (cell_one_new _ _ _) (fun x hx => by simp at hx; subst hx; rfl) (by unfold maxLen; omega) (by omega) (by simp; omega) ?_; intro v' w3 hown' hgrow3 hnil3))
      go_ret
      refine ⟨(hbw.alloc hsize _).grown hgrow3 (by simp; omega) (fun q hq => (hown.lt q hq).1), v', ps ++ [s.extract m s.size], rfl, ?_, ?_, HR.out⟩
      · rw [List.length_append, List.map_append]; exact hown'
      · intro e
        have := (hnil3.1 e).2
        cases this
end Go.Proofs.YtmkhoggpejemiaaDoor

namespace Go.Proofs.YtmkhoggpejemiaaDoor
open Go.Shelf Go.Proofs Go.Sx Go.RowKit

theorem indexByte_hit {c b : UInt8} {l : List UInt8} (h : b = c) : Lib.indexByte (b :: l) c = 0 := by
  unfold Lib.indexByte
  rw [if_pos (by simp [h])]

theorem indexByte_next {c b : UInt8} {l : List UInt8} (h : b ≠ c) : Lib.indexByte (b :: l) c = if Lib.indexByte l c = -1 then -1 else Lib.indexByte l c + 1 := by
  conv => lhs; unfold Lib.indexByte
  rw [if_neg (by simp [h])]
  by_cases h1 : Lib.indexByte l c = -1
  · simp [h1]
  · simp [h1]

theorem splitK_succ (c : UInt8) (k : Nat) (l : List UInt8) : Lib.splitK [c] 0 (k + 1) l = if Lib.index l [c] == -1 then [l] else l.take ((Lib.index l [c]).toNat + 0) :: Lib.splitK [c] 0 k (l.drop ((Lib.index l [c]).toNat + 1)) := rfl

theorem splitK_spl (c : UInt8) : ∀ l : List UInt8, Lib.splitK [c] 0 (l.count c) l = spl c.toNat l
  | [] => rfl
  | b :: l => by
    have ih := splitK_spl c l
    by_cases h : b = c
    · subst h
      have e : spl b.toNat (b :: l) = [] :: spl b.toNat l := by simp only [spl, beq_self_eq_true]
      rw [e, ← ih, List.count_cons_self, splitK_succ, Lib.index_one, indexByte_hit rfl, if_neg (by decide)]
      rfl
    · have hb : (b.toNat == c.toNat) = false := by
        rw [beq_eq_false_iff_ne]
        intro e
        exact h (UInt8.toNat_inj.1 e)
      rw [List.count_cons_of_ne h]
      cases hk : l.count c with
      | zero =>
        rw [hk] at ih
        have ih : [l] = spl c.toNat l := ih
        show [b :: l] = _
        simp only [spl, hb, ← ih]
      | succ k =>
        rw [hk] at ih
        rw [splitK_succ, Lib.index_one] at ih ⊢
        rw [indexByte_next h]
        by_cases h1 : Lib.indexByte l c = -1
        · rw [h1] at ih ⊢
          simp only [beq_self_eq_true, if_true] at ih ⊢
          simp only [spl, hb, ← ih]
        · have hge := Lib.indexByte_ge l c
          obtain ⟨i, hi⟩ : ∃ i : Nat, Lib.indexByte l c = (i : Int) := ⟨(Lib.indexByte l c).toNat, by omega⟩
          rw [hi] at ih h1 ⊢
          have h2 : ((i : Int) == -1) = false := by rw [beq_eq_false_iff_ne]; exact h1
          have h3 : (((i : Int) + 1) == -1) = false := by rw [beq_eq_false_iff_ne]; omega
          rw [h2] at ih
          rw [if_neg h1, h3]
          simp only [Bool.false_eq_true, if_false, Int.toNat_natCast, Nat.add_zero] at ih ⊢
          have h4 : ((i : Int) + 1).toNat = i + 1 := by omega
          rw [h4]
          simp only [spl, hb, ← ih]
          try simp

/-- What strings.Split hands back at a sep of one byte. -/
theorem splitB_spl (s : ByteArray) (c : UInt8) : (Lib.splitB ⟨#[c]⟩ 0 (Lib.countB s ⟨#[c]⟩) s).map (·.data.toList) = spl c.toNat s.data.toList := by
  rw [Lib.splitB_data]
  have e : Lib.countB s ⟨#[c]⟩ = s.data.toList.count c := by
    rw [← Lib.count_one]
  rw [e]
  exact splitK_spl c _

theorem splitE_cons (c : Int) (b : List Int) (l : List (List Int)) : splitE c (b :: l) = match b == [c], splitE c l with
    | true, ps => [] :: ps
    | false, p :: ps => (b :: p) :: ps
    | false, [] => [[b]] := rfl

theorem spl_cons (c : Nat) (b : UInt8) (l : List UInt8) : spl c (b :: l) = match b.toNat == c, spl c l with
    | true, ps => [] :: ps
    | false, p :: ps => (b :: p) :: ps
    | false, [] => [[b]] := rfl

theorem splitE_spl (c : Nat) : ∀ l : List UInt8, splitE (c : Int) (bytesL l) = (spl c l).map bytesL
  | [] => rfl
  | b :: l => by
    have ih := splitE_spl c l
    have e : bytesL (b :: l) = [((b.toNat : Nat) : Int)] :: bytesL l := rfl
    have hq : ([((b.toNat : Nat) : Int)] == [((c : Nat) : Int)]) = (b.toNat == c) := by
      rw [Bool.eq_iff_iff, beq_iff_eq, beq_iff_eq]
      simp only [List.cons.injEq, and_true]
      exact Int.ofNat_inj
    rw [e, splitE_cons, spl_cons, hq, ih]
    generalize spl c l = q
    cases (b.toNat == c) with
    | true => rfl
    | false =>
      cases q with
      | nil => rfl
      | cons p ps => rfl

theorem wordsE_spl (c : Nat) (s : ByteArray) {ps : List ByteArray} (h : ps.map (·.data.toList) = spl c s.data.toList) : wordsE (c : Int) (bytesE s) = ps.map fun p => [encE (bytesE p)] := by
  unfold wordsE
  rw [show bytesE s = bytesL s.data.toList from rfl, splitE_spl, ← h, List.map_map, List.map_map]
  rfl

theorem spl_len (c : Nat) : ∀ l : List UInt8, (spl c l).length ≤ l.length + 1 ∧ ∀ p ∈ spl c l, p.length ≤ l.length
  | [] => by simp [spl]
  | b :: l => by
    have ih := spl_len c l
    cases hb : (b.toNat == c) with
    | true =>
      have e : spl c (b :: l) = [] :: spl c l := by simp only [spl, hb]
      rw [e]
      refine ⟨by simp; omega, fun p hp => ?_⟩
      rcases List.mem_cons.1 hp with rfl | hp
      · simp
      · have := ih.2 p hp
        simp; omega
    | false =>
      cases hl : spl c l with
      | nil => exact absurd hl (spl_ne c l)
      | cons p ps =>
        have e : spl c (b :: l) = (b :: p) :: ps := by simp only [spl, hb, hl]
        rw [hl] at ih
        rw [e]
        refine ⟨by have := ih.1; simp at this ⊢; omega, fun q hq => ?_⟩
        rcases List.mem_cons.1 hq with rfl | hq
        · have := ih.2 p List.mem_cons_self
          simp; omega
        · have := ih.2 q (List.mem_cons_of_mem _ hq)
          simp; omega
end Go.Proofs.YtmkhoggpejemiaaDoor
