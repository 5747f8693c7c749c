/- Part 8 of 11 of the proof of SpellScans: contracts of functions that its law calls; no condition. -/
import Derived.Test.YtemogjpgkcbaiaaGreatDoorA7
import Derived.Deep.RegionWith
import Derived.Lib.Builder
import Derived.Maps.OwnOps
section
namespace Go.Proofs.YtemogjpgkcbaiaaGreatDoor.Sp
open Go.RowKit Go.Proofs.YtemogjpgkcbaiaaGreatDoorW.PrintWords Go.Proofs.YtemogjpgkcbaiaaGreatDoorW.PrintLast Go.Proofs.YtemogjpgkcbaiaaGreatDoorW.PrintMore
set_option linter.unusedVariables false
set_option linter.unusedSimpArgs false
set_option maxRecDepth 100000
def hasF (f : ByteArray) (c : Int) : Bool := decide (0 ≤ ix f.data.toList c)
theorem has_calls (cv : Cv) (c : Int) (w : World) : Calls Tryz.prog 81 #[.agg cv.cells.toArray, .int .u8 c] w fun e w' => e = .returned (.bool (hasF cv.flags c)) ∧ Chg (fun _ => False) w w' := by
  go_enter Tryz.func81, Tryz.ntmps81
  simp only [Cv.cells]
  go_wp2_with fail
  refine (ix_calls _ _ _).mono ?_
  rintro e w' ⟨rfl, rfl⟩
  have hv : hasF cv.flags c = decide (0 ≤ ix cv.flags.data.toList c) := rfl
  generalize ix cv.flags.data.toList c = x at *
  go_wp2_with fail
  go_ret
  exact ⟨by rw [hv]; rfl, (Chg.refl _ _).alloc _⟩
def rep (c : UInt8) (n : Int) : ByteArray := ⟨(Lib.repeatL [c] n.toNat).toArray⟩
theorem rep_calls (c : UInt8) (n : Int) (h0 : 0 ≤ n) (h1 : n ≤ 100000) (w : World) : Calls Tryz.prog 82 #[.string ⟨#[c]⟩, .int .i64 n] w fun e w' => e = .returned (.string (rep c n)) ∧ Below w.heap.size w w' := by
  have := Tryz.strings_Repeat ⟨#[c]⟩ n.toNat w (by omega) (by show 1 * n.toNat ≤ _; omega)
  rw [Int.toNat_of_nonneg h0] at this
  exact this
def spr (cv : Cv) (x : ByteArray) (first : Int) (zeros : Bool) : ByteArray :=
  if cv.width - x.size ≤ 0 then x
  else if hasF cv.flags 45 = true then x ++ rep 32 (cv.width - x.size)
  else if zeros = true then x.extract 0 first.toNat ++ rep 48 (cv.width - x.size) ++ x.extract first.toNat x.size
  else rep 32 (cv.width - x.size) ++ x
theorem repeatL_len (l : List UInt8) : ∀ n : Nat, (Lib.repeatL l n).length = n * l.length
  | 0 => by simp [Lib.repeatL]
  | n + 1 => by
    rw [Lib.repeatL, List.length_append, repeatL_len l n, Nat.add_mul]
    omega
theorem rep_size (c : UInt8) (n : Int) : (rep c n).size = n.toNat := by
  show (Lib.repeatL [c] n.toNat).toArray.size = _
  rw [List.size_toArray, repeatL_len]; simp
theorem sl_runS (s : ByteArray) (n : Int) (h0 : 0 ≤ n) (h : n ≤ s.size) (w : World) : (Instr.slice 9 (.string s) (some (.int .i64 n)) none none).run Tryz.prog w = .ok (.string (s.extract n.toNat s.size)) w := by
  have h1 : n.toNat ≤ s.size := by omega
  simp [go_sem, h0, h, h1]
set_option maxHeartbeats 2000000 in
theorem spread_calls (cv : Cv) (x : ByteArray) (first : Int) (zeros : Bool) (hx : x.size ≤ 1000000000) (hw : -1 ≤ cv.width) (hw2 : cv.width ≤ 999) (h0 : 0 ≤ first) (h1 : first ≤ x.size) (w : World) :
    Calls Tryz.prog 83 #[.agg cv.cells.toArray, .string x, .int .i64 first, .bool zeros] w fun e w' => e = .returned (.string (spr cv x first zeros)) ∧ Chg (fun _ => False) w w' := by
  go_enter Tryz.func83, Tryz.ntmps83
  simp only [Cv.cells]
  go_upto_region 1 with fail
  obtain ⟨W0, hW0⟩ : ∃ W0, W0 = w.alloc (Obj.cells cv.cells.toArray 51) := ⟨_, rfl⟩
  have hC0 : CV W0 w.heap.size cv := by rw [hW0]; exact World.alloc_heap_new w _
  have k0 : Chg (fun _ => False) w W0 := by rw [hW0]; exact (Chg.refl _ w).alloc _
  simp only [Cv.cells] at hW0
  rw [← hW0]
  clear hW0
  obtain ⟨b, hb⟩ : ∃ b, b = w.heap.size := ⟨_, rfl⟩
  rw [← hb] at hC0 ⊢
  clear hb
  have c4 := hC0.c4
  obtain ⟨m, hm⟩ : ∃ m, m = cv.width - x.size := ⟨_, rfl⟩
  have hwm : IntKind.i64.wrap (cv.width - x.size) = m := by rw [hm]; exact i64_small (by omega) (by omega)
  have HM := Lib.hid hm
  have hmb : m ≤ 999 := by omega
  clear hm
  by_cases hle : m ≤ 0
  · have g1 : decide (m ≤ 0) = true := by simpa using hle
    have HV := Lib.hid (show spr cv x first zeros = x by unfold spr; rw [← HM.out, if_pos hle])
    clear hle
    go_wp2_with fail
    go_ret
    exact ⟨by rw [HV.out]; rfl, k0⟩
  · have g1 : decide (m ≤ 0) = false := by simpa using hle
    have c0 := hC0.c0
    have c1 := hC0.c1
    have c2 := hC0.c2
    have c3 := hC0.c3
    have c5 := hC0.c5
    have c6 := hC0.c6
    have c7 := hC0.c7
    have c8 := hC0.c8
    have c9 := hC0.c9
    have c10 := hC0.c10
    have hcall := has_calls cv 45 W0
    simp only [Cv.cells] at hcall
    have hm0 : 0 ≤ m := by omega
    by_cases hl : hasF cv.flags 45 = true
    · rw [hl] at hcall
      have HCALL := Lib.hid hcall
      have HV := Lib.hid (show spr cv x first zeros = x ++ rep 32 m by unfold spr; rw [← HM.out, if_neg hle, if_pos hl])
      clear hle hl hcall
      go_wp2_with fail
      refine HCALL.out.mono ?_
      rintro e w1 ⟨rfl, k1⟩
      go_wp2_with fail
      refine (rep_calls 32 m hm0 (by omega) w1).mono ?_
      rintro e w2 ⟨rfl, hb2⟩
      have hz : x.size + (rep 32 m).size ≤ 9223372036854775807 := by rw [rep_size]; omega
      go_wp2_with fail
      go_ret
      exact ⟨by rw [HV.out]; rfl, (k0.trans k1).trans (Chg.of_below hb2)⟩
    · have hl' : hasF cv.flags 45 = false := by simpa using hl
      rw [hl'] at hcall
      have HCALL := Lib.hid hcall
      cases zeros
      · have HV := Lib.hid (show spr cv x first false = rep 32 m ++ x by unfold spr; rw [← HM.out, if_neg hle, if_neg hl]; rfl)
        clear hle hl hl' hcall
        go_wp2_with fail
        refine HCALL.out.mono ?_
        rintro e w1 ⟨rfl, k1⟩
        go_wp2_with fail
        refine (rep_calls 32 m hm0 (by omega) w1).mono ?_
        rintro e w2 ⟨rfl, hb2⟩
        have hz : (rep 32 m).size + x.size ≤ 9223372036854775807 := by rw [rep_size]; omega
        go_wp2_with fail
        go_ret
        exact ⟨by rw [HV.out]; rfl, (k0.trans k1).trans (Chg.of_below hb2)⟩
      · have HV := Lib.hid (show spr cv x first true = x.extract 0 first.toNat ++ rep 48 m ++ x.extract first.toNat x.size by unfold spr; rw [← HM.out, if_neg hle, if_neg hl]; rfl)
        have hs1 := sl_runN x first h0 h1
        have hs2 := sl_runS x first h0 h1
        have hz1 : (x.extract 0 first.toNat).size + (rep 48 m).size ≤ 9223372036854775807 := by rw [rep_size]; simp; omega
        have hz2 : (x.extract 0 first.toNat ++ rep 48 m).size + (x.extract first.toNat x.size).size ≤ 9223372036854775807 := by rw [ByteArray.size_append, rep_size]; simp; omega
        have hrep := fun W => rep_calls 48 m hm0 (by omega) W
        have HREP := Lib.hid hrep
        obtain ⟨y1, hy1⟩ : ∃ y1, y1 = x.extract 0 first.toNat := ⟨_, rfl⟩
        obtain ⟨y2, hy2⟩ : ∃ y2, y2 = x.extract first.toNat x.size := ⟨_, rfl⟩
        rw [← hy1] at hs1 hz1 hz2
        rw [← hy2] at hs2 hz2
        have hz3 : y1.size + (rep 48 m).size + y2.size ≤ 9223372036854775807 := by have := hz2; rw [ByteArray.size_append] at this; exact this
        have HY := Lib.hid (And.intro hy1 hy2)
        clear hle hl hl' hcall hrep hy1 hy2 h0 h1
        go_wp2_with fail
        refine HCALL.out.mono ?_
        rintro e w1 ⟨rfl, k1⟩
        go_wp2_with fail
        go_region_with (go_at_call 82; refine (HREP.out _).mono ?_; rintro e w2 ⟨rfl, hb2⟩)
        all_goals
          go_wp2_with fail
          go_ret
          refine ⟨by rw [HV.out, ← HY.out.1, ← HY.out.2]; rfl, ?_⟩
          refine Chg.trans (k0.trans k1) ?_
          first | exact Chg.of_below hb2 | exact (Chg.of_below hb2).drew | exact Chg.trans ((Chg.refl _ _).drew) (Chg.of_below hb2)
end Go.Proofs.YtemogjpgkcbaiaaGreatDoor.Sp
end
section
namespace Go.Proofs.YtemogjpgkcbaiaaGreatDoor.Sp
open Go.RowKit Go.Proofs.YtemogjpgkcbaiaaGreatDoorW.PrintWords Go.Proofs.YtemogjpgkcbaiaaGreatDoorW.PrintLast Go.Proofs.YtemogjpgkcbaiaaGreatDoorW.PrintMore
set_option linter.unusedVariables false
set_option linter.unusedSimpArgs false
set_option maxRecDepth 100000
theorem inRes_code (s : ByteArray) : (inRes s).2 = 0 ∨ (inRes s).2 = 2 ∨ (inRes s).2 = 7 := by
  have h : ∀ neg V, (inVal neg V).2 = 0 ∨ (inVal neg V).2 = 7 := by
    intro neg V
    rw [inVal]
    by_cases hc : V ≤ (if neg = true ∧ V ≠ 0 then 9223372036854775808 else 9223372036854775807)
    · rw [if_pos hc]; exact .inl rfl
    · rw [if_neg hc]; exact .inr rfl
  unfold inRes
  split
  · exact .inr (.inl rfl)
  · rename_i neg V _
    rcases h neg V with h | h
    · exact .inl h
    · exact .inr (.inr h)
def bndRes (s : ByteArray) : Int × Int :=
  if (inRes s).2 = 2 then (0, 11) else if (inRes s).2 ≠ 0 ∨ (inRes s).1 < -999 ∨ 999 < (inRes s).1 then (0, 7) else ((inRes s).1, 0)
set_option maxHeartbeats 2000000 in
theorem bounded_calls (s : ByteArray) (hs : s.size ≤ 100000) (w : World) : Calls Tryz.prog 54 #[.string s] w fun e w' => e = .returned (.tuple #[.int .i64 (bndRes s).1, .int .i64 (bndRes s).2]) ∧ Chg (fun _ => False) w w' := by
  have hcode := inRes_code s
  have hb : bndRes s = if (inRes s).2 = 2 then (0, 11) else if (inRes s).2 ≠ 0 ∨ (inRes s).1 < -999 ∨ 999 < (inRes s).1 then (0, 7) else ((inRes s).1, 0) := rfl
  have hcall := Int_calls s hs w
  rcases hr : inRes s with ⟨n, c⟩
  rw [hr] at hb hcode hcall
  simp only at hb hcode hcall
  have HC := Lib.hid hcall
  clear hcall hr
  go_enter Tryz.func54, Tryz.ntmps54
  go_wp2_with fail
  refine HC.out.mono ?_
  rintro e w1 ⟨rfl, k1⟩
  rcases hcode with rfl | rfl | rfl
  · by_cases h1 : n < -999
    · have HB := Lib.hid (show bndRes s = (0, 7) by rw [hb, if_neg (by decide), if_pos (by omega)])
      clear hb
      go_wp2
      go_ret2
      exact ⟨by rw [HB.out]; rfl, k1⟩
    · by_cases h2 : 999 < n
      · have HB := Lib.hid (show bndRes s = (0, 7) by rw [hb, if_neg (by decide), if_pos (by omega)])
        clear hb
        go_wp2
        go_ret2
        exact ⟨by rw [HB.out]; rfl, k1⟩
      · have HB := Lib.hid (show bndRes s = (n, 0) by rw [hb, if_neg (by decide), if_neg (by omega)])
        clear hb
        go_wp2
        go_ret2
        exact ⟨by rw [HB.out]; rfl, k1⟩
  · have HB := Lib.hid (show bndRes s = (0, 11) by rw [hb, if_pos rfl])
    clear hb
    go_wp2
    go_ret2
    exact ⟨by rw [HB.out]; rfl, k1⟩
  · have HB := Lib.hid (show bndRes s = (0, 7) by rw [hb, if_neg (by decide), if_pos (by omega)])
    clear hb
    go_wp2
    go_ret2
    exact ⟨by rw [HB.out]; rfl, k1⟩
def byB1 (n : Int) : ByteArray := ⟨#[UInt8.ofNat n.toNat]⟩
def bydRes (cv : Cv) (s : ByteArray) : ByteArray × Int :=
  if (inRes s).2 = 2 then (⟨#[]⟩, 11) else if (inRes s).2 ≠ 0 ∨ (inRes s).1 < 0 ∨ 255 < (inRes s).1 then (⟨#[]⟩, 7) else (spr cv (byB1 (inRes s).1) 0 false, 0)
theorem conv_byte (n : Int) (w1 : World) : (convert 44 9 (.slice (some ⟨w1.heap.size, 0, none⟩) 1 1)).run Tryz.prog (w1.alloc (Obj.cells #[Value.int IntKind.u8 n] 5)) = .ok (.string (byB1 n)) (w1.alloc (Obj.cells #[Value.int IntKind.u8 n] 5)) := by
  have h : ReadsInt (w1.alloc (Obj.cells #[Value.int IntKind.u8 n] 5)) .u8 (some ⟨w1.heap.size, 0, none⟩) 1 [n] := by
    refine ⟨rfl, by decide, fun _ => ⟨_, rfl, fun j hj => ?_⟩⟩
    have : j = 0 := by omega
    subst this
    exact cell_of (World.alloc_heap_new w1 (.cells #[.int .u8 n] 5)) 0 rfl
  exact string_of_reads (c := 1) Tryz.underlying44 Tryz.underlying5 Tryz.underlying9 h
set_option maxHeartbeats 2000000 in
theorem byted_calls (cv : Cv) (hw : -1 ≤ cv.width) (hw2 : cv.width ≤ 999) (s : ByteArray) (hs : s.size ≤ 100000) (w : World) : Calls Tryz.prog 45 #[.agg cv.cells.toArray, .string s] w fun e w' => e = .returned (.tuple #[.string (bydRes cv s).1, .int .i64 (bydRes cv s).2]) ∧ Chg (fun _ => False) w w' := by
  have hcode := inRes_code s
  have hb : bydRes cv s = if (inRes s).2 = 2 then (⟨#[]⟩, 11) else if (inRes s).2 ≠ 0 ∨ (inRes s).1 < 0 ∨ 255 < (inRes s).1 then (⟨#[]⟩, 7) else (spr cv (byB1 (inRes s).1) 0 false, 0) := rfl
  have hcall := fun W => Int_calls s hs W
  rcases hr : inRes s with ⟨n, c⟩
  rw [hr] at hb hcode hcall
  simp only at hb hcode hcall
  have HC := Lib.hid hcall
  clear hcall hr
  go_enter Tryz.func45, Tryz.ntmps45
  simp only [Cv.cells]
  go_upto_region 1 with fail
  obtain ⟨W0, hW0⟩ : ∃ W0, W0 = w.alloc (Obj.cells cv.cells.toArray 51) := ⟨_, rfl⟩
  have hC0 : CV W0 w.heap.size cv := by rw [hW0]; exact World.alloc_heap_new w _
  have k0 : Chg (fun _ => False) w W0 := by rw [hW0]; exact (Chg.refl _ w).alloc _
  simp only [Cv.cells] at hW0
  rw [← hW0]
  clear hW0
  obtain ⟨b, hb0⟩ : ∃ b, b = w.heap.size := ⟨_, rfl⟩
  rw [← hb0] at hC0 ⊢
  clear hb0
  go_wp2_with fail
  refine (HC.out _).mono ?_
  rintro e w1 ⟨rfl, k1⟩
  have hC1 := hC0.chg k1 (fun h => h)
  have k01 := k0.trans k1
  clear hC0 k0 k1
  rcases hcode with rfl | rfl | rfl
  · by_cases h1 : n < 0
    · have HB := Lib.hid (show bydRes cv s = (⟨#[]⟩, 7) by rw [hb, if_neg (by decide), if_pos (by omega)])
      clear hb
      go_wp2
      go_ret2
      exact ⟨by rw [HB.out]; rfl, k01⟩
    · by_cases h2 : 255 < n
      · have HB := Lib.hid (show bydRes cv s = (⟨#[]⟩, 7) by rw [hb, if_neg (by decide), if_pos (by omega)])
        clear hb
        go_wp2
        go_ret2
        exact ⟨by rw [HB.out]; rfl, k01⟩
      · have HB := Lib.hid (show bydRes cv s = (spr cv (byB1 n) 0 false, 0) by rw [hb, if_neg (by decide), if_neg (by omega)])
        clear hb
        have c0 := hC1.c0
        have c1 := hC1.c1
        have c2 := hC1.c2
        have c3 := hC1.c3
        have c4 := hC1.c4
        have c5 := hC1.c5
        have c6 := hC1.c6
        have c7 := hC1.c7
        have c8 := hC1.c8
        have c9 := hC1.c9
        have c10 := hC1.c10
        have hcv := conv_byte n w1
        have hsz : (byB1 n).size = 1 := rfl
        go_wp2_with fail
        obtain ⟨W2, hW2⟩ : ∃ W2, W2 = w1.alloc (Obj.cells #[Value.int IntKind.u8 n] 5) := ⟨_, rfl⟩
        have k2 : Chg (fun _ => False) w W2 := by rw [hW2]; exact k01.alloc _
        rw [← hW2]
        clear hcv hW2
        have hsp := spread_calls cv (byB1 n) 0 false (by omega) hw hw2 (by omega) (by omega) W2
        simp only [Cv.cells] at hsp
        refine hsp.mono ?_
        rintro e w3 ⟨rfl, k3⟩
        go_wp2_with fail
        go_ret2
        exact ⟨by rw [HB.out]; rfl, k2.trans k3⟩
  · have HB := Lib.hid (show bydRes cv s = (⟨#[]⟩, 11) by rw [hb, if_pos rfl])
    clear hb
    go_wp2
    go_ret2
    exact ⟨by rw [HB.out]; rfl, k01⟩
  · have HB := Lib.hid (show bydRes cv s = (⟨#[]⟩, 7) by rw [hb, if_neg (by decide), if_pos (by omega)])
    clear hb
    go_wp2
    go_ret2
    exact ⟨by rw [HB.out]; rfl, k01⟩
end Go.Proofs.YtemogjpgkcbaiaaGreatDoor.Sp
end
section
namespace Go.Proofs.YtemogjpgkcbaiaaGreatDoor.Sp
open Go.RowKit Go.Proofs.YtemogjpgkcbaiaaGreatDoorW.PrintWords Go.Proofs.YtemogjpgkcbaiaaGreatDoorW.PrintLast Go.Proofs.YtemogjpgkcbaiaaGreatDoorW.PrintMore
set_option linter.unusedVariables false
set_option linter.unusedSimpArgs false
set_option maxRecDepth 100000
attribute [local go_sem] max2_int min2_int max_two min_two max_three min_three max_four min_four
def QuoteOk (QT : ByteArray → ByteArray) : Prop := ∀ (s : ByteArray) (w : World), s.size ≤ 100000 → (QT s).size ≤ 300000 ∧ Calls Tryz.prog 84 #[.string s] w fun e w' => e = .returned (.string (QT s)) ∧ Chg (fun _ => False) w w'
def ctP (p : Int) (y : ByteArray) : ByteArray := if 0 ≤ p then y.extract 0 (min y.size p.toNat) else y
def txdRes (QT : ByteArray → ByteArray) (cv : Cv) (x : ByteArray) : ByteArray := spr cv (ctP cv.prec (if cv.letter = 113 then QT x else x)) 0 false
theorem extract_all (y : ByteArray) : y.extract 0 y.size = y := by
  apply ba_ext
  rw [Lib.extract_data]
  simp only [List.drop_zero, Nat.sub_zero]
  exact List.take_of_length_le (by rw [Array.length_toList]; exact Nat.le_refl _)
set_option maxHeartbeats 4000000 in
theorem texted_calls (QT : ByteArray → ByteArray) (cv : Cv) (hQ : cv.letter = 113 → QuoteOk QT) (hw : -1 ≤ cv.width) (hw2 : cv.width ≤ 999) (hp : -1 ≤ cv.prec) (hp2 : cv.prec ≤ 999) (s : ByteArray) (hs : s.size ≤ 100000) (w : World) :
    Calls Tryz.prog 44 #[.agg cv.cells.toArray, .string s] w fun e w' => e = .returned (.tuple #[.string (txdRes QT cv s), .int .i64 0]) ∧ Chg (fun _ => False) w w' := by
  obtain ⟨y, hy⟩ : ∃ y, y = (if cv.letter = 113 then QT s else s) := ⟨_, rfl⟩
  have hys : y.size ≤ 300000 := by
    rw [hy]
    split
    · rename_i h; exact (hQ h s w hs).1
    · omega
  have HV := Lib.hid (show txdRes QT cv s = spr cv (ctP cv.prec y) 0 false by unfold txdRes; rw [hy])
  go_enter Tryz.func44, Tryz.ntmps44
  simp only [Cv.cells]
  go_upto_region 1 with fail
  obtain ⟨W0, hW0⟩ : ∃ W0, W0 = w.alloc (Obj.cells cv.cells.toArray 51) := ⟨_, rfl⟩
  have hC0 : CV W0 w.heap.size cv := by rw [hW0]; exact World.alloc_heap_new w _
  have k0 : Chg (fun _ => False) w W0 := by rw [hW0]; exact (Chg.refl _ w).alloc _
  simp only [Cv.cells] at hW0
  rw [← hW0]
  clear hW0
  obtain ⟨b, hb0⟩ : ∃ b, b = w.heap.size := ⟨_, rfl⟩
  rw [← hb0] at hC0 ⊢
  clear hb0
  have c8 := hC0.c8
  go_upto_if 8 with fail
  go_cut [1] (fun v1 wx => v1 = .string y ∧ CV wx b cv ∧ Chg (fun _ => False) w wx)
  case first =>
    by_cases hl : cv.letter = 113
    · have g1 : (cv.letter == 113) = true := by rw [hl]; rfl
      have hq := hQ hl
      rw [if_pos hl] at hy
      have HQ := Lib.hid hq
      have HY := Lib.hid hy
      clear hQ hl hq hy
      simp only [g1]
      go_wp2_with fail
      refine (HQ.out s W0 hs).2.mono ?_
      rintro e w1 ⟨rfl, k1⟩
      go_wp2_with fail
      go_meet
      exact ⟨by rw [HY.out], hC0.chg k1 (fun h => h), k0.trans k1⟩
    · have g1 : (cv.letter == 113) = false := by simpa using hl
      rw [if_neg hl] at hy
      have HY := Lib.hid hy
      clear hQ hl hy
      simp only [g1]
      go_wp2_with fail
      go_meet
      exact ⟨by rw [HY.out], hC0, k0⟩
  case rest =>
    obtain ⟨rfl, hC1, k1⟩ := hcut
    have c5 := hC1.c5
    clear hC0 k0 c8 hQ hy
    obtain ⟨z, hz⟩ : ∃ z, z = ctP cv.prec y := ⟨_, rfl⟩
    have hzs : z.size ≤ 300000 := by
      rw [hz]; unfold ctP; split
      · simp; omega
      · exact hys
    have HZ := Lib.hid hz
    clear hz
    go_upto_if 13 with fail
    go_cut [1] (fun v1 wx => v1 = .string z ∧ wx = wc)
    case first =>
      by_cases h0 : 0 ≤ cv.prec
      · have g1 : decide (0 ≤ cv.prec) = true := by simpa using h0
        by_cases hm : (y.size : Int) ≤ cv.prec
        · have hzz : z = y := by rw [HZ.out]; unfold ctP; rw [if_pos h0, Nat.min_eq_left (by omega)]; exact extract_all y
          have HZZ := Lib.hid hzz
          have hsl := sl_runN y y.size (by omega) (by omega)
          rw [Int.toNat_natCast, extract_all] at hsl
          clear hzz
          simp only [g1]
          go_wp2_with fail
          go_meet
          exact ⟨by rw [HZZ.out], rfl⟩
        · have hzz : z = y.extract 0 cv.prec.toNat := by rw [HZ.out]; unfold ctP; rw [if_pos h0, Nat.min_eq_right (by omega)]
          have HZZ := Lib.hid hzz
          have hsl := sl_runN y cv.prec h0 (by omega)
          clear hzz
          simp only [g1]
          go_wp2_with fail
          go_meet
          exact ⟨by rw [HZZ.out], rfl⟩
      · have g1 : decide (0 ≤ cv.prec) = false := by simpa using h0
        have hzz : z = y := by rw [HZ.out]; unfold ctP; rw [if_neg h0]
        have HZZ := Lib.hid hzz
        clear hzz
        simp only [g1]
        go_wp2_with fail
        go_meet
        exact ⟨by rw [HZZ.out], rfl⟩
    case rest =>
      obtain ⟨rfl, rfl⟩ := hcut
      have c0 := hC1.c0
      have c1 := hC1.c1
      have c2 := hC1.c2
      have c3 := hC1.c3
      have c4 := hC1.c4
      have c6 := hC1.c6
      have c7 := hC1.c7
      have c8 := hC1.c8
      have c9 := hC1.c9
      have c10 := hC1.c10
      have hsp := spread_calls cv z 0 false (by omega) hw hw2 (by omega) (by omega) wc
      simp only [Cv.cells] at hsp
      have HSP := Lib.hid hsp
      clear hsp
      go_wp2_with fail
      refine HSP.out.mono ?_
      rintro e w3 ⟨rfl, k3⟩
      go_wp2_with fail
      go_ret2
      exact ⟨by rw [HV.out, ← HZ.out]; rfl, k1.trans k3⟩
end Go.Proofs.YtemogjpgkcbaiaaGreatDoor.Sp
end
section
namespace Go.Proofs.YtemogjpgkcbaiaaGreatDoor.Sp
open Go.Maps
open Go.RowKit Go.Proofs.YtemogjpgkcbaiaaGreatDoorW.PrintWords Go.Proofs.YtemogjpgkcbaiaaGreatDoorW.PrintLast Go.Proofs.YtemogjpgkcbaiaaGreatDoorW.PrintMore
set_option linter.unusedVariables false
set_option linter.unusedSimpArgs false
set_option maxRecDepth 100000
def wrElem : Value → Option (DataW Empty × List MemPlace)
  | .agg ⟨[.nilFunc]⟩ => some (.nil, [])
  | .agg ⟨[.func (.func n) ⟨[]⟩ ⟨[]⟩]⟩ => some (.lit (.int .i64 n), [])
  | _ => none
def wrD : DataW Empty := (((((((( (DataW.map [] : DataW Empty).put (.int .u8 100) (.lit (.int .i64 43))).put (.int .u8 120) (.lit (.int .i64 43))).put (.int .u8 88) (.lit (.int .i64 43))).put (.int .u8 111) (.lit (.int .i64 43))).put (.int .u8 98) (.lit (.int .i64 43))).put (.int .u8 99) (.lit (.int .i64 45))).put (.int .u8 115) (.lit (.int .i64 44))).put (.int .u8 113) (.lit (.int .i64 44)))
def WM (w : World) (m : Nat) : Prop := w.ownsMap Tryz.prog 5 wrElem m 8 wrD
theorem WM.lt {w : World} {m : Nat} (h : WM w m) : m < w.heap.size := World.ownsMap.lt h
theorem WM.chg {S : Nat → Prop} {w w' : World} {m : Nat} (h : WM w m) (k : Chg S w w') (hs : ¬ S m) : WM w' m := by
  have hlt := h.lt
  obtain ⟨es, clock, hb, F, hs', hD⟩ := h
  exact ⟨es, clock, (k.block m hlt hs).trans hb, F, hs', hD⟩
theorem law5 : Keyed Tryz.prog 5 := int_keyed Tryz.underlying5
theorem zero64 (w : World) : (zeroValue 64).run Tryz.prog w = .ok (.agg #[.nilFunc]) w := by kernel_rfl
def wrF (c : Int) : Nat := if c = 99 then 45 else if c = 115 ∨ c = 113 then 44 else 43
theorem wrElem_inv {v : Value} {k : Nat} {ps : List MemPlace} (h : wrElem v = some (.lit (.int .i64 k), ps)) : v = .agg #[.func (.func k) #[] #[]] := by
  unfold wrElem at h
  split at h
  · cases h
  · simp only [Option.some.injEq, Prod.mk.injEq, DataW.lit.injEq, Lit.int.injEq, true_and] at h
    rw [show _ = k from Int.ofNat.inj h.1]
  · cases h
theorem WM.look {w : World} {m : Nat} (h : WM w m) (c : Int) (hc : c = 100 ∨ c = 120 ∨ c = 88 ∨ c = 111 ∨ c = 98 ∨ c = 99 ∨ c = 115 ∨ c = 113) :
    (Instr.lookup 39 (.map (some m)) (.int .u8 c) false).run Tryz.prog w = .ok (.agg #[.func (.func (wrF c)) #[] #[]]) w := by
  obtain ⟨v, ps, hrun, hv⟩ := World.ownsMap.lookup h law5 Tryz.underlying39 (zero64 w) (zd := .nil) (zp := []) rfl (key := .int .u8 c) (kl := .int .u8 c) (keyOf_int_mk Tryz.underlying5 (by rcases hc with rfl | rfl | rfl | rfl | rfl | rfl | rfl | rfl <;> decide))
  rw [hrun]
  have : v = .agg #[.func (.func (wrF c)) #[] #[]] := by
    rcases hc with rfl | rfl | rfl | rfl | rfl | rfl | rfl | rfl
    · exact wrElem_inv hv
    · exact wrElem_inv hv
    · exact wrElem_inv hv
    · exact wrElem_inv hv
    · exact wrElem_inv hv
    · exact wrElem_inv hv
    · exact wrElem_inv hv
    · exact wrElem_inv hv
  rw [this]
theorem wpList_insert_own {H : Type} {P : Program} (w : World) {ops : Array Oper} {rest : List Oper} {o : Oper} {a : Act} {Q : Exit → Act → World → Prop}
    (hg : o.guard = none) (m x v : Operand) (t : TypeId) (hop : o.op = Op.insert t m x v)
    (k e : TypeId) (K : Keyed P k) (ht : P.underlying t = some (.map k e)) (R : Value → Option (DataW H × List MemPlace)) (b n : Nat) (D : DataW H)
    (hm : a.eval m = .map (some b)) (hown : w.ownsMap P k R b n D) (hn : n < maxLen) (key val : Value) (kl : Lit) (hx : a.eval x = key) (hv : a.eval v = val) (hkey : keyOf P k key = some kl)
    (d : DataW H) (ps : List MemPlace) (hval : R val = some (d, ps))
    (hK : ∀ w', w'.ownsMap P k R b (n + 1) (D.put kl d) → w.grownBy w' (some b) → wpList P ops Q rest (a.put o.dst undef) w') :
    wpList P ops Q (o :: rest) a w := by
  refine wpList_plain hg fun K' hK' => ?_
  obtain ⟨w', hrun, r1, r2⟩ := hown.update K ht hn hkey hval
  unfold Oper.wp
  simp [execOp, hop, hm, hx, hv, hrun, Result.andThen]
  exact hK' _ _ (hK w' r1 r2)
theorem Chg.grown {S : Nat → Prop} {a b c : World} (h : Chg S a b) {r : Nat} (g : b.grownBy c (some r)) (hr : a.heap.size ≤ r) : Chg S a c :=
  ⟨g.os.trans h.os, g.tape.trans h.tape, g.output.trans h.output, Nat.le_trans h.size g.size, fun i hi hs => (g.block i (Nat.lt_of_lt_of_le hi h.size) (fun e => by cases e; omega)).trans (h.block i hi hs)⟩
theorem blk_grown {b c : World} {r k : Nat} {o : Obj} (g : b.grownBy c (some r)) (h : b.heap[k]? = some o) (hne : k ≠ r) : c.heap[k]? = some o :=
  (g.block k (Array.getElem?_eq_some_iff.1 h).1 (fun e => hne (Option.some.inj e))).trans h
theorem cell_blk {w : World} {b : Nat} {v : Value} {t : TypeId} {f : Nat × Nat} (h : w.heap[b]? = some (.cells #[v] t f)) : w.cell? ⟨b, 0, none⟩ = some v := cell_of h 0 rfl
set_option maxHeartbeats 4000000 in
theorem writers_calls (w : World) : Calls Tryz.prog 20 #[] w fun e w' => ∃ m, e = .returned (.map (some m)) ∧ Chg (fun _ => False) w w' ∧ w.heap.size ≤ m ∧ WM w' m := by
  have hmm := @run_makeMap Tryz.prog
  have hsf := fun (W : World) (a : Addr) (f : Fn) (x y : Array Value) => run_store Tryz.prog W a (.func f x y) .plain rfl
  go_enter Tryz.func20, Tryz.ntmps20
  go_upto_region 3 with fail
  obtain ⟨W, hW⟩ : ∃ W, W = ((w.alloc (Obj.cells #[.func (.func 43) #[] #[]] 64)).alloc (Obj.cells #[.func (.func 44) #[] #[]] 64)) := ⟨_, rfl⟩
  have hs : W.heap.size = w.heap.size + 2 := by rw [hW]; simp
  have h2 : W.heap[w.heap.size + 1]? = some (.cells #[.func (.func 44) #[] #[]] 64 (0, 0)) := by
    rw [hW]
    have := World.alloc_heap_new (w.alloc (Obj.cells #[.func (.func 43) #[] #[]] 64)) (Obj.cells #[.func (.func 44) #[] #[]] 64)
    rwa [show (w.alloc (Obj.cells #[.func (.func 43) #[] #[]] 64)).heap.size = w.heap.size + 1 by simp] at this
  have h1 : W.heap[w.heap.size]? = some (.cells #[.func (.func 43) #[] #[]] 64 (0, 0)) := by
    rw [hW]
    exact (Below.heap_alloc _ _ _ (by simp)).trans (World.alloc_heap_new w _)
  have k0 : Chg (fun _ => False) w W := by rw [hW]; exact ((Chg.refl _ w).alloc _).alloc _
  rw [← hW]
  clear hW
  obtain ⟨b, hb⟩ : ∃ b, b = w.heap.size := ⟨_, rfl⟩
  rw [← hb] at h1 h2 ⊢
  have hs' : W.heap.size = b + 2 := by omega
  obtain ⟨b2, hb2⟩ : ∃ b2, b2 = b + 1 := ⟨_, rfl⟩
  rw [← hb2] at h2 ⊢
  obtain ⟨m, hm⟩ : ∃ m, m = W.heap.size := ⟨_, rfl⟩
  have hown : (W.alloc (.map #[] 0)).ownsMap Tryz.prog 5 wrElem m 0 (.map []) := by rw [hm]; exact World.ownsMap_made _ _ _ _
  have hmm1 : ∀ t, Sem.run Tryz.prog (Instr.makeMap t none) W = Result.ok (Value.map (some m)) (W.alloc (Obj.map #[] 0)) := by intro t; rw [hmm, hm]
  have h1' : (W.alloc (.map #[] 0)).heap[b]? = some (.cells #[.func (.func 43) #[] #[]] 64 (0, 0)) := (Below.heap_alloc _ _ _ (by omega)).trans h1
  have h2' : (W.alloc (.map #[] 0)).heap[b2]? = some (.cells #[.func (.func 44) #[] #[]] 64 (0, 0)) := (Below.heap_alloc _ _ _ (by omega)).trans h2
  have k1 := k0.alloc (.map #[] 0)
  have hne1 : b ≠ m := by omega
  have hne2 : b2 ≠ m := by omega
  have hwm : w.heap.size ≤ m := by omega
  generalize W.alloc (.map #[] 0) = W1 at *
  have c1 := cell_blk h1'
  have c2 := cell_blk h2'
  clear hmm h1 h2 k0 hs hs' hb hb2 hm
  go_wp2_with (refine wpList_insert_own _ rfl _ _ _ 39 rfl 5 64 law5 Tryz.underlying39 wrElem m _ _ rfl hown (by unfold maxLen; omega) _ _ _ rfl rfl (keyOf_int_mk Tryz.underlying5 (by decide)) _ [] rfl ?_; clear c1 c2; intro w1 hown1 hg1; replace k1 := Chg.grown k1 hg1 hwm; replace h1' := blk_grown hg1 h1' hne1; replace h2' := blk_grown hg1 h2' hne2; have c1 := cell_blk h1'; have c2 := cell_blk h2'; clear hown hg1; have hown := hown1; clear hown1)
  go_ret
  exact ⟨m, rfl, k1, hwm, hown⟩
def AR (W : World) (base : Nat) (v : Value) (xs : List ByteArray) : Prop :=
  ∃ A c, v = .slice A xs.length c ∧ xs.length ≤ 1000000 ∧ (0 < xs.length → ∃ ad, A = some ad ∧ ad.block < base ∧ ∀ j x, xs[j]? = some x → W.cell? (ad.add j) = some (.string x))
theorem cell_heap {W W' : World} {a : Addr} {v : Value} (h : W.cell? a = some v) (hb : W'.heap[a.block]? = W.heap[a.block]?) : W'.cell? a = some v := by
  unfold World.cell? at h ⊢
  rw [hb]
  exact h
theorem AR.chg {S : Nat → Prop} {W W' : World} {base : Nat} {v : Value} {xs : List ByteArray} (h : AR W base v xs) (k : Chg S W W') (hb : base ≤ W.heap.size) (hs : ∀ i, i < base → ¬ S i) : AR W' base v xs := by
  obtain ⟨A, c, rfl, hl, ha⟩ := h
  refine ⟨A, c, rfl, hl, fun h0 => ?_⟩
  obtain ⟨ad, rfl, hlt, hc⟩ := ha h0
  refine ⟨ad, rfl, hlt, fun j x hj => ?_⟩
  have hblk : (ad.add j).block = ad.block := by unfold Addr.add; split <;> rfl
  exact cell_heap (hc j x hj) (by rw [hblk]; exact k.block _ (by omega) (hs _ hlt))
def tkF (N A : Nat) : Value := .func (.func 46) #[] #[.pointer (some ⟨N, 0, none⟩), .pointer (some ⟨A, 0, none⟩)]
structure TK (W : World) (N A base : Nat) (n : Int) (v : Value) (xs : List ByteArray) : Prop where
  cnt : W.heap[N]? = some (.cells #[.int .i64 n] 3 (0, 0))
  box : W.heap[A]? = some (.cells #[v] 22 (0, 0))
  ar : AR W base v xs
  ne : N ≠ A
  low : base ≤ N
theorem TK.ltN {W : World} {N A base : Nat} {n : Int} {v : Value} {xs : List ByteArray} (h : TK W N A base n v xs) : N < W.heap.size := (Array.getElem?_eq_some_iff.1 h.cnt).1
theorem TK.ltA {W : World} {N A base : Nat} {n : Int} {v : Value} {xs : List ByteArray} (h : TK W N A base n v xs) : A < W.heap.size := (Array.getElem?_eq_some_iff.1 h.box).1
theorem TK.chg {S : Nat → Prop} {W W' : World} {N A base : Nat} {n : Int} {v : Value} {xs : List ByteArray} (h : TK W N A base n v xs) (k : Chg S W W') (hN : ¬ S N) (hA : ¬ S A) (hs : ∀ i, i < base → ¬ S i) : TK W' N A base n v xs :=
  ⟨(k.block _ h.ltN hN).trans h.cnt, (k.block _ h.ltA hA).trans h.box, h.ar.chg k (by have := h.low; have := h.ltN; omega) hs, h.ne, h.low⟩
theorem taken_calls (v : Value) (xs : List ByteArray) (w : World) (h : AR w w.heap.size v xs) :
    Calls Tryz.prog 21 #[v] w fun e w' => ∃ N A, e = .returned (tkF N A) ∧ Chg (fun _ => False) w w' ∧ w.heap.size ≤ A ∧ TK w' N A w.heap.size 0 v xs := by
  have hr := h
  obtain ⟨Ad, c, rfl, hl, ha⟩ := h
  go_enter Tryz.func21, Tryz.ntmps21
  go_wp2_with fail
  go_ret
  refine ⟨_, _, rfl, ((Chg.refl _ w).alloc _).alloc _, Nat.le_refl _, ⟨?_, ?_, ?_, by omega, by omega⟩⟩
  · have := World.alloc_heap_new (w.alloc (Obj.cells #[Value.slice Ad xs.length c] 22)) (Obj.cells #[.int .i64 0] 3)
    rwa [show (w.alloc (Obj.cells #[Value.slice Ad xs.length c] 22)).heap.size = w.heap.size + 1 by simp] at this
  · exact (Below.heap_alloc _ _ _ (by simp)).trans (World.alloc_heap_new w _)
  · exact hr.chg (((Chg.refl (fun _ => False) w).alloc _).alloc _) (Nat.le_refl _) (fun _ _ h => h)
def tkR (xs : List ByteArray) (i : Int) : ByteArray × Int := if (xs.length : Int) < i then (⟨#[]⟩, 8) else (xs.getD (i - 1).toNat ⟨#[]⟩, 0)
def tkI (n p : Int) : Int := if p = 0 then n + 1 else p
def tkN (n p : Int) : Int := if p = 0 then n + 1 else n
theorem TK.set {w : World} {N A base : Nat} {n n' : Int} {v : Value} {xs : List ByteArray} (h : TK w N A base n v xs) : TK (w.setCell ⟨N, 0, none⟩ (.int .i64 n')) N A base n' v xs := by
  have k : Chg (fun i => i = N) w (w.setCell ⟨N, 0, none⟩ (.int .i64 n')) := (Chg.refl _ w).setCell _ _ (.inl rfl)
  exact ⟨heap_setCell_same h.cnt, (k.block _ h.ltA (fun e => h.ne e.symm)).trans h.box, h.ar.chg k (by have := h.low; have := h.ltN; omega) (fun i hi e => by have := h.low; omega), h.ne, h.low⟩
theorem taken1_calls (N A base : Nat) (p : Int) (hp : 0 ≤ p) (hp2 : p ≤ 2000000) (n : Int) (h0 : 0 ≤ n) (h1 : n ≤ 1000000000) (v : Value) (xs : List ByteArray) (w : World) (h : TK w N A base n v xs) :
    Calls Tryz.prog 46 #[.int .i64 p, .pointer (some ⟨N, 0, none⟩), .pointer (some ⟨A, 0, none⟩)] w fun e w' => e = .returned (.tuple #[.string (tkR xs (tkI n p)).1, .int .i64 (tkR xs (tkI n p)).2]) ∧ TK w' N A base (tkN n p) v xs ∧ Chg (fun i => i = N) w w' := by
  have hT := h
  obtain ⟨h1c, h2c, ⟨Ad, c, rfl, hl, ha⟩, hne, hlow⟩ := h
  have c1 := cell_blk h1c
  have c2 := cell_blk h2c
  have f1 := blk_frozen h1c 0
  have c2' : (w.setCell ⟨N, 0, none⟩ (.int .i64 (n + 1))).cell? ⟨A, 0, none⟩ = some (.slice Ad xs.length c) := cell_blk (hT.set (n' := n + 1)).box
  have c1' : (w.setCell ⟨N, 0, none⟩ (.int .i64 (n + 1))).cell? ⟨N, 0, none⟩ = some (.int .i64 (n + 1)) := cell_blk (hT.set (n' := n + 1)).cnt
  have kS : Chg (fun i => i = N) w (w.setCell ⟨N, 0, none⟩ (.int .i64 (n + 1))) := (Chg.refl _ w).setCell _ _ (.inl rfl)
  have hwr : IntKind.i64.wrap (n + 1) = n + 1 := i64_small (by omega) (by omega)
  go_enter Tryz.func46, Tryz.ntmps46
  by_cases hz : p = 0
  · have HT := Lib.hid (show tkI n p = n + 1 ∧ tkN n p = n + 1 by unfold tkI tkN; simp [hz])
    subst hz
    have hT2 := hT.set (n' := n + 1)
    by_cases hgt : (xs.length : Int) < n + 1
    · have HE := Lib.hid (show tkR xs (n + 1) = (⟨#[]⟩, 8) by unfold tkR; rw [if_pos hgt])
      clear ha h1c h2c hT
      go_wp2_with fail
      go_ret2
      rw [HT.out.1, HT.out.2, HE.out]
      exact ⟨rfl, hT2, kS⟩
    · obtain ⟨ad, rfl, hab, hcell⟩ := ha (by omega)
      have HE := Lib.hid (show tkR xs (n + 1) = (xs.getD n.toNat ⟨#[]⟩, 0) by unfold tkR; rw [if_neg hgt, show n + 1 - 1 = n by omega])
      have g2 : (0 ≤ n) = True := by simpa using h0
      have hn : n.toNat < xs.length := by omega
      have g3 : (n < (xs.length : Int)) = True := by simp; omega
      have hc1 := hcell n.toNat (xs.getD n.toNat ⟨#[]⟩) (by rw [List.getD_eq_getElem?_getD, List.getElem?_eq_getElem hn]; rfl)
      have hblk : (ad.add n.toNat).block = ad.block := by unfold Addr.add; split <;> rfl
      have hc2 : (w.setCell ⟨N, 0, none⟩ (.int .i64 (n + 1))).cell? (ad.add n.toNat) = some (.string (xs.getD n.toNat ⟨#[]⟩)) :=
        cell_heap hc1 (by rw [hblk]; exact kS.block _ (by have := hT.ltN; omega) (by omega))
      have g4 : ((xs.length : Int) < n + 1) = False := by simpa using hgt
      generalize xs.getD n.toNat ⟨#[]⟩ = y at *
      clear ha h1c h2c hT hcell hc1 hblk
      go_wp2_with fail
      go_ret2
      rw [HT.out.1, HT.out.2, HE.out]
      exact ⟨rfl, hT2, kS⟩
  · obtain ⟨q, rfl⟩ : ∃ q, p = q + 1 := ⟨p - 1, by omega⟩
    have HT := Lib.hid (show tkI n (q + 1) = q + 1 ∧ tkN n (q + 1) = n by unfold tkI tkN; simp [hz])
    have g1 : (q + 1 == 0) = false := by simpa using hz
    by_cases hgt : (xs.length : Int) < q + 1
    · have HE := Lib.hid (show tkR xs (q + 1) = (⟨#[]⟩, 8) by unfold tkR; rw [if_pos hgt])
      clear ha h1c h2c
      go_wp2_with fail
      go_ret2
      rw [HT.out.1, HT.out.2, HE.out]
      exact ⟨rfl, hT, Chg.refl _ _⟩
    · obtain ⟨ad, rfl, hab, hcell⟩ := ha (by omega)
      have HE := Lib.hid (show tkR xs (q + 1) = (xs.getD q.toNat ⟨#[]⟩, 0) by unfold tkR; rw [if_neg hgt, show q + 1 - 1 = q by omega])
      have hq0 : 0 ≤ q := by omega
      have g2 : (0 ≤ q) = True := by simpa using hq0
      have hn : q.toNat < xs.length := by omega
      have g3 : (q < (xs.length : Int)) = True := by simp; omega
      have hc1 := hcell q.toNat (xs.getD q.toNat ⟨#[]⟩) (by rw [List.getD_eq_getElem?_getD, List.getElem?_eq_getElem hn]; rfl)
      have hwr2 : IntKind.i64.wrap q = q := i64_small (by omega) (by omega)
      have g4 : ((xs.length : Int) < q + 1) = False := by simpa using hgt
      generalize xs.getD q.toNat ⟨#[]⟩ = y at *
      clear ha h1c h2c hcell
      go_wp2_with fail
      go_ret2
      rw [HT.out.1, HT.out.2, HE.out]
      exact ⟨rfl, hT, Chg.refl _ _⟩
end Go.Proofs.YtemogjpgkcbaiaaGreatDoor.Sp
end
section
namespace Go.Proofs.YtemogjpgkcbaiaaGreatDoor.Sp
open Go.RowKit Go.Proofs.YtemogjpgkcbaiaaGreatDoorW.PrintWords Go.Proofs.YtemogjpgkcbaiaaGreatDoorW.PrintLast Go.Proofs.YtemogjpgkcbaiaaGreatDoorW.PrintMore
set_option linter.unusedVariables false
set_option linter.unusedSimpArgs false
set_option maxRecDepth 100000
def BB (w : World) (b base : Nat) (p v : Value) (s : ByteArray) : Prop :=
  w.heap[b]? = some (.cells #[p, v] 46 (0, 0)) ∧ (p = .pointer none ∨ p = .pointer (some ⟨b, 0, none⟩)) ∧ w.ownsRow base 5 1 v s.size (Lib.strCells s)
theorem BB.lt {w : World} {b base : Nat} {p v : Value} {s : ByteArray} (h : BB w b base p v s) : b < w.heap.size := (Array.getElem?_eq_some_iff.1 h.1).1
theorem BB.ne {w : World} {b base : Nat} {p v : Value} {s : ByteArray} (h : BB w b base p v s) : v.ownBlock ≠ some b := by
  intro e
  obtain ⟨cells, hc⟩ := own_typed h.2.2 b e
  rw [h.1] at hc
  injection hc with hc
  injection hc with _ hc
  exact absurd hc (by decide)
theorem size46 : ∃ j, Tryz.prog.info? 46 = some j ∧ j.size = 2 := by
  obtain ⟨j, hj, hjs⟩ := Option.map_eq_some_iff.1 (show (Tryz.prog.info? 46).map (·.size) = some 2 by kernel_rfl)
  exact ⟨j, hj, hjs⟩
theorem lies46 : liesAt Tryz.prog Tryz.prog.depth 46 (2 / Tryz.prog.cellsOf 46) 0 46 1 = true := by kernel_rfl
theorem copyCheck_calls (b base : Nat) (p v : Value) (s : ByteArray) (w : World) (h : BB w b base p v s) :
    Calls Tryz.prog 51 #[.pointer (some ⟨b, 0, none⟩)] w fun e w' => e = .returned (.tuple #[]) ∧ BB w' b base (.pointer (some ⟨b, 0, none⟩)) v s ∧ Chg (fun i => i = b) w w' := by
  have hne := h.ne
  obtain ⟨hb, hp, hr⟩ := h
  have c0 : w.cell? ⟨b, 0, none⟩ = some p := cell_of hb 0 rfl
  have f0 := blk_frozen hb 0
  have hsh : w.shape? b = some (46, 2) := by simp [World.shape?, hb]
  obtain ⟨j, hj, hjs⟩ := size46
  go_enter Tryz.func51, Tryz.ntmps51
  rcases hp with rfl | rfl
  · go_wp2_with fail
    rw [Lib.run_to_unsafe w ⟨b, 0, none⟩ Tryz.underlying43 Tryz.underlying126 hj (by rw [hjs]; decide) hsh (Nat.zero_lt_succ 1)]
    simp only [Result.andThen]
    rw [Oper.upon_value]
    go_wp2_with fail
    rw [run_callFunc_extern (show Tryz.prog.funcs[92]? = some Tryz.f92 from by kernel_rfl) (by kernel_rfl) (by kernel_rfl) (by kernel_rfl) (e := Extern.AbiNoEscape.same) (by kernel_rfl)]
    rw [Lib.run_noEscape]
    simp only [Result.andThen]
    rw [Oper.upon_value]
    go_wp2_with fail
    rw [Lib.run_from_unsafe w ⟨b, 0, none⟩ Tryz.underlying126 Tryz.underlying43 hj hsh lies46]
    simp only [Result.andThen]
    rw [Oper.upon_value]
    go_wp2_with fail
    go_end0
    refine ⟨rfl, ⟨heap_setCell_same hb, .inr rfl, ?_⟩, (Chg.refl _ w).setCell _ _ (.inl rfl)⟩
    exact own_move hr (fun i hi => Below.heap_setCell w ⟨b, 0, none⟩ _ i (fun e => hne (by rw [hi, e])))
  · go_wp2_with fail
    rw [Lib.run_neq_ptr_same w _ Tryz.underlying43 hj]
    go_wp2_with fail
    go_end0
    exact ⟨rfl, ⟨hb, .inr rfl, hr⟩, Chg.refl _ _⟩
theorem strCells_append (s t : ByteArray) : Lib.strCells (s ++ t) = Lib.strCells s ++ Lib.strCells t := by
  simp [Lib.strCells]
theorem strCells_len (s : ByteArray) : (Lib.strCells s).length = s.size := by simp [Lib.strCells]
theorem chg_row {a b : World} {r : Option Nat} (g : a.grownBy b r) : Chg (fun i => r = some i) a b :=
  ⟨g.os, g.tape, g.output, g.size, fun i hi hs => g.block i hi (fun e => hs e.symm)⟩
theorem own_slice {w : World} {base n : Nat} {v : Value} {xs : List Value} (h : w.ownsRow base 5 1 v n xs) : ∃ A c, v = .slice A n c := by
  rcases h.2 with ⟨hv, h0⟩ | ⟨g, cap, cur, hv, _⟩
  · exact ⟨none, 0, by rw [hv, h0]⟩
  · exact ⟨_, _, hv⟩
theorem BB.put {w1 w2 : World} {b base : Nat} {v v' : Value} {s t : ByteArray} (hbk2 : w2.heap[b]? = some (.cells #[.pointer (some ⟨b, 0, none⟩), v] 46 (0, 0))) (hown' : w2.ownsRow base 5 1 v' (s ++ t).size (Lib.strCells (s ++ t))) :
    BB (w2.setCell ⟨b, 1, none⟩ v') b base (.pointer (some ⟨b, 0, none⟩)) v' (s ++ t) := by
  have hne : v'.ownBlock ≠ some b := by
    intro e
    obtain ⟨cells, hc⟩ := own_typed hown' b e
    rw [hbk2] at hc
    injection hc with hc
    injection hc with _ hc
    exact absurd hc (by decide)
  exact ⟨heap_setCell_same hbk2, .inr rfl, own_move hown' (fun i hi => Below.heap_setCell w2 ⟨b, 1, none⟩ _ i (fun e => hne (by rw [hi, e])))⟩
theorem chg_put {w w1 w2 : World} {b : Nat} {v v' : Value} (k1 : Chg (fun i => i = b) w w1) (g : w1.grownBy w2 v.ownBlock) : Chg (fun i => i = b ∨ v.ownBlock = some i) w (w2.setCell ⟨b, 1, none⟩ v') :=
  ((k1.mono (fun _ h => Or.inl h)).trans ((chg_row g).mono (fun _ h => Or.inr h))).setCell _ _ (.inl (.inl rfl))
set_option maxHeartbeats 1000000 in
theorem WriteString_calls (b base : Nat) (p v : Value) (s t : ByteArray) (hs : s.size ≤ 1000000) (ht : t.size ≤ 1000000) (w : World) (h : BB w b base p v s) (hbase : base ≤ w.heap.size) :
    Calls Tryz.prog 23 #[.pointer (some ⟨b, 0, none⟩), .string t] w fun e w' => e = .returned (.tuple #[.int .i64 t.size, .nilIface]) ∧ ∃ v', BB w' b base (.pointer (some ⟨b, 0, none⟩)) v' (s ++ t) ∧ Chg (fun i => i = b ∨ v.ownBlock = some i) w w' := by
  obtain ⟨i0, hi, hzz⟩ := Option.map_eq_some_iff.1 (show (Tryz.prog.info? 5).map (fun i => (i.zero, i.size, i.bytes)) = some (some (.int .u8 0), 1, 1) by kernel_rfl)
  simp only [Prod.mk.injEq] at hzz
  obtain ⟨hz0, hz1, hz2⟩ := hzz
  have hlt := h.lt
  go_enter Tryz.func23, Tryz.ntmps23
  go_wp2_with (go_at_call 51; refine (copyCheck_calls b base p v s _ h).mono ?_)
  rintro e w1 ⟨rfl, h1, k1⟩
  have hne := h1.ne
  obtain ⟨hbk, _, hown⟩ := h1
  have c1 : w1.cell? ⟨b, 1, none⟩ = some v := cell_of hbk 1 rfl
  have hsz1 := k1.size
  go_wp2_with (at_builtin; refine Lib.wpList_append_own_string _ rfl _ _ 44 9 rfl base 5 i0 Tryz.underlying44 Tryz.underlying9 hi hz0 hz1 hz2 _ s.size (Lib.strCells s) rfl hown _ rfl (by unfold maxLen; omega) (by omega) (by omega) ?_)
  intro v' w2 hown' hgrow _
  have hbk2 : w2.heap[b]? = some (.cells #[.pointer (some ⟨b, 0, none⟩), v] 46 (0, 0)) := (hgrow.block b (by omega) (fun e => hne e.symm)).trans hbk
  have c1' : w2.cell? ⟨b, 1, none⟩ = some v := cell_of hbk2 1 rfl
  have f1 := blk_frozen hbk2 1
  have hown2 : w2.ownsRow base 5 1 v' (s ++ t).size (Lib.strCells (s ++ t)) := by rw [ByteArray.size_append, strCells_append]; exact hown'
  obtain ⟨A', c', hv'⟩ := own_slice hown'
  have kk := chg_put (v' := v') k1 hgrow
  have hB := BB.put (w1 := w1) hbk2 hown2
  subst hv'
  clear hown hown' hown2 hgrow hbk hbk2 k1 h
  go_wp2_with fail
  go_ret2
  exact ⟨rfl, _, hB, kk⟩
set_option maxHeartbeats 1000000 in
theorem WriteByte_calls (b base : Nat) (p v : Value) (s : ByteArray) (c : UInt8) (hs : s.size ≤ 1000000) (w : World) (h : BB w b base p v s) (hbase : base ≤ w.heap.size) :
    Calls Tryz.prog 24 #[.pointer (some ⟨b, 0, none⟩), .int .u8 c.toNat] w fun e w' => e = .returned .nilIface ∧ ∃ v', BB w' b base (.pointer (some ⟨b, 0, none⟩)) v' (s ++ ⟨#[c]⟩) ∧ Chg (fun i => i = b ∨ v.ownBlock = some i) w w' := by
  obtain ⟨i0, hi, hzz⟩ := Option.map_eq_some_iff.1 (show (Tryz.prog.info? 5).map (fun i => (i.zero, i.size, i.bytes)) = some (some (.int .u8 0), 1, 1) by kernel_rfl)
  simp only [Prod.mk.injEq] at hzz
  obtain ⟨hz0, hz1, hz2⟩ := hzz
  have hlt := h.lt
  go_enter Tryz.func24, Tryz.ntmps24
  go_wp2_with (go_at_call 51; refine (copyCheck_calls b base p v s _ h).mono ?_)
  rintro e w1 ⟨rfl, h1, k1⟩
  have hne := h1.ne
  obtain ⟨hbk, _, hown⟩ := h1
  have c1 : w1.cell? ⟨b, 1, none⟩ = some v := cell_of hbk 1 rfl
  have hsz1 := k1.size
  go_wp2_with (at_builtin; refine wpList_append_own _ rfl _ _ 44 rfl base 5 i0 (.int .u8 0) 1 1 Tryz.underlying44 hi hz0 hz1 hz2 rfl (by decide) _ _ _ rfl (hown.alloc _) ⟨w1.heap.size, 0, none⟩ 1 1 [.int .u8 c.toNat] rfl rfl ?c1 ?c2 ?c3 ?c4 ?c5 ?_)
  case c1 =>
    intro j u hj
    match j, hj with
    | 0, hj => simp at hj; subst hj; simp [Addr.add]
  case c2 => intro u hu; simp at hu; subst hu; rfl
  case c3 => unfold maxLen; omega
  case c4 => omega
  case c5 => have := hsz1; simp; omega
  intro v' w2 hown' hgrow _
  have hsw : (w1.alloc (Obj.cells #[Value.int IntKind.u8 c.toNat] 5)).heap.size = w1.heap.size + 1 := by simp
  have hbka : (w1.alloc (Obj.cells #[Value.int IntKind.u8 c.toNat] 5)).heap[b]? = some (.cells #[.pointer (some ⟨b, 0, none⟩), v] 46 (0, 0)) := (Below.heap_alloc _ _ _ (by omega)).trans hbk
  have k1a := k1.alloc (Obj.cells #[Value.int IntKind.u8 c.toNat] 5)
  generalize w1.alloc (Obj.cells #[Value.int IntKind.u8 c.toNat] 5) = wa at *
  have hbk2 : w2.heap[b]? = some (.cells #[.pointer (some ⟨b, 0, none⟩), v] 46 (0, 0)) := (hgrow.block b (by omega) (fun e => hne e.symm)).trans hbka
  have c1' : w2.cell? ⟨b, 1, none⟩ = some v := cell_of hbk2 1 rfl
  have f1 := blk_frozen hbk2 1
  have hown2 : w2.ownsRow base 5 1 v' (s ++ ⟨#[c]⟩).size (Lib.strCells (s ++ ⟨#[c]⟩)) := by rw [ByteArray.size_append, strCells_append]; exact hown'
  obtain ⟨A', c', hv'⟩ := own_slice hown'
  have kk := chg_put (v' := v') k1a hgrow
  have hB := BB.put (w1 := wa) hbk2 hown2
  subst hv'
  clear hown hown' hown2 hgrow hbk hbk2 k1 h hbka k1a
  go_wp2_with fail
  go_ret
  exact ⟨rfl, _, hB, kk⟩
end Go.Proofs.YtemogjpgkcbaiaaGreatDoor.Sp
end
section
namespace Go.Proofs.YtemogjpgkcbaiaaGreatDoor.Sp
open Go.RowKit Go.Proofs.YtemogjpgkcbaiaaGreatDoorW.PrintWords Go.Proofs.YtemogjpgkcbaiaaGreatDoorW.PrintLast Go.Proofs.YtemogjpgkcbaiaaGreatDoorW.PrintMore
set_option linter.unusedVariables false
set_option linter.unusedSimpArgs false
set_option maxRecDepth 100000
attribute [local go_sem] max2_int min2_int max_two min_two max_three min_three max_four min_four
def setW (cv : Cv) (n : Int) : Cv := if n < 0 then { cv with width := -n, flags := cv.flags ++ ⟨#[45]⟩ } else { cv with width := n }
def setP (cv : Cv) (n : Int) : Cv := { cv with prec := max n (-1) }
theorem setW_calls (C : Nat) (cv : Cv) (n : Int) (h0 : -1000 ≤ n) (h1 : n ≤ 1000) (hf : cv.flags.size ≤ 1000000) (w : World) (h : CV w C cv) :
    Calls Tryz.prog 52 #[.int .i64 n, .pointer (some ⟨C, 0, none⟩)] w fun e w' => e = .returned (.tuple #[]) ∧ CV w' C (setW cv n) ∧ Chg (fun i => i = C) w w' := by
  have f4 := blk_frozen h 4
  have c4 := h.c4
  have hA : CV (w.setCell ⟨C, 4, none⟩ (.int .i64 n)) C { cv with width := n } := h.set4
  have kA : Chg (fun i => i = C) w (w.setCell ⟨C, 4, none⟩ (.int .i64 n)) := (Chg.refl _ w).setCell _ _ (.inl rfl)
  go_enter Tryz.func52, Tryz.ntmps52
  go_upto_region 1 with fail
  generalize w.setCell ⟨C, 4, none⟩ (.int .i64 n) = w1 at *
  have c4' := hA.c4
  have f4' := blk_frozen hA 4
  have hwr : IntKind.i64.wrap (-n) = -n := i64_small (by omega) (by omega)
  by_cases hn : n < 0
  · have hB : CV (w1.setCell ⟨C, 4, none⟩ (.int .i64 (-n))) C { cv with width := -n } := hA.set4
    have kB := kA.setCell ⟨C, 4, none⟩ (.int .i64 (-n)) (.inl rfl)
    have HE := Lib.hid (show setW cv n = { cv with width := -n, flags := cv.flags ++ ⟨#[45]⟩ } by unfold setW; rw [if_pos hn])
    go_upto_region 3 with fail
    generalize w1.setCell ⟨C, 4, none⟩ (.int .i64 (-n)) = w2 at *
    have c3 : w2.cell? ⟨C, 3, none⟩ = some (.string cv.flags) := hB.c3
    have f3 := blk_frozen hB 3
    have hsz : cv.flags.size + (⟨#[45]⟩ : ByteArray).size ≤ 9223372036854775807 := by show cv.flags.size + 1 ≤ _; omega
    have hD : CV (w2.setCell ⟨C, 3, none⟩ (.string (cv.flags ++ ⟨#[45]⟩))) C { cv with width := -n, flags := cv.flags ++ ⟨#[45]⟩ } := hB.set3
    have kD := kB.setCell ⟨C, 3, none⟩ (.string (cv.flags ++ ⟨#[45]⟩)) (.inl rfl)
    go_wp2_with fail
    go_end0
    rw [HE.out]
    exact ⟨rfl, hD, kD⟩
  · have HE := Lib.hid (show setW cv n = { cv with width := n } by unfold setW; rw [if_neg hn])
    go_wp2_with fail
    go_end0
    rw [HE.out]
    exact ⟨rfl, hA, kA⟩
theorem setP_calls (C : Nat) (cv : Cv) (n : Int) (w : World) (h : CV w C cv) :
    Calls Tryz.prog 53 #[.int .i64 n, .pointer (some ⟨C, 0, none⟩)] w fun e w' => e = .returned (.tuple #[]) ∧ CV w' C (setP cv n) ∧ Chg (fun i => i = C) w w' := by
  have f5 := blk_frozen h 5
  have c5 := h.c5
  have hA : CV (w.setCell ⟨C, 5, none⟩ (.int .i64 (max n (-1)))) C (setP cv n) := h.set5
  have kA : Chg (fun i => i = C) w (w.setCell ⟨C, 5, none⟩ (.int .i64 (max n (-1)))) := (Chg.refl _ w).setCell _ _ (.inl rfl)
  go_enter Tryz.func53, Tryz.ntmps53
  go_wp2_with fail
  · rw [show max n (-1) = -1 by omega] at hA kA
    go_end0
    exact ⟨rfl, hA, kA⟩
  · rw [show max n (-1) = n by omega] at hA kA
    go_end0
    exact ⟨rfl, hA, kA⟩
theorem cells_len (c : Cv) : c.cells.length = 11 := rfl
theorem CV.range {w : World} {C : Nat} {c : Cv} (h : CV w C c) : w.rangeAt C 0 c.cells := fun j v hj => by
  rw [Nat.zero_add]
  unfold World.cell?
  have h2 : w.heap[C]? = some (.cells c.cells.toArray 51 (0, 0)) := h
  simp [h2, hj]
theorem CV.there_ {w : World} {C : Nat} {c : Cv} (h : CV w C c) (c' : Cv) : w.there C 0 c'.cells.toArray.size := fun j hj => by
  have hj11 : j < 11 := hj
  rw [Nat.zero_add]
  have h2 : w.heap[C]? = some (.cells c.cells.toArray 51 (0, 0)) := h
  refine ⟨?_, blk_frozen h2 j⟩
  unfold World.cell?
  have : (c.cells)[j]?.isSome = true := by rw [List.getElem?_eq_getElem (by rw [cells_len]; exact hj11)]; rfl
  simpa [h2] using this
theorem CV.setAll {w : World} {C : Nat} {c : Cv} (h : CV w C c) (c' : Cv) : CV (w.setCells C 0 c'.cells.toArray.toList) C c' := by
  have h2 : w.heap[C]? = some (.cells c.cells.toArray 51 (0, 0)) := h
  obtain ⟨cur', h3, h4, h5⟩ := setCells_row c'.cells.toArray.toList 0 w _ h2 (by show 0 + 11 ≤ 11; omega)
  have : cur' = c'.cells.toArray := by
    apply Array.toList_inj.1
    rw [h5]
    show [] ++ c'.cells ++ List.drop 11 c.cells = c'.cells
    simp [List.drop_eq_nil_of_le, cells_len]
  rw [this] at h3
  exact h3
theorem Chg.setCells {S : Nat → Prop} {a b : World} (h : Chg S a b) (C : Nat) (o : Nat) (vs : List Value) (hp : S C ∨ a.heap.size ≤ C) : Chg S a (b.setCells C o vs) := by
  obtain ⟨h1, h2, h3, h4⟩ := setCells_same C vs o b
  exact ⟨h1.trans h.os, h2.trans h.tape, h3.trans h.output, by rw [h4]; exact h.size, fun i hi hs =>
    (setCells_far vs o i (fun e => hp.elim (fun hh => hs (e ▸ hh)) (fun hh => by omega))).trans (h.block i hi hs)⟩
theorem results_cell_tmp {fn : Func} {p t : Tmp} {ty : TypeId} (h : fn.results = #[.cell p ty, .tmp t]) (tmps : Array Value) (w : World) (g : Nat) (t' : TypeId) (cs : Array Value) (fr : Nat × Nat) (d : TypeDesc)
    (hp : tmps.getD p undef = .pointer (some ⟨g, 0, none⟩)) (hg : w.heap[g]? = some (.cells cs t' fr))
    (hd : (match d with | .struct _ | .array _ _ => true | _ => false) = true) (hu : Tryz.prog.underlying ty = some d) (hi : (Tryz.prog.info? ty).map (·.size) = some cs.size) :
    (results fn tmps).run Tryz.prog w = .ok (.tuple #[.agg cs, tmps.getD t undef]) w := by
  have hp' : tmps[p]?.getD undef = .pointer (some ⟨g, 0, none⟩) := by simpa using hp
  cases d with
  | struct fs => simp [results, h, hp', asAddr, run_loadVar_row w g t' ty cs fr _ hg hu rfl hi]
  | array n e => simp [results, h, hp', asAddr, run_loadVar_row w g t' ty cs fr _ hg hu rfl hi]
  | _ => cases hd
theorem index100_0 (a b c d : Value) (W : World) : (Instr.index 100 (.agg #[a, b, c, d]) (.int .i64 0)).run Tryz.prog W = .ok (.agg #[a, b]) W := by kernel_rfl
theorem index100_1 (a b c d : Value) (W : World) : (Instr.index 100 (.agg #[a, b, c, d]) (.int .i64 1)).run Tryz.prog W = .ok (.agg #[c, d]) W := by kernel_rfl
def fl1 (set : Cv → Int → Cv) (ask : Bool) (xs : List ByteArray) (cv : Cv) (n : Int) : Cv × Int × Int :=
  if ask = false then (cv, n, 0)
  else if (tkR xs (n + 1)).2 ≠ 0 then (cv, n + 1, (tkR xs (n + 1)).2)
  else if (bndRes (tkR xs (n + 1)).1).2 ≠ 0 then (cv, n + 1, (bndRes (tkR xs (n + 1)).1).2)
  else (set cv (bndRes (tkR xs (n + 1)).1).1, n + 1, 0)
def flR (xs : List ByteArray) (cv : Cv) (n : Int) : Cv × Int × Int :=
  if (fl1 setW cv.wide xs cv n).2.2 ≠ 0 then fl1 setW cv.wide xs cv n
  else fl1 setP cv.precise xs (fl1 setW cv.wide xs cv n).1 (fl1 setW cv.wide xs cv n).2.1
theorem tkR_size {xs : List ByteArray} (hx : ∀ x ∈ xs, x.size ≤ 100000) (i : Int) : (tkR xs i).1.size ≤ 100000 := by
  unfold tkR
  split
  · show (0 : Nat) ≤ _; omega
  · rw [List.getD_eq_getElem?_getD]
    cases h : xs[(i - 1).toNat]? with
    | none => show (0 : Nat) ≤ _; omega
    | some x => exact hx x (List.mem_of_getElem? h)
theorem tkR_code (xs : List ByteArray) (i : Int) : (tkR xs i).2 = 0 ∨ (tkR xs i).2 = 8 := by
  unfold tkR
  split
  · exact .inr rfl
  · exact .inl rfl
theorem bndRes_code (s : ByteArray) : (bndRes s).2 = 0 ∨ (bndRes s).2 = 7 ∨ (bndRes s).2 = 11 := by
  unfold bndRes
  split
  · exact .inr (.inr rfl)
  · split
    · exact .inr (.inl rfl)
    · exact .inl rfl
theorem bndRes_range (s : ByteArray) : -999 ≤ (bndRes s).1 ∧ (bndRes s).1 ≤ 999 := by
  unfold bndRes
  split
  · exact ⟨by decide, by decide⟩
  · split
    · exact ⟨by decide, by decide⟩
    · omega
theorem fl1_ask {set : Cv → Int → Cv} {xs : List ByteArray} {c : Cv} {m : Int} {a b : ByteArray} {ask : Bool} (ha : true = ask) (e be n : Int) (h1 : tkR xs (m + 1) = (a, e)) (h2 : bndRes a = (n, be)) :
    fl1 set ask xs c m = if e ≠ 0 then (c, m + 1, e) else if be ≠ 0 then (c, m + 1, be) else (set c n, m + 1, 0) := by
  unfold fl1
  rw [h1, if_neg (by rw [← ha]; simp)]
  simp only [h2]
set_option maxHeartbeats 2000000 in
theorem filled_calls (cv : Cv) (hf : cv.flags.size ≤ 1000000) (N A base : Nat) (n : Int) (h0 : 0 ≤ n) (h1 : n ≤ 100000000) (v : Value) (xs : List ByteArray) (hx : ∀ x ∈ xs, x.size ≤ 100000) (w : World) (h : TK w N A base n v xs) :
    Calls Tryz.prog 25 #[.agg cv.cells.toArray, tkF N A] w fun e w' => e = .returned (.tuple #[.agg (flR xs cv n).1.cells.toArray, .int .i64 (flR xs cv n).2.2]) ∧ TK w' N A base (flR xs cv n).2.1 v xs ∧ Chg (fun i => i = N) w w' := by
  have hmf : ∀ (fn : Fn) (first cap : Array Value) (w : World), (Instr.makeFunc fn first cap).run Tryz.prog w = .ok (.func fn first cap) w := fun _ _ _ _ => rfl
  go_enter Tryz.func25, Tryz.ntmps25
  simp only [Cv.cells]
  simp only [tkF]
  go_upto_region 1 with fail
  obtain ⟨cz, hcz⟩ : ∃ cz : Cv, cz = ⟨0, ⟨#[]⟩, 0, ⟨#[]⟩, 0, 0, false, false, 0, false, ⟨#[]⟩⟩ := ⟨_, rfl⟩
  obtain ⟨W1, hW1⟩ : ∃ W1, W1 = (w.alloc (Obj.cells cv.cells.toArray 51)).alloc (Obj.cells cz.cells.toArray 51) := ⟨_, rfl⟩
  obtain ⟨C, hC⟩ : ∃ C, C = w.heap.size := ⟨_, rfl⟩
  have hCV : CV W1 C cv := by rw [hW1, hC]; exact (Below.heap_alloc _ _ _ (by simp)).trans (World.alloc_heap_new w _)
  obtain ⟨R, hR⟩ : ∃ R, R = w.heap.size + 1 := ⟨_, rfl⟩
  have hRV : CV W1 R cz := by
    rw [hW1, hR]
    have := World.alloc_heap_new (w.alloc (Obj.cells cv.cells.toArray 51)) (Obj.cells cz.cells.toArray 51)
    rwa [show (w.alloc (Obj.cells cv.cells.toArray 51)).heap.size = w.heap.size + 1 by simp] at this
  have k1 : Chg (fun i => i = N) w W1 := by rw [hW1]; exact ((Chg.refl _ w).alloc _).alloc _
  have hT1 : TK W1 N A base n v xs := h.chg ((((Chg.refl (fun _ => False) w).alloc _).alloc _ : Chg (fun _ => False) w _)) (fun h => h) (fun h => h) (fun _ _ h => h) |> (fun t => by rw [hW1]; exact t)
  have hCw : w.heap.size ≤ C := by omega
  have hRw : w.heap.size ≤ R := by omega
  have hNC : N ≠ C := by have := h.ltN; omega
  have hNR : N ≠ R := by have := h.ltN; omega
  have hAC : A ≠ C := by have := h.ltA; omega
  have hAR : A ≠ R := by have := h.ltA; omega
  have hbC : base ≤ C := by have := h.ltN; have := h.low; omega
  have hbR : base ≤ R := by have := h.ltN; have := h.low; omega
  have hCR : C ≠ R := by omega
  rw [hcz] at hW1
  simp only [Cv.cells] at hW1
  rw [← hC] at hR
  rw [← hW1, ← hC, ← hR]
  clear hW1 hC hR hcz
  have c6 := hCV.c6
  have c7 := hCV.c7
  obtain ⟨wi, hwi⟩ : ∃ wi, wi = cv.wide := ⟨_, rfl⟩
  obtain ⟨pr, hpr⟩ : ∃ pr, pr = cv.precise := ⟨_, rfl⟩
  rw [← hwi] at c6 ⊢
  rw [← hpr] at c7 ⊢
  have HWI := Lib.hid hwi
  have HPR := Lib.hid hpr
  clear hwi hpr
  have htake := fun (m : Int) (h0 : 0 ≤ m) (h1 : m ≤ 1000000000) W (hT : TK W N A base m v xs) => taken1_calls N A base 0 (by omega) (by omega) m h0 h1 v xs W hT
  have hi11 : (Tryz.prog.info? 51).map (·.size) = some 11 := by kernel_rfl
  have hone : ∀ c' : Cv, c'.cells.toArray.all (·.oneCell') = true := fun c' => by rw [List.all_toArray]; rfl
  have HF := Lib.hid (show ∀ x : Int, (flR xs cv n) = if (fl1 setW cv.wide xs cv n).2.2 ≠ 0 then fl1 setW cv.wide xs cv n else fl1 setP cv.precise xs (fl1 setW cv.wide xs cv n).1 (fl1 setW cv.wide xs cv n).2.1 from fun _ => rfl)
  go_wp2_with fail
  go_loopg [20] 2 (fun gk v20 wr => ∃ c m z, v20 = .int .i64 (2 - gk) ∧ gk ≤ 2 ∧ (n ≤ m ∧ m + gk ≤ n + 2) ∧ CV wr C c ∧ CV wr R z ∧ TK wr N A base m v xs ∧ Chg (fun i => i = N) w wr ∧ (gk = 2 → c = cv ∧ m = n) ∧ (gk = 1 → (fl1 setW cv.wide xs cv n) = (c, m, 0)) ∧ (gk = 0 → flR xs cv n = (c, m, 0)))
  case atStart => exact ⟨cv, n, cz, rfl, Nat.le_refl _, ⟨Int.le_refl _, by simp⟩, hCV, hRV, hT1, k1, fun _ => ⟨rfl, rfl⟩, fun e => absurd e (by decide), fun e => absurd e (by decide)⟩
  case round =>
    obtain ⟨c, m, z, rfl, hg, ⟨hm0, hm1⟩, hC, hR, hT, kT, i2, i1, i0⟩ := hrel
    clear hCV hRV hT1 k1 c6 c7
    have hload := fun (W : World) (h : CV W C c) => h.range
    rcases (show gk = 0 ∨ gk = 1 ∨ gk = 2 by omega) with rfl | rfl | rfl
    · have HE := Lib.hid (i0 rfl)
      clear i0 i1 i2
      have e : (2 - ((0 : Nat) : Int)) = 2 := rfl
      rw [e]
      go_wp2_with (first | (refine wpList_load_mid rfl 51 _ rfl C 0 rfl c.cells _ hC.range Tryz.underlying51 rfl hi11 ?_) | (refine wpList_store_mid rfl 51 _ _ rfl R 0 c.cells.toArray rfl rfl (hR.there_ c) hi11 (hone c) ?_))
      have k0 : Chg (fun i => i = R) wr (wr.setCells R 0 c.cells) := (Chg.refl _ wr).setCells R 0 _ (.inl rfl)
      (try simp only [Exit.inBlock, Exit.then])
      refine bodyPost_ret (results_cell_tmp rfl _ _ R 51 c.cells.toArray (0, 0) _ rfl (hR.setAll c) rfl Tryz.underlying51 hi11) rfl ?_
      rw [HE.out]
      exact ⟨rfl, hT.chg k0 hNR hAR (fun i hi e => by omega), kT.setCells R 0 _ (.inr hRw)⟩
    · have he := i1 rfl
      clear i0 i1 i2
      have e : (2 - ((1 : Nat) : Int)) = 1 := rfl
      rw [e]
      have hix := index100_1
      have HFIN1 : ∀ {r : Cv × Int × Int}, fl1 setP cv.precise xs c m = r → flR xs cv n = r := fun h => by rw [HF.out 0, he]; exact h
      clear he
      have hsf := fun (W : World) (a : Addr) (f : Fn) (x y : Array Value) => run_store Tryz.prog W a (.func f x y) .plain rfl
      cases pr
      · go_wp2_with fail
        go_roundg 0
        case measure => omega
        case rel =>
          have k0 : Chg (fun _ => False) wr (wr.alloc (Obj.cells #[.bool false, .func (.func 53) #[] #[.pointer (some ⟨C, 0, none⟩)]] 99)) := (Chg.refl _ wr).alloc _
          refine ⟨c, m, z, rfl, by omega, ⟨hm0, by omega⟩, hC.chg k0 (fun h => h), hR.chg k0 (fun h => h), hT.chg k0 (fun h => h) (fun h => h) (fun _ _ h => h), kT.alloc _, by simp, by simp, fun _ => HFIN1 (by unfold fl1; rw [if_pos HPR.out.symm])⟩
      · go_wp2_with fail
        obtain ⟨wx, hwx⟩ : ∃ wx, wx = wr.alloc (Obj.cells #[.bool true, .func (.func 53) #[] #[.pointer (some ⟨C, 0, none⟩)]] 99) := ⟨_, rfl⟩
        have k0 : Chg (fun _ => False) wr wx := by rw [hwx]; exact (Chg.refl _ wr).alloc _
        have hX : wx.heap[wr.heap.size]? = some (.cells #[.bool true, .func (.func 53) #[] #[.pointer (some ⟨C, 0, none⟩)]] 99 (0, 0)) := by rw [hwx]; exact World.alloc_heap_new wr _
        rw [← hwx]
        clear hwx
        have hNX : wr.heap.size ≠ N := by have := hT.ltN; omega
        have hCX : wr.heap.size ≠ C := by have := hC.lt; omega
        generalize wr.heap.size = X at *
        rcases htk : tkR xs (m + 1) with ⟨a, er⟩
        rcases hbd : bndRes a with ⟨nb, be⟩
        have hfl := fl1_ask (set := setP) (c := c) (b := a) HPR.out er be nb htk hbd
        have hbr := bndRes_range a
        have hbc := bndRes_code a
        have hec := tkR_code xs (m + 1)
        have has := tkR_size hx (m + 1)
        have hbcall := fun W => bounded_calls a (by rw [htk] at has; exact has) W
        rw [hbd] at hbr hbc hbcall
        rw [htk] at hec
        simp only at hbr hbc hec hbcall
        have hCx := hC.chg k0 (fun h => h)
        have hRx := hR.chg k0 (fun h => h)
        have hTx := hT.chg k0 (fun h => h) (fun h => h) (fun _ _ h => h)
        have hkx := kT.trans (k0.mono (fun _ h => h.elim))
        have htcall := htake m (by omega) (by omega) wx hTx
        rw [show tkI m 0 = m + 1 from rfl, show tkN m 0 = m + 1 from rfl, htk] at htcall
        have HFL := Lib.hid hfl
        have HBC := Lib.hid hbcall
        clear hfl hbcall has htk hbd hC hR hT kT htake k0
        refine htcall.mono ?_
        rintro e w2 ⟨rfl, hT2, k2⟩
        have hC2 := hCx.chg k2 (fun h => hNC h.symm)
        have hR2 := hRx.chg k2 (fun h => hNR h.symm)
        have hX2 := (k2.block X (Array.getElem?_eq_some_iff.1 hX).1 hNX).trans hX
        have hk2 := hkx.trans k2
        clear hCx hRx hTx hkx htcall hX k2
        rcases hec with rfl | rfl
        · go_wp2_with fail
          refine (HBC.out _).mono ?_
          rintro e w3 ⟨rfl, k3⟩
          have hC3 := hC2.chg k3 (fun h => h)
          have hR3 := hR2.chg k3 (fun h => h)
          have hT3 := hT2.chg k3 (fun h => h) (fun h => h) (fun _ _ h => h)
          have hX3 := (k3.block X (Array.getElem?_eq_some_iff.1 hX2).1 (fun h => h)).trans hX2
          have hk3 := hk2.trans (k3.mono (fun _ h => h.elim))
          clear hC2 hR2 hT2 hX2 hk2 k3
          rcases hbc with rfl | rfl | rfl
          · have x1 : w3.cell? ⟨X, 1, none⟩ = some (.func (.func 53) #[] #[.pointer (some ⟨C, 0, none⟩)]) := cell_of hX3 1 rfl
            go_wp2_with fail
            refine (setP_calls C c nb w3 hC3).mono ?_
            rintro e w4 ⟨rfl, hC4, k4⟩
            have hR4 := hR3.chg k4 (fun h => hCR h.symm)
            have hT4 := hT3.chg k4 hNC hAC (fun i hi e => by omega)
            have hk4 : Chg (fun i => i = N) w w4 := hk3.trans' k4 (fun i hi => .inr (by rw [hi]; exact hCw))
            go_wp2_with fail
            go_roundg 0
            case measure => omega
            case rel =>
              have hfe := HFL.out
              simp only [ne_eq, not_true_eq_false, if_false] at hfe
              refine ⟨setP c nb, m + 1, z, rfl, by omega, ⟨by omega, by omega⟩, hC4, hR4, hT4, hk4, by simp, by simp, fun _ => HFIN1 hfe⟩
          · go_wp2_with (first | (refine wpList_load_mid rfl 51 _ rfl C 0 rfl c.cells _ hC3.range Tryz.underlying51 rfl hi11 ?_) | (refine wpList_store_mid rfl 51 _ _ rfl R 0 c.cells.toArray rfl rfl (hR3.there_ c) hi11 (hone c) ?_))
            have k0 : Chg (fun i => i = R) w3 (w3.setCells R 0 c.cells) := (Chg.refl _ w3).setCells R 0 _ (.inl rfl)
            (try simp only [Exit.inBlock, Exit.then])
            refine bodyPost_ret (results_cell_tmp rfl _ _ R 51 c.cells.toArray (0, 0) _ rfl (hR3.setAll c) rfl Tryz.underlying51 hi11) rfl ?_
            have hfe := HFL.out
            rw [if_neg (by decide), if_pos (by decide)] at hfe
            rw [HFIN1 hfe]
            exact ⟨rfl, hT3.chg k0 hNR hAR (fun i hi e => by omega), hk3.setCells R 0 _ (.inr hRw)⟩
          · go_wp2_with (first | (refine wpList_load_mid rfl 51 _ rfl C 0 rfl c.cells _ hC3.range Tryz.underlying51 rfl hi11 ?_) | (refine wpList_store_mid rfl 51 _ _ rfl R 0 c.cells.toArray rfl rfl (hR3.there_ c) hi11 (hone c) ?_))
            have k0 : Chg (fun i => i = R) w3 (w3.setCells R 0 c.cells) := (Chg.refl _ w3).setCells R 0 _ (.inl rfl)
            (try simp only [Exit.inBlock, Exit.then])
            refine bodyPost_ret (results_cell_tmp rfl _ _ R 51 c.cells.toArray (0, 0) _ rfl (hR3.setAll c) rfl Tryz.underlying51 hi11) rfl ?_
            have hfe := HFL.out
            rw [if_neg (by decide), if_pos (by decide)] at hfe
            rw [HFIN1 hfe]
            exact ⟨rfl, hT3.chg k0 hNR hAR (fun i hi e => by omega), hk3.setCells R 0 _ (.inr hRw)⟩
        · have hC3 := hC2
          have hR3 := hR2
          go_wp2_with (first | (refine wpList_load_mid rfl 51 _ rfl C 0 rfl c.cells _ hC3.range Tryz.underlying51 rfl hi11 ?_) | (refine wpList_store_mid rfl 51 _ _ rfl R 0 c.cells.toArray rfl rfl (hR3.there_ c) hi11 (hone c) ?_))
          have k0 : Chg (fun i => i = R) w2 (w2.setCells R 0 c.cells) := (Chg.refl _ w2).setCells R 0 _ (.inl rfl)
          (try simp only [Exit.inBlock, Exit.then])
          refine bodyPost_ret (results_cell_tmp rfl _ _ R 51 c.cells.toArray (0, 0) _ rfl (hR2.setAll c) rfl Tryz.underlying51 hi11) rfl ?_
          have hfe := HFL.out
          rw [if_pos (by decide)] at hfe
          rw [HFIN1 hfe]
          exact ⟨rfl, hT2.chg k0 hNR hAR (fun i hi e => by omega), hk2.setCells R 0 _ (.inr hRw)⟩
    · obtain ⟨rfl, rfl⟩ := i2 rfl
      clear i0 i1 i2
      have e : (2 - ((2 : Nat) : Int)) = 0 := rfl
      rw [e]
      have hix := index100_0
      have HFS := Lib.hid hf
      have HFIN2 : ∀ {c' : Cv} {m' e' : Int}, fl1 setW c.wide xs c m = (c', m', e') → e' ≠ 0 → flR xs c m = (c', m', e') := fun h he => by rw [HF.out 0, h, if_pos he]
      have hsf := fun (W : World) (a : Addr) (f : Fn) (x y : Array Value) => run_store Tryz.prog W a (.func f x y) .plain rfl
      cases wi
      · go_wp2_with fail
        go_roundg 1
        case measure => omega
        case rel =>
          have k0 : Chg (fun _ => False) wr (wr.alloc (Obj.cells #[.bool false, .func (.func 52) #[] #[.pointer (some ⟨C, 0, none⟩)]] 99)) := (Chg.refl _ wr).alloc _
          refine ⟨c, m, z, rfl, by omega, ⟨hm0, by omega⟩, hC.chg k0 (fun h => h), hR.chg k0 (fun h => h), hT.chg k0 (fun h => h) (fun h => h) (fun _ _ h => h), kT.alloc _, by simp, fun _ => (by unfold fl1; rw [if_pos HWI.out.symm]), by simp⟩
      · go_wp2_with fail
        obtain ⟨wx, hwx⟩ : ∃ wx, wx = wr.alloc (Obj.cells #[.bool true, .func (.func 52) #[] #[.pointer (some ⟨C, 0, none⟩)]] 99) := ⟨_, rfl⟩
        have k0 : Chg (fun _ => False) wr wx := by rw [hwx]; exact (Chg.refl _ wr).alloc _
        have hX : wx.heap[wr.heap.size]? = some (.cells #[.bool true, .func (.func 52) #[] #[.pointer (some ⟨C, 0, none⟩)]] 99 (0, 0)) := by rw [hwx]; exact World.alloc_heap_new wr _
        rw [← hwx]
        clear hwx
        have hNX : wr.heap.size ≠ N := by have := hT.ltN; omega
        have hCX : wr.heap.size ≠ C := by have := hC.lt; omega
        generalize wr.heap.size = X at *
        rcases htk : tkR xs (m + 1) with ⟨a, er⟩
        rcases hbd : bndRes a with ⟨nb, be⟩
        have hfl := fl1_ask (set := setW) (c := c) (b := a) HWI.out er be nb htk hbd
        have hbr := bndRes_range a
        have hbc := bndRes_code a
        have hec := tkR_code xs (m + 1)
        have has := tkR_size hx (m + 1)
        have hbcall := fun W => bounded_calls a (by rw [htk] at has; exact has) W
        rw [hbd] at hbr hbc hbcall
        rw [htk] at hec
        simp only at hbr hbc hec hbcall
        have hCx := hC.chg k0 (fun h => h)
        have hRx := hR.chg k0 (fun h => h)
        have hTx := hT.chg k0 (fun h => h) (fun h => h) (fun _ _ h => h)
        have hkx := kT.trans (k0.mono (fun _ h => h.elim))
        have htcall := htake m (by omega) (by omega) wx hTx
        rw [show tkI m 0 = m + 1 from rfl, show tkN m 0 = m + 1 from rfl, htk] at htcall
        have HFL := Lib.hid hfl
        have HBC := Lib.hid hbcall
        clear hfl hbcall has htk hbd hC hR hT kT htake k0
        refine htcall.mono ?_
        rintro e w2 ⟨rfl, hT2, k2⟩
        have hC2 := hCx.chg k2 (fun h => hNC h.symm)
        have hR2 := hRx.chg k2 (fun h => hNR h.symm)
        have hX2 := (k2.block X (Array.getElem?_eq_some_iff.1 hX).1 hNX).trans hX
        have hk2 := hkx.trans k2
        clear hCx hRx hTx hkx htcall hX k2
        rcases hec with rfl | rfl
        · go_wp2_with fail
          refine (HBC.out _).mono ?_
          rintro e w3 ⟨rfl, k3⟩
          have hC3 := hC2.chg k3 (fun h => h)
          have hR3 := hR2.chg k3 (fun h => h)
          have hT3 := hT2.chg k3 (fun h => h) (fun h => h) (fun _ _ h => h)
          have hX3 := (k3.block X (Array.getElem?_eq_some_iff.1 hX2).1 (fun h => h)).trans hX2
          have hk3 := hk2.trans (k3.mono (fun _ h => h.elim))
          clear hC2 hR2 hT2 hX2 hk2 k3
          rcases hbc with rfl | rfl | rfl
          · have x1 : w3.cell? ⟨X, 1, none⟩ = some (.func (.func 52) #[] #[.pointer (some ⟨C, 0, none⟩)]) := cell_of hX3 1 rfl
            go_wp2_with fail
            refine (setW_calls C c nb (by omega) (by omega) HFS.out w3 hC3).mono ?_
            rintro e w4 ⟨rfl, hC4, k4⟩
            have hR4 := hR3.chg k4 (fun h => hCR h.symm)
            have hT4 := hT3.chg k4 hNC hAC (fun i hi e => by omega)
            have hk4 : Chg (fun i => i = N) w w4 := hk3.trans' k4 (fun i hi => .inr (by rw [hi]; exact hCw))
            go_wp2_with fail
            go_roundg 1
            case measure => omega
            case rel =>
              have hfe := HFL.out
              simp only [ne_eq, not_true_eq_false, if_false] at hfe
              refine ⟨setW c nb, m + 1, z, rfl, by omega, ⟨by omega, by omega⟩, hC4, hR4, hT4, hk4, by simp, fun _ => hfe, by simp⟩
          · go_wp2_with (first | (refine wpList_load_mid rfl 51 _ rfl C 0 rfl c.cells _ hC3.range Tryz.underlying51 rfl hi11 ?_) | (refine wpList_store_mid rfl 51 _ _ rfl R 0 c.cells.toArray rfl rfl (hR3.there_ c) hi11 (hone c) ?_))
            have k0 : Chg (fun i => i = R) w3 (w3.setCells R 0 c.cells) := (Chg.refl _ w3).setCells R 0 _ (.inl rfl)
            (try simp only [Exit.inBlock, Exit.then])
            refine bodyPost_ret (results_cell_tmp rfl _ _ R 51 c.cells.toArray (0, 0) _ rfl (hR3.setAll c) rfl Tryz.underlying51 hi11) rfl ?_
            have hfe := HFL.out
            rw [if_neg (by decide), if_pos (by decide)] at hfe
            rw [HFIN2 hfe (by decide)]
            exact ⟨rfl, hT3.chg k0 hNR hAR (fun i hi e => by omega), hk3.setCells R 0 _ (.inr hRw)⟩
          · go_wp2_with (first | (refine wpList_load_mid rfl 51 _ rfl C 0 rfl c.cells _ hC3.range Tryz.underlying51 rfl hi11 ?_) | (refine wpList_store_mid rfl 51 _ _ rfl R 0 c.cells.toArray rfl rfl (hR3.there_ c) hi11 (hone c) ?_))
            have k0 : Chg (fun i => i = R) w3 (w3.setCells R 0 c.cells) := (Chg.refl _ w3).setCells R 0 _ (.inl rfl)
            (try simp only [Exit.inBlock, Exit.then])
            refine bodyPost_ret (results_cell_tmp rfl _ _ R 51 c.cells.toArray (0, 0) _ rfl (hR3.setAll c) rfl Tryz.underlying51 hi11) rfl ?_
            have hfe := HFL.out
            rw [if_neg (by decide), if_pos (by decide)] at hfe
            rw [HFIN2 hfe (by decide)]
            exact ⟨rfl, hT3.chg k0 hNR hAR (fun i hi e => by omega), hk3.setCells R 0 _ (.inr hRw)⟩
        · have hC3 := hC2
          have hR3 := hR2
          go_wp2_with (first | (refine wpList_load_mid rfl 51 _ rfl C 0 rfl c.cells _ hC3.range Tryz.underlying51 rfl hi11 ?_) | (refine wpList_store_mid rfl 51 _ _ rfl R 0 c.cells.toArray rfl rfl (hR3.there_ c) hi11 (hone c) ?_))
          have k0 : Chg (fun i => i = R) w2 (w2.setCells R 0 c.cells) := (Chg.refl _ w2).setCells R 0 _ (.inl rfl)
          (try simp only [Exit.inBlock, Exit.then])
          refine bodyPost_ret (results_cell_tmp rfl _ _ R 51 c.cells.toArray (0, 0) _ rfl (hR2.setAll c) rfl Tryz.underlying51 hi11) rfl ?_
          have hfe := HFL.out
          rw [if_pos (by decide)] at hfe
          rw [HFIN2 hfe (by decide)]
          exact ⟨rfl, hT2.chg k0 hNR hAR (fun i hi e => by omega), hk2.setCells R 0 _ (.inr hRw)⟩
end Go.Proofs.YtemogjpgkcbaiaaGreatDoor.Sp
end
section
namespace Go.Proofs.YtemogjpgkcbaiaaGreatDoor.Sp
open Go.RowKit Go.Proofs.YtemogjpgkcbaiaaGreatDoorW.PrintWords Go.Proofs.YtemogjpgkcbaiaaGreatDoorW.PrintLast Go.Proofs.YtemogjpgkcbaiaaGreatDoorW.PrintMore
set_option linter.unusedVariables false
set_option linter.unusedSimpArgs false
set_option maxRecDepth 100000
def gL (g : Nat → Value) : List Value := (List.range 269).map g
def upd (g : Nat → Value) (i : Nat) (v : Value) : Nat → Value := fun j => if j = i then v else g j
theorem upd_eq (g : Nat → Value) (i : Nat) (v : Value) : upd g i v i = v := if_pos rfl
theorem upd_ne (g : Nat → Value) {i j : Nat} (v : Value) (h : j ≠ i) : upd g i v j = g j := if_neg h
theorem gL_len (g : Nat → Value) : (gL g).length = 269 := by simp [gL]
theorem gL_get (g : Nat → Value) (i : Nat) (h : i < 269) : (gL g)[i]? = some (g i) := by
  unfold gL
  rw [List.getElem?_map, List.getElem?_range h]
  rfl
theorem gL_set (g : Nat → Value) (i : Nat) (v : Value) : (gL g).set i v = gL (upd g i v) := by
  refine List.ext_getElem? fun j => ?_
  rw [List.getElem?_set]
  by_cases hj : j < 269
  · rw [gL_get (upd g i v) j hj, gL_get g j hj]
    by_cases e : i = j
    · subst e; rw [if_pos rfl, if_pos (by rw [gL_len]; exact hj), upd_eq]
    · rw [if_neg e, upd_ne g v (fun h => e h.symm)]
  · rw [List.getElem?_eq_none (by rw [gL_len]; omega)]
    by_cases e : i = j
    · subst e; rw [if_pos rfl, if_neg (by rw [gL_len]; omega), List.getElem?_eq_none (by rw [gL_len]; omega)]
    · rw [if_neg e, List.getElem?_eq_none (by rw [gL_len]; omega)]
def One (g : Nat → Value) : Prop := ∀ i, (g i).oneCell' = true
theorem One.upd {g : Nat → Value} (h : One g) (i : Nat) {v : Value} (hv : v.oneCell' = true) : One (upd g i v) := fun j => by
  unfold Sp.upd; split
  · exact hv
  · exact h j
def FB (w : World) (C : Nat) (g : Nat → Value) : Prop := w.heap[C]? = some (.cells (gL g).toArray 72 (0, 0))
theorem FB.lt {w : World} {C : Nat} {g : Nat → Value} (h : FB w C g) : C < w.heap.size := (Array.getElem?_eq_some_iff.1 h).1
theorem FB.chg {S : Nat → Prop} {w w' : World} {C : Nat} {g : Nat → Value} (h : FB w C g) (k : Chg S w w') (hs : ¬ S C) : FB w' C g := (k.block C h.lt hs).trans h
theorem FB.c {w : World} {C : Nat} {g : Nat → Value} (h : FB w C g) (i : Nat) (hi : i < 269) : w.cell? ⟨C, i, none⟩ = some (g i) := cell_of h i (by simpa using gL_get g i hi)
theorem FB.set {w : World} {C : Nat} {g : Nat → Value} (h : FB w C g) (i : Nat) (v : Value) : FB (w.setCell ⟨C, i, none⟩ v) C (upd g i v) := by
  have := heap_setCell_same (i := i) (v := v) h
  rw [List.setIfInBounds_toArray, gL_set] at this
  exact this
theorem FB.range {w : World} {C : Nat} {g : Nat → Value} (h : FB w C g) : w.rangeAt C 0 (gL g) := fun j v hj => by
  rw [Nat.zero_add]
  exact cell_of h j (by simpa using hj)
theorem FB.there_ {w : World} {C : Nat} {g : Nat → Value} (h : FB w C g) (g' : Nat → Value) : w.there C 0 (gL g').toArray.size := fun j hj => by
  have hj' : j < 269 := by rw [List.size_toArray, gL_len] at hj; exact hj
  rw [Nat.zero_add]
  exact ⟨by rw [h.c j hj']; rfl, blk_frozen h j⟩
theorem FB.setAll {w : World} {C : Nat} {g : Nat → Value} (h : FB w C g) (g' : Nat → Value) : FB (w.setCells C 0 (gL g').toArray.toList) C g' := by
  obtain ⟨cur', h3, h4, h5⟩ := setCells_row (gL g').toArray.toList 0 w _ h (by simp [gL_len])
  have : cur' = (gL g').toArray := by
    apply Array.toList_inj.1
    rw [h5]
    simp [gL_len]
  rw [this] at h3
  exact h3
def gz : Nat → Value := fun i => if i = 0 ∨ i = 6 ∨ i = 7 ∨ i = 268 then .int .i64 0 else if i = 11 then .int .u8 0 else .bool false
theorem gz_zero : Tryz.zeroCells72 = (gL gz).toArray := by kernel_rfl
theorem gz_one : One gz := fun i => by unfold gz; split; rfl; split <;> rfl
theorem FB.new (w : World) : FB (w.alloc (Obj.cells Tryz.zeroCells72 72)) w.heap.size gz := by rw [gz_zero]; exact World.alloc_heap_new w _
theorem i72 : (Tryz.prog.info? 72).map (·.size) = some 269 := by kernel_rfl
theorem i72L (g : Nat → Value) : (Tryz.prog.info? 72).map (·.size) = some (gL g).length := by rw [gL_len]; exact i72
theorem i72A (g : Nat → Value) : (Tryz.prog.info? 72).map (·.size) = some (gL g).toArray.size := by rw [List.size_toArray, gL_len]; exact i72
theorem digits_l0 (s : ByteArray) (hs : s.size ≤ 100000) (a m : Nat) (ha : a ≤ 100000) : ∀ (r k : Nat) (n i : Int), 0 ≤ i → i + r = a + m → m ≤ 3 → r < k → 0 ≤ n → n ≤ bnd r →
    Pdigits.threadbareref08_digits.l0 k s (a : Int) (m : Int) n i = some (nmGo s r n i) := by
  intro r
  induction r with
  | zero =>
    intro k n i h0 hi hm hk hn hb
    obtain ⟨k, rfl⟩ : ∃ q, k = q + 1 := ⟨k - 1, by omega⟩
    rw [Pdigits.threadbareref08_digits.l0, wrap_small (x := (a : Int) + (m : Int)) (by omega) (by omega), if_neg (show ¬ i < (a : Int) + (m : Int) by omega)]
    simp only [nmGo]
    split <;> rfl
  | succ r ih =>
    intro k n i h0 hi hm hk hn hb
    obtain ⟨k, rfl⟩ : ∃ q, k = q + 1 := ⟨k - 1, by omega⟩
    have hbn : bnd (r + 1) = (bnd r - 9) / 10 := rfl
    have hbl := bnd_le r
    rw [Pdigits.threadbareref08_digits.l0, wrap_small (x := (a : Int) + (m : Int)) (by omega) (by omega)]
    by_cases h1 : i < s.size
    · rw [if_pos h1, if_pos (by omega), if_pos h0]
      by_cases h2 : 48 ≤ bt s i ∧ bt s i ≤ 57
      · rw [if_pos h2.1, if_pos h2.2, show nmGo s (r + 1) n i = nmGo s r (10 * n + (bt s i - 48)) (i + 1) from if_pos ⟨h1, isDig_iff.2 h2⟩]
        rw [show (bt s i - 48) % 256 = bt s i - 48 from by omega, wrap_small (x := 10 * n) (by omega) (by omega), wrap_small (x := 10 * n + (bt s i - 48)) (by omega) (by omega), wrap_small (x := i + 1) (by omega) (by omega)]
        exact ih k _ _ (by omega) (by omega) hm (by omega) (by omega) (by omega)
      · rw [show nmGo s (r + 1) n i = (n, i) from if_neg (fun h => h2 (isDig_iff.1 h.2))]
        by_cases h3 : 48 ≤ bt s i
        · rw [if_pos h3, if_neg (by omega)]
        · rw [if_neg (by omega)]
    · rw [if_neg h1, show nmGo s (r + 1) n i = (n, i) from if_neg (fun h => h1 h.1)]
theorem digits_calls (s : ByteArray) (hs : s.size ≤ 100000) (i m : Int) (h0 : 0 ≤ i) (h1 : i ≤ 100000) (m0 : 0 ≤ m) (m1 : m ≤ 3) (w : World) :
    Calls Tryz.prog 55 #[.string s, .int .i64 i, .int .i64 m] w fun e w' => e = .returned (.tuple #[.int .i64 (nmGo s m.toNat 0 i).1, .int .i64 (nmGo s m.toNat 0 i).2]) ∧ Chg (fun _ => False) w w' := by
  have hb : 0 ≤ bnd m.toNat := by
    have : m.toNat = 0 ∨ m.toNat = 1 ∨ m.toNat = 2 ∨ m.toNat = 3 := by omega
    rcases this with e | e | e | e <;> rw [e] <;> decide
  have := digits_l0 s hs i.toNat m.toNat (by omega) m.toNat 5 0 i h0 (by omega) (by omega) (by omega) (by omega) hb
  rw [Int.toNat_of_nonneg h0, Int.toNat_of_nonneg m0] at this
  refine (Pdigits.threadbareref08_digits.calls 5 s i m _ _ w (by unfold Pdigits.threadbareref08_digits.f; rw [this])).mono ?_
  rintro e w' ⟨rfl, hd⟩
  obtain ⟨n, rfl⟩ := hd.out
  exact ⟨rfl, (Chg.refl _ w).drewN n⟩
end Go.Proofs.YtemogjpgkcbaiaaGreatDoor.Sp
end
section
namespace Go.Proofs.YtemogjpgkcbaiaaGreatDoor.Sp
open Go.RowKit Go.Proofs.YtemogjpgkcbaiaaGreatDoorW.PrintWords Go.Proofs.YtemogjpgkcbaiaaGreatDoorW.PrintLast Go.Proofs.YtemogjpgkcbaiaaGreatDoorW.PrintMore
set_option linter.unusedVariables false
set_option linter.unusedSimpArgs false
set_option maxRecDepth 100000
attribute [local go_sem] Oper.semAt_some max2_int min2_int max_two min_two
def fB (s : ByteArray) : Nat → Int → Int
  | 0, i => i
  | k + 1, i => if i < s.size ∧ bt s i ≠ 93 then fB s k (i + 1) else i
def byF (s : ByteArray) (q : Int) : Int := skp s q 94
def byI (s : ByteArray) (q : Int) : Int := if byF s q < s.size then fB s s.size (byF s q + 1) else byF s q
def rfs (s : ByteArray) (q : Int) (b : Int) : Bool := ft (cut s (byF s q) (byI s q)) b false (cut s (byF s q) (byI s q)).size 0
def ByPost (s : ByteArray) (q : Int) (C : Nat) (g : Nat → Value) (w : World) (e : Ending) (w' : World) : Prop :=
  e = .returned (.bool (decide (byI s q < s.size))) ∧ Chg (fun i => i = C) w w' ∧ ∃ g', FB w' C g' ∧ One g' ∧ (byI s q < s.size → (∀ j, j < 12 → g' j = g j) ∧ g' 268 = .int .i64 (byI s q + 1) ∧
    ∀ b : Nat, b < 256 → g' (12 + b) = .bool (if tk s q 94 = true then !rfs s q b else rfs s q b))
theorem fB_pos (s : ByteArray) : ∀ (k : Nat) (i : Int), i ≤ fB s k i ∧ (i ≤ s.size → fB s k i ≤ s.size)
  | 0, i => by simp [fB]
  | k + 1, i => by
    have := fB_pos s k (i + 1)
    simp only [fB]
    split
    · omega
    · omega
theorem cut_len (s : ByteArray) (p q : Int) (h0 : 0 ≤ p) (h1 : p ≤ q) (h2 : q ≤ s.size) : ((cut s p q).size : Int) = q - p := by
  unfold cut; rw [ByteArray.size_extract]; omega
set_option maxHeartbeats 4000000 in
theorem bytes61 (s : ByteArray) (hs : s.size ≤ 100000) (q : Int) (h0 : 0 ≤ q) (h1 : q ≤ s.size) (C : Nat) (g : Nat → Value) (hO : One g) (w : World) (hC : FB w C g) (h268 : g 268 = .int .i64 q) (hg : ∀ b : Nat, b < 256 → g (12 + b) = .bool false) :
    Calls Tryz.prog 61 #[.pointer (some ⟨C, 0, none⟩), .string s] w (ByPost s q C g w) := by
  have c268 := hC.c 268 (by decide)
  rw [h268] at c268
  have hb := bt_at s q
  have hF : byF s q = if tk s q 94 = true then q + 1 else q := rfl
  have htk : tk s q 94 = (decide (q < s.size) && (bt s q == 94)) := rfl
  have p0 : (0 ≤ q) = True := eq_true h0
  have w1 : IntKind.i64.wrap (q + 1) = q + 1 := i64_small (by omega) (by omega)
  obtain ⟨T, hT⟩ : ∃ T, T = tk s q 94 := ⟨_, rfl⟩
  rw [← hT] at hF htk
  have HF := Lib.hid hF
  have HT := Lib.hid hT
  have HTK := Lib.hid htk
  clear hF hT htk
  go_enter Tryz.func61, Tryz.ntmps61
  go_upto_region 2 with fail
  go_cut [27] (fun v27 wx => v27 = .bool T ∧ FB wx C g ∧ Chg (fun i => i = C) w wx)
  case first =>
    have hcase : (q < s.size ∧ bt s q = 94 ∧ T = true) ∨ (q < s.size ∧ bt s q ≠ 94 ∧ T = false) ∨ (¬ q < s.size ∧ T = false) := by
      have ht := HTK.out
      by_cases hq : q < s.size
      · by_cases h94 : bt s q = 94
        · exact .inl ⟨hq, h94, by rw [ht]; simp [hq, h94]⟩
        · exact .inr (.inl ⟨hq, h94, by rw [ht]; simp [h94]⟩)
      · exact .inr (.inr ⟨hq, by rw [ht]; simp [hq]⟩)
    clear c268 h268 hg
    rcases hcase with ⟨hq, h94, rfl⟩ | ⟨hq, h94, rfl⟩ | ⟨hq, rfl⟩
    · have q4 : (q < (s.size : Int)) = True := eq_true hq
      have g1 : decide (q < (s.size : Int)) = true := by simpa using hq
      have g2 : (bt s q == 94) = true := by simpa using h94
      clear h94
      go_wp2_with fail
      go_meet
      exact ⟨rfl, hC, Chg.refl _ _⟩
    · have q4 : (q < (s.size : Int)) = True := eq_true hq
      have g1 : decide (q < (s.size : Int)) = true := by simpa using hq
      have g2 : (bt s q == 94) = false := by simpa using h94
      clear h94
      go_wp2_with fail
      go_meet
      exact ⟨rfl, hC, Chg.refl _ _⟩
    · have q4 : (q < (s.size : Int)) = False := eq_false hq
      have g1 : decide (q < (s.size : Int)) = false := by simpa using hq
      go_wp2_with fail
      go_meet
      exact ⟨rfl, hC, Chg.refl _ _⟩
  case rest =>
  obtain ⟨rfl, hC1, k1⟩ := hcut
  clear hC c268 hb p0
  obtain ⟨F, hFF⟩ : ∃ F, F = byF s q := ⟨_, rfl⟩
  have hfc : F = if T = true then q + 1 else q := by rw [hFF]; exact HF.out
  have hFs : F ≤ s.size ∧ 0 ≤ F ∧ q ≤ F := by
    have h := hfc; have ht := HTK.out
    cases T
    · rw [if_neg (by simp)] at h; omega
    · rw [if_pos rfl] at h
      have : q < s.size := by simpa using (Bool.and_eq_true_iff.1 ht.symm).1
      omega
  obtain ⟨E, hEE⟩ : ∃ E, E = byI s q := ⟨_, rfl⟩
  have hE : E = if F < s.size then fB s s.size (F + 1) else F := by rw [hEE, hFF]; rfl
  have HE := Lib.hid hE
  have HFF := Lib.hid hFF
  have HEE := Lib.hid hEE
  have HFC := Lib.hid hfc
  clear hE hFF hEE hfc
  go_upto_if 27 with fail
  go_cut [5, 6] (fun v5 v6 wx => v5 = .int .i64 F ∧ v6 = .bool T ∧ wx = wc)
  case first =>
    have hfc := HFC.out
    cases T
    · rw [if_neg (by simp)] at hfc
      have HF2 := Lib.hid hfc
      clear hfc
      go_wp2_with fail
      go_meet
      exact ⟨by rw [HF2.out], rfl, rfl⟩
    · rw [if_pos rfl] at hfc
      have HF2 := Lib.hid hfc
      clear hfc
      go_wp2_with fail
      go_meet
      exact ⟨by rw [HF2.out], rfl, rfl⟩
  case rest =>
  obtain ⟨rfl, rfl, rfl⟩ := hcut
  go_wp2_with fail
  go_loopg [5] (s.size - F).toNat (fun gk v5 wr => ∃ (i : Int) (m : Nat), v5 = .int .i64 i ∧ (gk : Int) = s.size - i ∧ F ≤ i ∧ i ≤ s.size ∧ (m : Int) + i = s.size + F + 1 ∧ (i ≠ F → E = fB s m i) ∧ FB wr C g ∧ Chg (fun i => i = C) w wr)
  case atStart => exact ⟨F, s.size + 1, rfl, by omega, Int.le_refl _, hFs.1, by omega, fun h => absurd rfl h, hC1, k1⟩
  case round =>
    obtain ⟨i, m, rfl, hgk, hi0, hi1, hm, hEi, hR, kR⟩ := hrel
    clear hC1 k1 w1
    have hii : 0 ≤ i := by omega
    have p4 : (0 ≤ i) = True := eq_true hii
    have w2 : IntKind.i64.wrap (i + 1) = i + 1 := i64_small (by omega) (by omega)
    have hb := bt_at s i
    by_cases hlt : i < s.size
    · have q4 : (i < (s.size : Int)) = True := eq_true hlt
      have g1 : decide (i < (s.size : Int)) = true := by simpa using hlt
      have hnext : (bt s i ≠ 93 ∨ i = F) → (i + 1 ≠ F → E = fB s (m - 1) (i + 1)) := by
        intro h _
        by_cases hF : i = F
        · have := HE.out
          rw [if_pos (by omega)] at this
          rw [this, hF]; congr 1; omega
        · rw [hEi hF]
          obtain ⟨m, rfl⟩ : ∃ m', m = m' + 1 := ⟨m - 1, by omega⟩
          rw [fB, if_pos ⟨hlt, h.resolve_right hF⟩]; rfl
      have hdone : ¬ (bt s i ≠ 93 ∨ i = F) → E = i := by
        intro h
        have hF : i ≠ F := fun e => h (.inr e)
        rw [hEi hF]
        obtain ⟨m, rfl⟩ : ∃ m', m = m' + 1 := ⟨m - 1, by omega⟩
        rw [fB, if_neg (fun hh => h (.inl hh.2))]
      have HB := Lib.hid (And.intro hgk (And.intro hi0 (And.intro hlt hm)))
      by_cases h93 : bt s i = 93
      · have g2 : (bt s i != 93) = false := by simpa using h93
        by_cases hF : i = F
        · have g3 : (i == F) = true := by simpa using hF
          have HN := Lib.hid (hnext (.inr hF))
          clear hnext hdone hEi h93 hF hgk hi0 hi1 hm hlt
          go_wp2_with fail
          go_roundg (s.size - (i + 1)).toNat
          case measure => have := HB.out; omega
          case rel => have := HB.out; exact ⟨i + 1, m - 1, rfl, by omega, by omega, by omega, by omega, HN.out, hR, kR⟩
        · have g3 : (i == F) = false := by simpa using hF
          have hd := hdone (fun h => h.elim (fun h => h h93) hF)
          have g5 : decide ((s.size : Int) ≤ i) = false := by simpa using hlt
          have c268 := hR.c 268 (by decide)
          rw [h268] at c268
          have f268 := blk_frozen hR 268
          have e1 : (0 ≤ F) = True := eq_true hFs.2.1
          have e2 : (F ≤ i) = True := eq_true hi0
          have e3 : (i ≤ (s.size : Int)) = True := eq_true hi1
          obtain ⟨st, hst⟩ : ∃ st, st = s.extract F.toNat i.toNat := ⟨_, rfl⟩
          have hsz : (st.size : Int) = i - F := by rw [hst]; exact cut_len s F i hFs.2.1 hi0 hi1
          have HST := Lib.hid hst
          have HSZ := Lib.hid hsz
          have HI := Lib.hid hd
          have HLT := Lib.hid hlt
          have hrf : ∀ b : Int, rfs s q b = ft st b false st.size 0 := fun b => by
            unfold rfs cut
            rw [← HFF.out, ← HEE.out, HI.out, ← HST.out]
          have HRF := Lib.hid hrf
          have hss : st.size ≤ 100000 := by omega
          have hg4 : FB (wr.setCell ⟨C, 268, none⟩ (.int .i64 (i + 1))) C (upd g 268 (.int .i64 (i + 1))) := hR.set 268 _
          have hk4 : Chg (fun i => i = C) w (wr.setCell ⟨C, 268, none⟩ (.int .i64 (i + 1))) := kR.setCell _ _ (.inl rfl)
          clear hnext hdone hEi h93 hF hgk hi0 hi1 hm hlt hd hsz hst hrf
          go_upto_region 12 with fail
          rw [← HST.out]
          obtain ⟨W4, hW4⟩ : ∃ W4, W4 = wr.setCell ⟨C, 268, none⟩ (.int .i64 (i + 1)) := ⟨_, rfl⟩
          rw [← hW4] at hg4 hk4 ⊢
          clear hW4 c268 f268 e1 e2 e3 q4 g1 g2 g3 g5 p4 w2 hR kR hb h268
          go_wp2_with fail
          go_loopg [9, 10, 11, 12] st.size (fun gk v9 v10 v11 v12 wr => ∃ (k : Int) (m : Nat) (g' : Nat → Value) (ab : Nat → Bool), v9 = .int .i64 k ∧ (gk : Int) + k ≥ st.size ∧ 0 ≤ k ∧ k ≤ st.size + 3 ∧ (m : Int) + k ≥ st.size ∧ FB wr C g' ∧ One g' ∧ (∀ j, j < 12 → g' j = g j) ∧ g' 268 = .int .i64 (i + 1) ∧
            (∀ b : Nat, b < 256 → g' (12 + b) = .bool (ab b) ∧ (ab b || ft st b false m k) = rfs s q b) ∧ Chg (fun i => i = C) w wr)
          case atStart =>
            refine ⟨0, st.size, _, fun _ => false, rfl, by omega, Int.le_refl _, by omega, by omega, hg4, hO.upd 268 rfl, fun j hj => upd_ne _ _ (by omega), upd_eq _ _ _, fun b hb => ⟨?_, ?_⟩, hk4⟩
            · rw [upd_ne _ _ (by omega)]; exact hg b hb
            · rw [Bool.false_or, HRF.out]
          case round =>
            obtain ⟨k, m, g', ab, rfl, hgk, hk0, hk3, hm, hR, hO', hlo, hfi, hab, kR⟩ := hrel
            clear hg4 hk4
            have p4 : (0 ≤ k) = True := eq_true hk0
            by_cases hlt : k < st.size
            · have q4 : (k < (st.size : Int)) = True := eq_true hlt
              have g1 : decide (k < (st.size : Int)) = true := by simpa using hlt
              have hb := bt_at st k
              have hxr := bt_range st k
              have hzr := bt_range st (k + 2)
              have HG := Lib.hid (And.intro hgk (And.intro hk0 (And.intro hlt hm)))
              have w1 : IntKind.i64.wrap (k + 1) = k + 1 := i64_small (by omega) (by omega)
              have w2 : IntKind.i64.wrap (k + 2) = k + 2 := i64_small (by omega) (by omega)
              obtain ⟨x, hx⟩ : ∃ x, x = bt st k := ⟨_, rfl⟩
              obtain ⟨z, hz⟩ : ∃ z, z = bt st (k + 2) := ⟨_, rfl⟩
              obtain ⟨D, hD⟩ : ∃ D : Bool, D = (decide (k + 2 < (st.size : Int)) && (bt st (k + 1) == 45)) := ⟨_, rfl⟩
              have hstep : ∀ b : Int, ft st b false m k = if (if D = true then min x z else x) ≤ b ∧ b ≤ (if D = true then max x z else x) then true else ft st b false (m - 1) (k + (if D = true then 3 else 1)) := by
                intro b
                obtain ⟨m, rfl⟩ : ∃ m', m = m' + 1 := ⟨m - 1, by omega⟩
                rw [ft, if_pos hlt, hx, hz, hD]
                by_cases h1 : k + 2 < (st.size : Int)
                · by_cases h2 : bt st (k + 1) = 45
                  · simp [h1, h2]
                  · simp [h1, h2]
                · simp [h1]
              rw [← hx] at hb hxr
              rw [← hz] at hzr
              have HX := Lib.hid hx
              have HZ := Lib.hid hz
              have HD := Lib.hid hD
              have HSTEP := Lib.hid hstep
              have HAB := Lib.hid (And.intro hlo (And.intro hfi hab))
              clear hx hz hD hstep hgk hk3 hm hlo hfi hab hlt
              go_wp2_with fail
              go_quiet (fail)
              have hR2 : FB (wr.drewN nq) C g' := hR
              have kR2 := kR.drewN nq
              clear hR kR
              generalize wr.drewN nq = W at *
              go_upto_region 16 with fail
              go_cut [84] (fun v84 wx => v84 = .bool D ∧ wx = W)
              case first =>
                have hd := HD.out
                by_cases h1 : k + 2 < (st.size : Int)
                · have e1 : (k + 2 < (st.size : Int)) = True := eq_true h1
                  have e2 : decide (k + 2 < (st.size : Int)) = true := by simpa using h1
                  have e3 : (0 ≤ k + 1) = True := eq_true (by omega)
                  have e4 : (k + 1 < (st.size : Int)) = True := eq_true (by omega)
                  have hb1 := bt_at st (k + 1)
                  rw [e2, Bool.true_and] at hd
                  have HD2 := Lib.hid hd
                  clear hd h1
                  go_wp2_with fail
                  go_meet
                  exact ⟨by rw [HD2.out], rfl⟩
                · have e1 : (k + 2 < (st.size : Int)) = False := eq_false h1
                  have e2 : decide (k + 2 < (st.size : Int)) = false := by simpa using h1
                  rw [e2, Bool.false_and] at hd
                  have HD2 := Lib.hid hd
                  clear hd h1
                  go_wp2_with fail
                  go_meet
                  exact ⟨by rw [HD2.out], rfl⟩
              case rest =>
              obtain ⟨rfl, rfl⟩ := hcut
              go_upto_if 84 with fail
              go_cut [9, 10, 11] (fun v9 v10 v11 wx => v9 = .int .i64 (if D = true then k + 2 else k) ∧ v10 = .int .u8 (if D = true then min x z else x) ∧ v11 = .int .u8 (if D = true then max x z else x) ∧ FB wx C g' ∧ Chg (fun i => i = C) w wx)
              case first =>
                have hd := HD.out
                cases D
                · clear hd
                  go_wp2_with fail
                  go_meet
                  exact ⟨rfl, rfl, rfl, hR2, kR2⟩
                · have h1 := Bool.and_eq_true_iff.1 hd.symm
                  have h2 : k + 2 < (st.size : Int) := by simpa using h1.1
                  have e1 : (k + 2 < (st.size : Int)) = True := eq_true h2
                  have e3 : (0 ≤ k + 2) = True := eq_true (by omega)
                  have hb2 := bt_at st (k + 2)
                  rw [← HZ.out] at hb2
                  clear hd h1 h2
                  go_wp2_with fail
                  go_quiet (fail)
                  have hR3 : FB (wc.drewN nq) C g' := hR2
                  have kR3 := kR2.drewN nq
                  clear hR2 kR2
                  generalize wc.drewN nq = W at *
                  go_wp2_with fail
                  all_goals
                    go_meet
                    refine ⟨rfl, ?_, ?_, hR3, kR3⟩ <;> (rw [if_pos trivial]; congr 1; omega)
              case rest =>
              obtain ⟨rfl, rfl, rfl, hR3, kR3⟩ := hcut
              clear hR2 kR2 hb
              obtain ⟨k2, hk2⟩ : ∃ k2, k2 = (if D = true then k + 2 else k) := ⟨_, rfl⟩
              obtain ⟨lo, hlo⟩ : ∃ lo, lo = (if D = true then min x z else x) := ⟨_, rfl⟩
              obtain ⟨hi, hhi⟩ : ∃ hi, hi = (if D = true then max x z else x) := ⟨_, rfl⟩
              have hlh : 0 ≤ lo ∧ lo ≤ hi ∧ hi ≤ 255 := by rw [hlo, hhi]; split <;> omega
              have hk3 : k2 = k ∨ k2 = k + 2 := by rw [hk2]; split <;> omega
              have hst2 : ∀ b : Int, ft st b false m k = if lo ≤ b ∧ b ≤ hi then true else ft st b false (m - 1) (k2 + 1) := fun b => by
                rw [HSTEP.out b, ← hlo, ← hhi, hk2]
                split
                · rfl
                · congr 1; split <;> omega
              have HST2 := Lib.hid hst2
              rw [← hk2, ← hlo, ← hhi]
              have hwl2 : wrap64 lo = lo := wrap_small (by omega) (by omega)
              have hwh2 : wrap64 hi = hi := wrap_small (by omega) (by omega)
              clear hk2 hlo hhi hst2 HSTEP q4 g1 w1 w2 hzr hxr
              go_wp2_with fail
              go_loopg [12] (hi + 1 - lo).toNat (fun gk v12 wr => ∃ (c : Int) (g2 : Nat → Value), v12 = .int .i64 c ∧ (gk : Int) = hi + 1 - c ∧ lo ≤ c ∧ c ≤ hi + 1 ∧ FB wr C g2 ∧ One g2 ∧ (∀ j, j < 12 → g2 j = g j) ∧ g2 268 = .int .i64 (i + 1) ∧
                (∀ b : Nat, b < 256 → g2 (12 + b) = .bool (ab b || (decide (lo ≤ (b : Int)) && decide ((b : Int) < c)))) ∧ Chg (fun i => i = C) w wr)
              case atStart =>
                have ⟨q1, q2, q3⟩ := HAB.out
                exact ⟨lo, g', rfl, by omega, Int.le_refl _, by omega, hR3, hO', q1, q2, fun b hb => by
                  rw [(q3 b hb).1]
                  by_cases h : lo ≤ (b : Int)
                  · rw [decide_eq_false (show ¬ (b : Int) < lo by omega)]; simp
                  · rw [decide_eq_false h]; simp, kR3⟩
              case round =>
                obtain ⟨c, g2, rfl, hgc, hc0, hc1, hR4, hO4, hlo4, hfi4, hab4, kR4⟩ := hrel
                clear hR3 kR3
                have HC := Lib.hid (And.intro hgc (And.intro hc0 (And.intro hc1 hlh)))
                have w1 : IntKind.i64.wrap (c + 1) = c + 1 := i64_small (by omega) (by omega)
                by_cases hle : c ≤ hi
                · have HLE := Lib.hid hle
                  have g1 : decide (c ≤ hi) = true := by simpa using hle
                  have e5 : (c ≤ hi) = True := eq_true hle
                  have e1 : (0 ≤ c) = True := eq_true (by omega)
                  have e2 : (c < 256) = True := eq_true (by omega)
                  obtain ⟨n, hn⟩ : ∃ n : Nat, c = n := ⟨c.toNat, by omega⟩
                  have hC := hR4.c (12 + n) (by omega)
                  rw [(hab4 n (by omega))] at hC
                  have hf := blk_frozen hR4 (12 + n)
                  have hR5 := hR4.set (12 + n) (.bool true)
                  have kR5 := kR4.setCell ⟨C, 12 + n, none⟩ (.bool true) (.inl rfl)
                  have hO5 := hO4.upd (12 + n) (v := .bool true) rfl
                  have HNN := Lib.hid hn
                  have HAB4 := Lib.hid (And.intro hlo4 (And.intro hfi4 hab4))
                  have e3 : 12 + c.toNat = 12 + n := by omega
                  have e4 : c.toNat = n := by omega
                  clear hlo4 hfi4 hab4 hn hgc hc0 hc1 hlh hle
                  go_wp2_with fail
                  go_roundg (hi + 1 - (c + 1)).toNat
                  case measure => have := HC.out; have := HLE.out; omega
                  case rel =>
                    have hc := HC.out
                    have hle := HLE.out
                    have hn := HNN.out
                    have ⟨r1, r2, r3⟩ := HAB4.out
                    refine ⟨c + 1, _, rfl, by omega, by omega, by omega, hR5, hO5, fun j hj => (upd_ne _ _ (by omega)).trans (r1 j hj), (upd_ne _ _ (by omega)).trans r2, fun b hb => ?_, kR5⟩
                    by_cases hbn : b = n
                    · subst hbn
                      rw [upd_eq, decide_eq_true (show lo ≤ (b : Int) by omega), decide_eq_true (show (b : Int) < c + 1 by omega)]; simp
                    · rw [upd_ne _ _ (by omega), r3 b hb]
                      congr 2
                      rw [show decide ((b : Int) < c + 1) = decide ((b : Int) < c) from by
                        by_cases h : (b : Int) < c
                        · rw [decide_eq_true h, decide_eq_true (by omega)]
                        · rw [decide_eq_false h, decide_eq_false (by omega)]]
                · have HLE := Lib.hid (Int.not_le.1 hle)
                  have g1 : decide (c ≤ hi) = false := by simpa using hle
                  have e5 : (c ≤ hi) = False := eq_false hle
                  have HAB4 := Lib.hid (And.intro hlo4 (And.intro hfi4 hab4))
                  have w3 : IntKind.i64.wrap (k2 + 1) = k2 + 1 := i64_small (by have := HG.out; omega) (by have := HG.out; omega)
                  clear hlo4 hfi4 hab4 hgc hc0 hc1 hlh hle
                  go_wp2_with fail
                  go_roundg (st.size - (k2 + 1)).toNat
                  case measure => have := HG.out; omega
                  case rel =>
                    have hc := HC.out
                    have hle := HLE.out
                    have hg := HG.out
                    have ⟨r1, r2, r3⟩ := HAB4.out
                    have ⟨_, _, q3⟩ := HAB.out
                    refine ⟨k2 + 1, m - 1, g2, fun b => ab b || (decide (lo ≤ (b : Int)) && decide ((b : Int) ≤ hi)), rfl, by omega, by omega, by omega, by omega, hR4, hO4, r1, r2, fun b hb => ⟨?_, ?_⟩, kR4⟩
                    · rw [r3 b hb, show decide ((b : Int) < c) = decide ((b : Int) ≤ hi) from by
                        by_cases h : (b : Int) < c
                        · rw [decide_eq_true h, decide_eq_true (by omega)]
                        · rw [decide_eq_false h, decide_eq_false (by omega)]]
                    · rw [← (q3 b hb).2, HST2.out]
                      show ((ab b || (decide (lo ≤ (b : Int)) && decide ((b : Int) ≤ hi))) || ft st b false (m - 1) (k2 + 1)) = _
                      by_cases h : lo ≤ (b : Int) ∧ (b : Int) ≤ hi
                      · rw [if_pos h, decide_eq_true h.1, decide_eq_true h.2]; simp
                      · rw [if_neg h]
                        by_cases h1 : lo ≤ (b : Int)
                        · rw [decide_eq_false (show ¬ (b : Int) ≤ hi from fun h2 => h ⟨h1, h2⟩)]; simp
                        · rw [decide_eq_false h1]; simp
            · have q4 : (k < (st.size : Int)) = False := eq_false hlt
              have g1 : decide (k < (st.size : Int)) = false := by simpa using hlt
              have hfin : ∀ b : Nat, b < 256 → g' (12 + b) = .bool (rfs s q b) := fun b hb => by
                have ⟨a1, a2⟩ := hab b hb
                rw [a1, ← a2]
                have : ft st b false m k = false := by
                  cases m with
                  | zero => rfl
                  | succ m => rw [ft, if_neg hlt]
                rw [this, Bool.or_false]
              have HFIN := Lib.hid (And.intro hlo (And.intro hfi hfin))
              clear hlo hfi hab hfin hgk hk0 hk3 hm hlt p4
              have hEs := HI.out
              have hEi := HEE.out
              obtain ⟨T', hT'⟩ : ∃ T', T' = tk s q 94 := ⟨_, rfl⟩
              have HTT := Lib.hid (HT.out.trans hT'.symm)
              have HT' := Lib.hid hT'
              clear hT'
              have HEI := Lib.hid (show byI s q = i by rw [← hEi, hEs])
              clear hEs hEi
              cases T
              · go_wp2_with fail
                go_ret
                have ⟨r1, r2, r3⟩ := HFIN.out
                have hlt := (show i < (s.size : Int) from HLT.out)
                refine ⟨by rw [HEI.out, decide_eq_true hlt]; rfl, kR, g', hR, hO', fun _ => ⟨r1, by rw [r2, HEI.out], fun b hb => ?_⟩⟩
                rw [← HT.out, if_neg (by simp)]
                exact r3 b hb
              · go_wp2_with fail
                go_loopg [117] 256 (fun gk v117 wr => ∃ (n : Nat) (g2 : Nat → Value), v117 = .int .i64 n ∧ gk + n = 256 ∧ FB wr C g2 ∧ One g2 ∧ (∀ j, j < 12 → g2 j = g j) ∧ g2 268 = .int .i64 (i + 1) ∧
                  (∀ b : Nat, b < 256 → g2 (12 + b) = .bool (if b < n then !rfs s q b else rfs s q b)) ∧ Chg (fun i => i = C) w wr)
                case atStart =>
                  have ⟨r1, r2, r3⟩ := HFIN.out
                  exact ⟨0, g', rfl, rfl, hR, hO', r1, r2, fun b hb => by rw [if_neg (by omega)]; exact r3 b hb, kR⟩
                case round =>
                  obtain ⟨n, g2, rfl, hgn, hR4, hO4, hlo4, hfi4, hab4, kR4⟩ := hrel
                  clear hR kR
                  by_cases hn : n < 256
                  · have e1 : (0 ≤ (n : Int)) = True := eq_true (by omega)
                    have e2 : ((n : Int) < 256) = True := eq_true (by omega)
                    have g1 : decide ((n : Int) < 256) = true := by simp; omega
                    have w1 : IntKind.i64.wrap ((n : Int) + 1) = (n : Int) + 1 := i64_small (by omega) (by omega)
                    have hc := hR4.c (12 + n) (by omega)
                    rw [hab4 n hn, if_neg (Nat.lt_irrefl n)] at hc
                    have hf := blk_frozen hR4 (12 + n)
                    have hR5 := hR4.set (12 + n) (.bool (!rfs s q n))
                    have kR5 := kR4.setCell ⟨C, 12 + n, none⟩ (.bool (!rfs s q n)) (.inl rfl)
                    have hO5 := hO4.upd (12 + n) (v := .bool (!rfs s q n)) rfl
                    have HAB4 := Lib.hid (And.intro hlo4 (And.intro hfi4 hab4))
                    have HN := Lib.hid (And.intro hgn hn)
                    have e4 : (n : Int).toNat = n := Int.toNat_natCast n
                    clear hlo4 hfi4 hab4 hgn hn
                    go_wp2_with fail
                    go_region
                    go_wp2_with fail
                    go_roundg (256 - (n + 1))
                    case measure => have := HN.out; omega
                    case rel =>
                      have hn := HN.out
                      have ⟨r1, r2, r3⟩ := HAB4.out
                      refine ⟨n + 1, _, rfl, by omega, hR5, hO5, fun j hj => (upd_ne _ _ (by omega)).trans (r1 j hj), (upd_ne _ _ (by omega)).trans r2, fun b hb => ?_, kR5.drew⟩
                      by_cases hbn : b = n
                      · subst hbn
                        rw [upd_eq, if_pos (Nat.lt_succ_self _)]
                      · rw [upd_ne _ _ (by omega), r3 b hb]
                        congr 1
                        by_cases h : b < n
                        · rw [if_pos h, if_pos (by omega)]
                        · rw [if_neg h, if_neg (by omega)]
                  · have e2 : ((n : Int) < 256) = False := eq_false (by omega)
                    have g1 : decide ((n : Int) < 256) = false := by simp; omega
                    have HAB4 := Lib.hid (And.intro hlo4 (And.intro hfi4 hab4))
                    have HN := Lib.hid (And.intro hgn hn)
                    clear hlo4 hfi4 hab4 hgn hn
                    go_wp2_with fail
                    go_ret
                    have ⟨r1, r2, r3⟩ := HAB4.out
                    have hlt := (show i < (s.size : Int) from HLT.out)
                    have hn := HN.out
                    refine ⟨by rw [HEI.out, decide_eq_true hlt]; rfl, kR4, g2, hR4, hO4, fun _ => ⟨r1, by rw [r2, HEI.out], fun b hb => ?_⟩⟩
                    rw [← HT.out, if_pos rfl, r3 b hb, if_pos (by omega)]
      · have g2 : (bt s i != 93) = true := by simpa using h93
        have HN := Lib.hid (hnext (.inl h93))
        clear hnext hdone hEi h93 hgk hi0 hi1 hm hlt
        go_wp2_with fail
        go_roundg (s.size - (i + 1)).toNat
        case measure => have := HB.out; omega
        case rel => have := HB.out; exact ⟨i + 1, m - 1, rfl, by omega, by omega, by omega, by omega, HN.out, hR, kR⟩
    · have q4 : (i < (s.size : Int)) = False := eq_false hlt
      have g1 : decide (i < (s.size : Int)) = false := by simpa using hlt
      have g5 : decide ((s.size : Int) ≤ i) = true := by simp; omega
      have hd : E = i := by
        by_cases hF : i = F
        · have := HE.out; rw [if_neg (by omega)] at this; omega
        · rw [hEi hF]
          obtain ⟨m, rfl⟩ : ∃ m', m = m' + 1 := ⟨m - 1, by omega⟩
          rw [fB, if_neg (fun hh => hlt hh.1)]
      have HD := Lib.hid (show ¬ byI s q < s.size by rw [← HEE.out]; omega)
      clear hEi hgk hi0 hi1 hm hlt hd
      go_wp2_with fail
      go_ret
      exact ⟨by rw [decide_eq_false (Int.not_lt.2 HD.out)]; rfl, kR, g, hR, hO, fun h => absurd h (Int.not_lt.2 HD.out)⟩
end Go.Proofs.YtemogjpgkcbaiaaGreatDoor.Sp
end
section
namespace Go.Proofs.YtemogjpgkcbaiaaGreatDoor.Sp
open Go.RowKit Go.Proofs.YtemogjpgkcbaiaaGreatDoorW.PrintWords Go.Proofs.YtemogjpgkcbaiaaGreatDoorW.PrintLast Go.Proofs.YtemogjpgkcbaiaaGreatDoorW.PrintMore
set_option linter.unusedVariables false
set_option linter.unusedSimpArgs false
theorem ft_not (s : ByteArray) (c : Int) : ∀ (k : Nat) (i : Int), ft s c true k i = !ft s c false k i
  | 0, i => rfl
  | k + 1, i => by
    simp only [ft]
    split
    · split
      · split
        · rfl
        · exact ft_not s c k _
      · split
        · rfl
        · exact ft_not s c k _
    · rfl
theorem fB_spec (s : ByteArray) : ∀ (k : Nat) (i : Int), 0 ≤ i → (s.size : Int) - i ≤ k → (∀ j, i ≤ j → j < fB s k i → j < s.size ∧ bt s j ≠ 93) ∧ (fB s k i < s.size → bt s (fB s k i) = 93)
  | 0, i, h0, h => by
    refine ⟨fun j h1 h2 => by simp only [fB] at h2; omega, fun h1 => by simp only [fB] at h1; omega⟩
  | k + 1, i, h0, h => by
    simp only [fB]
    by_cases hc : i < s.size ∧ bt s i ≠ 93
    · rw [if_pos hc]
      have ih := fB_spec s k (i + 1) (by omega) (by omega)
      refine ⟨fun j h1 h2 => ?_, ih.2⟩
      by_cases e : j = i
      · rw [e]; exact hc
      · exact ih.1 j (by omega) h2
    · rw [if_neg hc]
      refine ⟨fun j h1 h2 => by omega, fun h1 => ?_⟩
      by_cases e : bt s i = 93
      · exact e
      · exact absurd ⟨h1, e⟩ hc
theorem bt_ext (s : ByteArray) (p q j : Nat) (h : p + j < q) (hq : q ≤ s.size) : bt (s.extract p q) (j : Int) = bt s ((p + j : Nat) : Int) := by
  have h1 : j < (s.extract p q).size := by rw [ByteArray.size_extract]; omega
  have h2 : p + j < s.size := by omega
  rw [bt_data _ j h1, bt_data s (p + j) h2]
  have e : (s.extract p q).data.toList[j]? = s.data.toList[p + j]? := by
    rw [Lib.extract_data, List.getElem?_take_of_lt (by omega), List.getElem?_drop]
  rw [List.getElem?_eq_getElem (by rw [Array.length_toList]; exact h1), List.getElem?_eq_getElem (by rw [Array.length_toList]; exact h2)] at e
  rw [Option.some.inj e]
theorem byE_spec (s : ByteArray) (B : Int) (h0 : 0 ≤ B) (h1 : B ≤ s.size) : (ix (s.extract B.toNat s.size).data.toList 93 < 0 ∧ ∀ j, B ≤ j → j < s.size → bt s j ≠ 93) ∨
    (0 ≤ ix (s.extract B.toNat s.size).data.toList 93 ∧ B + ix (s.extract B.toNat s.size).data.toList 93 < s.size ∧ bt s (B + ix (s.extract B.toNat s.size).data.toList 93) = 93 ∧ ∀ j, B ≤ j → j < B + ix (s.extract B.toNat s.size).data.toList 93 → bt s j ≠ 93) := by
  obtain ⟨x, hx⟩ : ∃ x, x = s.extract B.toNat s.size := ⟨_, rfl⟩
  have hxs : x.size = s.size - B.toNat := by rw [hx, ByteArray.size_extract]; omega
  have hbt : ∀ j : Nat, j < x.size → ∃ c, x.data.toList[j]? = some c ∧ bt s (B + j) = (c.toNat : Int) := fun j hj => by
    obtain ⟨c, h2, h3, _⟩ := dv_bt x j hj
    refine ⟨c, h2, ?_⟩
    rw [← h3, hx, bt_ext s B.toNat s.size j (by omega) (Nat.le_refl _)]
    congr 1; omega
  rw [← hx]
  unfold ix
  have h93 : (93 : Int).toNat.toUInt8 = (93 : UInt8) := rfl
  rw [h93]
  have hne : ∀ c : UInt8, c ≠ 93 → (c.toNat : Int) ≠ 93 := fun c h e => h (UInt8.toNat_inj.1 (by have : (93 : UInt8).toNat = 93 := rfl; omega))
  have hlen : x.data.toList.length = x.size := Array.length_toList
  rcases indexByte_spec (93 : UInt8) x.data.toList with ⟨h2, h3⟩ | ⟨k, h2, h3, h4, h5⟩
  · left
    rw [h2]
    refine ⟨by decide, fun j hj1 hj2 => ?_⟩
    obtain ⟨c, hc1, hc2⟩ := hbt (j - B).toNat (by omega)
    rw [show B + (((j - B).toNat : Nat) : Int) = j from by omega] at hc2
    rw [hc2]
    exact hne c (fun e => h3 (e ▸ List.mem_of_getElem? hc1))
  · right
    rw [h2]
    have hk : k < x.size := by omega
    obtain ⟨c, hc1, hc2⟩ := hbt k hk
    rw [h4] at hc1
    obtain rfl : (93 : UInt8) = c := Option.some.inj hc1
    refine ⟨by omega, by omega, hc2, fun j hj1 hj2 => ?_⟩
    obtain ⟨c, hc1, hc2⟩ := hbt (j - B).toNat (by omega)
    rw [show B + (((j - B).toNat : Nat) : Int) = j from by omega] at hc2
    rw [hc2]
    exact hne c (fun e => h5 (j - B).toNat (by omega) (e ▸ hc1))
theorem by_ends (s : ByteArray) (q : Int) (h0 : 0 ≤ q) (h1 : q ≤ s.size) : decide (byI s q < s.size) = decide (0 ≤ byE s q) ∧ (byI s q < s.size → byI s q = byB s q + byE s q) := by
  have hF := skp_pos (s := s) (p := q) (c := 94)
  have hFs := hF.2.2 h1
  have hB := skp_pos (s := s) (p := byF s q) (c := 93)
  have hF0 : q ≤ byF s q ∧ byF s q ≤ s.size := ⟨hF.1, hFs⟩
  have hBs := hB.2.2 hF0.2
  have hBdef : byB s q = skp s (byF s q) 93 := rfl
  have hsk : skp s (byF s q) 93 = if byF s q < s.size ∧ bt s (byF s q) = 93 then byF s q + 1 else byF s q := by
    unfold skp tk
    by_cases a : byF s q < s.size
    · by_cases b : bt s (byF s q) = 93
      · simp [a, b]
      · simp [a, b]
    · simp [a]
  have hsp := byE_spec s (byB s q) (by rw [hBdef]; omega) (by rw [hBdef]; exact hBs)
  rw [show ix (s.extract (byB s q).toNat s.size).data.toList 93 = byE s q from rfl] at hsp
  unfold byI
  obtain ⟨F, hFF⟩ : ∃ F, F = byF s q := ⟨_, rfl⟩
  obtain ⟨B, hBB⟩ : ∃ B, B = byB s q := ⟨_, rfl⟩
  obtain ⟨X, hXX⟩ : ∃ X, X = byE s q := ⟨_, rfl⟩
  rw [hBdef, hsk] at hBB
  rw [← hFF] at hBB hF0 ⊢
  rw [← hXX] at hsp ⊢
  rw [show byB s q = B from by rw [hBdef, hsk, hBB, ← hFF]] at hsp ⊢
  by_cases hl : F < s.size
  · rw [if_pos hl]
    obtain ⟨g1, g2⟩ := fB_spec s s.size (F + 1) (by omega) (by omega)
    have g3 := fB_pos s s.size (F + 1)
    obtain ⟨E, hE⟩ : ∃ E, E = fB s s.size (F + 1) := ⟨_, rfl⟩
    rw [← hE] at g1 g2 g3 ⊢
    have hBr : B = F + 1 ∨ (B = F ∧ bt s F ≠ 93) := by
      rw [hBB]
      by_cases b : bt s F = 93
      · rw [if_pos ⟨hl, b⟩]; exact .inl rfl
      · rw [if_neg (fun h => b h.2)]; exact .inr ⟨rfl, b⟩
    rcases hsp with ⟨x1, x2⟩ | ⟨x1, x2, x3, x4⟩
    · have hEs : ¬ E < s.size := fun h => x2 E (by omega) h (g2 h)
      exact ⟨by rw [decide_eq_false hEs, decide_eq_false (by omega)], fun h => absurd h hEs⟩
    · have hEB : E = B + X := by
        have c1 : ¬ E < B + X := fun h => by
          by_cases hEs : E < s.size
          · exact x4 E (by omega) h (g2 hEs)
          · omega
        have c2 : ¬ B + X < E := fun h => by
          have hge : F + 1 ≤ B + X := by
            rcases hBr with h | ⟨h, h'⟩
            · omega
            · by_cases hX : X = 0
              · exfalso; apply h'; rw [hX, Int.add_zero, h] at x3; exact x3
              · omega
          exact (g1 (B + X) hge h).2 x3
        omega
      exact ⟨by rw [decide_eq_true (by omega), decide_eq_true x1], fun _ => hEB⟩
  · rw [if_neg hl]
    have hBF : B = F := by rw [hBB, if_neg (fun h => hl h.1)]
    have hX : ¬ 0 ≤ X := by
      rcases hsp with ⟨x1, _⟩ | ⟨x1, x2, _⟩ <;> omega
    exact ⟨by rw [decide_eq_false hl, decide_eq_false hX], fun h => absurd h hl⟩
theorem by_set (s : ByteArray) (q : Int) (h0 : 0 ≤ q) (h1 : q ≤ s.size) (hI : byI s q < s.size) (b : Int) : (if tk s q 94 = true then !rfs s q b else rfs s q b) = fts (cut s q (byI s q)) b := by
  have hF := skp_pos (s := s) (p := q) (c := 94)
  have hFI : byF s q ≤ byI s q := by
    unfold byI; split
    · have := (fB_pos s s.size (byF s q + 1)).1; omega
    · exact Int.le_refl _
  have hFd : byF s q = if tk s q 94 = true then q + 1 else q := rfl
  obtain ⟨E, hE⟩ : ∃ E, E = byI s q := ⟨_, rfl⟩
  have hr : rfs s q b = ft (cut s (byF s q) E) b false (cut s (byF s q) E).size 0 := by rw [hE]; rfl
  rw [← hE] at hI hFI ⊢
  rw [hr]
  have hsz : ((cut s q E).size : Int) = E - q := cut_len s q E h0 (by have := hF.1; unfold byF at hFI; omega) (by omega)
  unfold fts
  have hb0 : 0 < (cut s q E).size → bt (cut s q E) 0 = bt s q := fun h => by
    have := bt_ext s q.toNat E.toNat 0 (by omega) (by omega)
    rw [show ((0 : Nat) : Int) = 0 from rfl, Nat.add_zero, Int.toNat_of_nonneg h0] at this
    exact this
  by_cases hT : tk s q 94 = true
  · rw [if_pos hT] at hFd ⊢
    have ht := hT
    unfold tk at ht
    simp only [Bool.and_eq_true, decide_eq_true_eq, beq_iff_eq] at ht
    have hpos : 0 < (cut s q E).size := by omega
    have hh : hat (cut s q E) = true := by
      unfold hat
      rw [hb0 hpos, ht.2, decide_eq_true hpos]; rfl
    have hu : unhat (cut s q E) = cut s (byF s q) E := by
      unfold unhat
      rw [if_pos hh, hFd]
      unfold cut
      apply ba_ext
      rw [Lib.extract_data, Lib.extract_data, Lib.extract_data]
      rw [List.drop_take, List.drop_drop, List.take_take]
      have hsz2 : (s.extract q.toNat E.toNat).size = E.toNat - q.toNat := by rw [ByteArray.size_extract]; omega
      rw [hsz2]
      congr 1
      · omega
      · congr 1; omega
    rw [hh, hu, ft_not]
  · have hT' : tk s q 94 = false := by simpa using hT
    rw [if_neg hT] at hFd ⊢
    have hh : hat (cut s q E) = false := by
      unfold hat
      by_cases hpos : 0 < (cut s q E).size
      · have ht := hT'
        unfold tk at ht
        rw [decide_eq_true (show q < (s.size : Int) by omega), Bool.true_and] at ht
        rw [hb0 hpos, ht, Bool.and_false]
      · rw [decide_eq_false hpos, Bool.false_and]
    have hu : unhat (cut s q E) = cut s (byF s q) E := by
      unfold unhat
      rw [hh, if_neg (by simp), hFd]
    rw [hh, hu]
end Go.Proofs.YtemogjpgkcbaiaaGreatDoor.Sp
end
section
namespace Go.Proofs.YtemogjpgkcbaiaaGreatDoor.Sp
open Go.RowKit Go.Proofs.YtemogjpgkcbaiaaGreatDoorW.PrintWords Go.Proofs.YtemogjpgkcbaiaaGreatDoorW.PrintLast Go.Proofs.YtemogjpgkcbaiaaGreatDoorW.PrintMore
set_option linter.unusedVariables false
set_option linter.unusedSimpArgs false
set_option maxRecDepth 100000
theorem wd_val (s : ByteArray) (p : Int) : -1 ≤ (wd s p).1 ∧ (wd s p).1 ≤ 999 := by
  unfold wd
  split
  · exact ⟨by simp, by simp⟩
  · exact nm_le3 s p
theorem rdr_vals (s : ByteArray) (a p : Int) : -1 ≤ (rdr s a p).2.1.width ∧ (rdr s a p).2.1.width ≤ 999 ∧ (rdr s a p).2.1.set.size ≤ s.size ∧ (rdr s a p).2.1.text.size = 0 := by
  have hw := wd_val s (skp s p 42)
  have h0 : ByteArray.empty.size = 0 := rfl
  unfold rdr
  simp only
  split
  · exact ⟨hw.1, hw.2, by rw [h0]; omega, h0⟩
  · split
    · exact ⟨hw.1, hw.2, by rw [h0]; omega, h0⟩
    · split
      · exact ⟨hw.1, hw.2, by rw [h0]; omega, h0⟩
      · split
        · exact ⟨hw.1, hw.2, cut_size _ _ _, h0⟩
        · exact ⟨hw.1, hw.2, by rw [h0]; omega, h0⟩
theorem pstep_scan {s : ByteArray} {p q : Nat} {c : Cv} (h : p < s.size) (hst : pstep s true p = some (c, q)) : -1 ≤ c.width ∧ c.width ≤ 999 ∧ c.set.size ≤ s.size ∧ c.text.size ≤ s.size := by
  unfold pstep at hst
  by_cases ht : txI s p = 0
  · rw [if_pos ht] at hst
    by_cases hok : (pcv s true p).1 = true
    · rw [if_pos hok] at hst
      simp only [Option.some.injEq, Prod.mk.injEq] at hst
      obtain ⟨rfl, rfl⟩ := hst
      have := rdr_vals s p (p + 1)
      unfold pcv
      simp only [if_true]
      exact ⟨this.1, this.2.1, this.2.2.1, by omega⟩
    · rw [if_neg hok] at hst; cases hst
  · rw [if_neg ht] at hst
    simp only [Option.some.injEq, Prod.mk.injEq] at hst
    obtain ⟨rfl, rfl⟩ := hst
    exact ⟨by simp, by simp, by show ByteArray.empty.size ≤ _; exact Nat.zero_le _, cut_size _ _ _⟩
theorem rn_in (f : Int → Bool) (s : ByteArray) (m : Nat) (p : Int) (h0 : 0 ≤ p) (h1 : p ≤ s.size) : 0 ≤ rn f s m p ∧ rn f s m p ≤ s.size := by
  have := rn_pos f s m p
  exact ⟨by omega, this.2.2 h1⟩
theorem rdIn_pos (s : ByteArray) (cv : Cv) (p : Int) (h0 : 0 ≤ p) (h1 : p ≤ s.size) : 0 ≤ (rdIn s cv p).2 ∧ (rdIn s cv p).2 ≤ s.size := by
  have hw : 0 ≤ wh s p ∧ wh s p ≤ s.size := rn_in _ s _ p h0 h1
  unfold rdIn
  split
  · have h2 : 0 ≤ sgE s p ∧ sgE s p ≤ s.size := rn_in _ s _ _ hw.1 hw.2
    exact rn_in _ s _ _ h2.1 h2.2
  · split
    · exact rn_in _ s _ _ hw.1 hw.2
    · split
      · exact rn_in _ s _ _ h0 h1
      · split
        · exact rn_in _ s _ _ h0 h1
        · split
          · exact ⟨h0, h1⟩
          · exact rn_in _ s _ _ hw.1 hw.2
def scR (t s : ByteArray) (p : Nat) (ip n : Int) (xs : List ByteArray) : Option (List ByteArray × Int) :=
  if h : p < t.size then
    match pstep t true p with
    | none => none
    | some (c, q) =>
      if hq : p < q then
        if c.letter = 0 then
          if (pln c.text s c.text.size 0 ip).1 = true then scR t s q (pln c.text s c.text.size 0 ip).2 n xs else some (xs, n)
        else match (rdIn s c ip).1 with
          | none => none
          | some (x, ok) =>
            if ok = true then
              if c.letter = 37 then scR t s q (rdIn s c ip).2 n xs
              else scR t s q (rdIn s c ip).2 (n + 1) (if c.quiet = true then xs else xs ++ [x])
            else some (xs, n)
      else some (xs, n)
  else some (xs, n)
termination_by t.size - p
theorem scR_end {t s : ByteArray} (ip n : Int) (xs : List ByteArray) : scR t s t.size ip n xs = some (xs, n) := by
  rw [scR, dif_neg (by omega)]
theorem scR_step {t s : ByteArray} {p q : Nat} {c : Cv} (h : p < t.size) (hst : pstep t true p = some (c, q)) (hq : p < q) (ip n : Int) (xs : List ByteArray) :
    scR t s p ip n xs = if c.letter = 0 then
          if (pln c.text s c.text.size 0 ip).1 = true then scR t s q (pln c.text s c.text.size 0 ip).2 n xs else some (xs, n)
        else match (rdIn s c ip).1 with
          | none => none
          | some (x, ok) =>
            if ok = true then
              if c.letter = 37 then scR t s q (rdIn s c ip).2 n xs
              else scR t s q (rdIn s c ip).2 (n + 1) (if c.quiet = true then xs else xs ++ [x])
            else some (xs, n) := by
  rw [scR, dif_pos h]
  simp only [hst, dif_pos hq]
def scn (s t : ByteArray) : List ByteArray × Int × Int := match ckR t 0 with
  | some _ => ([], 0, 2)
  | none => match scR t s 0 0 0 [] with
    | none => ([], 0, 4)
    | some (xs, n) => (xs, n, 0)
def SR (W : World) (base : Nat) (ok : Nat → Prop) (v : Value) (xs : List ByteArray) : Prop := Kd.R Kd.string 9 W base ok v xs
theorem SR.belowS {W W' : World} {B base : Nat} {ok : Nat → Prop} {v : Value} {xs : List ByteArray} (h : SR W base ok v xs) (k : BelowS B W W') : SR W' base ok v xs := by
  refine Kd.R_mono (Kd.R_step (Kd.R_bound h) ?_) (fun _ hk => hk.1)
  rintro i ⟨_, _, _, q, hq, cells, hc⟩ hi
  have hq9 : q = 9 := by
    have : Kd.string.E = [] := rfl
    rw [this] at hq
    simpa using hq
  subst hq9
  exact k.soft i ⟨cells, 9, (0, 0), hc, .inl rfl⟩
theorem SR.chg {S ok : Nat → Prop} {W W' : World} {base : Nat} {v : Value} {xs : List ByteArray} (h : SR W base ok v xs) (k : Chg S W W') (hs : ∀ i, ok i → ¬ S i) : SR W' base ok v xs := R_chg h k hs
def LB (W : World) (L : Nat) (v : Value) : Prop := W.heap[L]? = some (.cells #[v] 22 (0, 0))
theorem LB.lt {W : World} {L : Nat} {v : Value} (h : LB W L v) : L < W.heap.size := (Array.getElem?_eq_some_iff.1 h).1
theorem LB.c {W : World} {L : Nat} {v : Value} (h : LB W L v) : W.cell? ⟨L, 0, none⟩ = some v := cell_of h 0 rfl
theorem LB.set {W : World} {L : Nat} {v v' : Value} (h : LB W L v) : LB (W.setCell ⟨L, 0, none⟩ v') L v' := heap_setCell_same h
theorem LB.chg {S : Nat → Prop} {W W' : World} {L : Nat} {v : Value} (h : LB W L v) (k : Chg S W W') (hs : ¬ S L) : LB W' L v := (k.block L h.lt hs).trans h
def PB (W : World) (P g : Nat) : Prop := W.heap[P]? = some (.cells #[.pointer (some ⟨g, 0, none⟩)] 77 (0, 0))
theorem PB.lt {W : World} {P g : Nat} (h : PB W P g) : P < W.heap.size := (Array.getElem?_eq_some_iff.1 h).1
theorem PB.c {W : World} {P g : Nat} (h : PB W P g) : W.cell? ⟨P, 0, none⟩ = some (.pointer (some ⟨g, 0, none⟩)) := cell_of h 0 rfl
theorem PB.chg {S : Nat → Prop} {W W' : World} {P g : Nat} (h : PB W P g) (k : Chg S W W') (hs : ¬ S P) : PB W' P g := (k.block P h.lt hs).trans h
end Go.Proofs.YtemogjpgkcbaiaaGreatDoor.Sp
end
section
namespace Go.Proofs.YtemogjpgkcbaiaaGreatDoor.Sp
open Go.RowKit Go.Proofs.YtemogjpgkcbaiaaGreatDoorW.PrintWords Go.Proofs.YtemogjpgkcbaiaaGreatDoorW.PrintLast Go.Proofs.YtemogjpgkcbaiaaGreatDoorW.PrintMore
set_option linter.unusedVariables false
set_option linter.unusedSimpArgs false
theorem ix_spec (s : ByteArray) (B : Nat) (c : UInt8) (h1 : B ≤ s.size) : (ix (s.extract B s.size).data.toList (c.toNat : Int) < 0 ∧ ∀ j : Nat, B ≤ j → j < s.size → bt s j ≠ (c.toNat : Int)) ∨
    (∃ k : Nat, ix (s.extract B s.size).data.toList (c.toNat : Int) = k ∧ B + k < s.size ∧ bt s ((B + k : Nat) : Int) = (c.toNat : Int) ∧ ∀ j : Nat, B ≤ j → j < B + k → bt s j ≠ (c.toNat : Int)) := by
  obtain ⟨x, hx⟩ : ∃ x, x = s.extract B s.size := ⟨_, rfl⟩
  have hxs : x.size = s.size - B := by rw [hx, ByteArray.size_extract]; omega
  have hbt : ∀ j : Nat, j < x.size → ∃ c, x.data.toList[j]? = some c ∧ bt s ((B + j : Nat) : Int) = (c.toNat : Int) := fun j hj => by
    obtain ⟨c, h2, h3, _⟩ := dv_bt x j hj
    exact ⟨c, h2, by rw [← h3, hx, bt_ext s B s.size j (by omega) (Nat.le_refl _)]⟩
  rw [← hx]
  unfold ix
  have hcc : ((c.toNat : Int)).toNat.toUInt8 = c := by rw [Int.toNat_natCast]; simp
  rw [hcc]
  have hne : ∀ d : UInt8, d ≠ c → (d.toNat : Int) ≠ c.toNat := fun d h e => h (UInt8.toNat_inj.1 (by omega))
  have hlen : x.data.toList.length = x.size := Array.length_toList
  rcases indexByte_spec c x.data.toList with ⟨h2, h3⟩ | ⟨k, h2, h3, h4, h5⟩
  · left
    rw [h2]
    refine ⟨by decide, fun j hj1 hj2 => ?_⟩
    obtain ⟨d, hc1, hc2⟩ := hbt (j - B) (by omega)
    rw [show B + (j - B) = j from by omega] at hc2
    rw [hc2]
    exact hne d (fun e => h3 (e ▸ List.mem_of_getElem? hc1))
  · right
    obtain ⟨d, hc1, hc2⟩ := hbt k (by omega)
    rw [h4] at hc1
    obtain rfl : c = d := Option.some.inj hc1
    refine ⟨k, h2, by omega, hc2, fun j hj1 hj2 => ?_⟩
    obtain ⟨d, hc1, hc2⟩ := hbt (j - B) (by omega)
    rw [show B + (j - B) = j from by omega] at hc2
    rw [hc2]
    exact hne d (fun e => h5 (j - B) (by omega) (e ▸ hc1))
def tE (s : ByteArray) (p : Nat) : Nat := (p + txE s p).toNat
theorem tx_conv {s : ByteArray} {p : Nat} (h : p < s.size) (hb : bt s p = 37) : txI s p = 0 := by
  rcases ix_spec s p 37 (by omega) with ⟨h1, h2⟩ | ⟨k, h1, h2, h3, h4⟩
  · exact absurd hb (h2 p (Nat.le_refl _) h)
  · by_cases hk : k = 0
    · rw [hk] at h1; exact h1
    · exact absurd hb (h4 p (Nat.le_refl _) (by omega))
theorem tx_text {s : ByteArray} {p : Nat} (h : p < s.size) (hb : bt s p ≠ 37) : txI s p ≠ 0 ∧ ((tE s p : Nat) : Int) = p + txE s p ∧ p < tE s p ∧ tE s p ≤ s.size ∧ (∀ j : Nat, p ≤ j → j < tE s p → bt s j ≠ 37) ∧ (tE s p < s.size → bt s (tE s p) = 37) := by
  have hE : ∀ e : Int, txE s p = e → 0 < e → ((tE s p : Nat) : Int) = p + txE s p := fun e he h0 => by unfold tE; rw [he]; omega
  rcases ix_spec s p 37 (by omega) with ⟨h1, h2⟩ | ⟨k, h1, h2, h3, h4⟩
  · have h1' : txI s p < 0 := h1
    have e1 : txE s p = s.size - p := if_pos h1'
    have e2 := hE _ e1 (by omega)
    rw [e1] at e2
    have e3 : tE s p = s.size := by omega
    refine ⟨by omega, by rw [e1]; omega, by omega, by omega, fun j a b => h2 j a (by omega), fun hh => by omega⟩
  · have h1' : txI s p = k := h1
    have hk : k ≠ 0 := fun e => hb (by rw [e, Nat.add_zero] at h3; exact h3)
    have e1 : txE s p = k := by unfold txE; rw [h1', if_neg (by omega)]
    have e2 := hE _ e1 (by omega)
    rw [e1] at e2
    have e3 : tE s p = p + k := by omega
    refine ⟨by omega, by rw [e1]; omega, by omega, by omega, fun j a b => h4 j a (by omega), fun hh => by rw [e3]; exact h3⟩
theorem tE_next {s : ByteArray} {p : Nat} (h : p < s.size) (hb : bt s p ≠ 37) : tE s p = p + 1 ∨ (p + 1 < s.size ∧ bt s ((p + 1 : Nat) : Int) ≠ 37 ∧ tE s (p + 1) = tE s p) := by
  obtain ⟨a1, a2, a3, a4, a5, a6⟩ := tx_text h hb
  by_cases he : tE s p = p + 1
  · exact .inl he
  · right
    have h2 : p + 1 < s.size := by omega
    have hb2 := a5 (p + 1) (by omega) (by omega)
    obtain ⟨b1, b2, b3, b4, b5, b6⟩ := tx_text h2 hb2
    refine ⟨h2, hb2, ?_⟩
    rcases Nat.lt_trichotomy (tE s (p + 1)) (tE s p) with hl | hl | hl
    · exact absurd (b6 (by omega)) (a5 _ (by omega) hl)
    · exact hl
    · exact absurd (a6 (by omega)) (b5 _ (by omega) hl)
theorem pstep_text {s : ByteArray} {p : Nat} (scan : Bool) (h : p < s.size) (hb : bt s p ≠ 37) : pstep s scan p = some ({ at_ := p, text := cut s p (tE s p) }, tE s p) := by
  have ht := tx_text h hb
  unfold pstep
  rw [if_neg ht.1, ← ht.2.1]
  rfl
theorem pstep_scan37 {s : ByteArray} {p : Nat} (h : p < s.size) (hb : bt s p = 37) : pstep s true p = if (rdr s p (p + 1)).1 = true then some ((rdr s p (p + 1)).2.1, (rdr s p (p + 1)).2.2.toNat) else none := by
  unfold pstep
  rw [if_pos (tx_conv h hb)]
  rfl
theorem ck_text {s : ByteArray} {p : Nat} (h : p < s.size) (hb : bt s p ≠ 37) : ckR s p = ckR s (p + 1) := by
  have ht := tx_text h hb
  rw [ckR_step h (pstep_text true h hb) ht.2.2.1]
  rcases tE_next h hb with he | ⟨h2, hb2, he⟩
  · rw [he]
  · have ht2 := tx_text h2 hb2
    rw [ckR_step h2 (pstep_text true h2 hb2) ht2.2.2.1, he]
theorem ck_conv {s : ByteArray} {p : Nat} (h : p < s.size) (hb : bt s p = 37) : ckR s p = if (rdr s p (p + 1)).1 = true then ckR s (rdr s p (p + 1)).2.2.toNat else some p := by
  by_cases hok : (rdr s p (p + 1)).1 = true
  · have hst := pstep_scan37 h hb
    rw [if_pos hok] at hst ⊢
    exact ckR_step h hst (pstep_facts h hst).1
  · have hst := pstep_scan37 h hb
    rw [if_neg hok] at hst ⊢
    exact ckR_bad h hst
theorem rdr_end {s : ByteArray} {p : Nat} (h : p < s.size) (hok : (rdr s p (p + 1)).1 = true) : (((rdr s p (p + 1)).2.2.toNat : Nat) : Int) = (rdr s p (p + 1)).2.2 ∧ p < (rdr s p (p + 1)).2.2.toNat ∧ (rdr s p (p + 1)).2.2.toNat ≤ s.size := by
  have := pcv_pos (s := s) (scan := true) (p := p) h hok
  have e : pcv s true p = rdr s p (p + 1) := rfl
  rw [e] at this
  omega
theorem rdr_letter {s : ByteArray} {p : Int} (hok : (rdr s p (p + 1)).1 = true) : (rdr s p (p + 1)).2.1.letter ≠ 0 := by
  intro h0
  unfold rdr at hok h0
  simp only at hok h0
  by_cases h1 : nx s (wd s (skp s (p + 1) 42)).2 = 0
  · rw [h1] at hok
    simp at hok
  · split at h0
    · exact h1 h0
    · split at h0
      · exact h1 h0
      · split at h0
        · exact h1 h0
        · split at h0
          · exact h1 h0
          · exact h1 h0
theorem rc_text {s : ByteArray} {p : Nat} (h : p < s.size) (hb : bt s p ≠ 37) (n : Int) : rcR s p n = rcR s (p + 1) n := by
  have ht := tx_text h hb
  rw [rcR_step h (pstep_text true h hb) ht.2.2.1]
  rcases tE_next h hb with he | ⟨h2, hb2, he⟩
  · rw [he]; rfl
  · have ht2 := tx_text h2 hb2
    rw [rcR_step h2 (pstep_text true h2 hb2) ht2.2.2.1, he]; rfl
theorem rc_conv {s : ByteArray} {p : Nat} (h : p < s.size) (hb : bt s p = 37) (hok : (rdr s p (p + 1)).1 = true) (n : Int) :
    rcR s p n = rcR s (rdr s p (p + 1)).2.2.toNat (if (rdr s p (p + 1)).2.1.letter ≠ 37 ∧ (rdr s p (p + 1)).2.1.quiet = false then n + 1 else n) := by
  have hst := pstep_scan37 h hb
  rw [if_pos hok] at hst
  rw [rcR_step h hst (pstep_facts h hst).1]
  have hl := rdr_letter hok
  congr 1
  have : tells (rdr s p (p + 1)).2.1 = decide ((rdr s p (p + 1)).2.1.letter ≠ 37 ∧ (rdr s p (p + 1)).2.1.quiet = false) := by
    unfold tells
    by_cases h1 : (rdr s p (p + 1)).2.1.letter = 37
    · simp [h1]
    · simp [h1, hl]
  rw [this]
  simp
theorem pln_shift (a b s : ByteArray) : ∀ (m : Nat) (i j ip : Int), (∀ k : Nat, k < m → bt a (i + k) = bt b (j + k)) → pln a s m i ip = pln b s m j ip
  | 0, i, j, ip, h => rfl
  | m + 1, i, j, ip, h => by
    have h0 := h 0 (by omega)
    rw [show i + ((0 : Nat) : Int) = i from by omega, show j + ((0 : Nat) : Int) = j from by omega] at h0
    have ih := fun ip' => pln_shift a b s m (i + 1) (j + 1) ip' (fun k hk => by
      have := h (k + 1) (by omega)
      rw [show i + 1 + (k : Int) = i + ((k + 1 : Nat) : Int) from by omega, show j + 1 + (k : Int) = j + ((k + 1 : Nat) : Int) from by omega]
      exact this)
    simp only [pln, h0, ih]
theorem sc_text {t s : ByteArray} {p : Nat} (h : p < t.size) (hb : bt t p ≠ 37) (ip n : Int) (xs : List ByteArray) :
    scR t s p ip n xs = if isWh (bt t p) = true then scR t s (p + 1) (wh s ip) n xs else if ip < s.size ∧ bt s ip = bt t p then scR t s (p + 1) (ip + 1) n xs else some (xs, n) := by
  have ht := tx_text h hb
  have hsz : (cut t p (tE t p)).size = tE t p - p := by
    have := cut_len t p (tE t p) (by omega) (by omega) (by omega); omega
  have hcut : ∀ (a : Nat) (k : Nat), a + k < tE t p → bt (cut t a (tE t p)) (k : Int) = bt t ((a + k : Nat) : Int) := fun a k hk => by
    have := bt_ext t a (tE t p) k hk ht.2.2.2.1
    unfold cut
    rw [Int.toNat_natCast, Int.toNat_natCast]
    exact this
  rw [scR_step h (pstep_text true h hb) ht.2.2.1, if_pos rfl]
  obtain ⟨m, hm⟩ : ∃ m, tE t p - p = m + 1 := ⟨tE t p - p - 1, by omega⟩
  have h0 : bt (cut t p (tE t p)) 0 = bt t p := by
    have := hcut p 0 (by omega)
    rw [show ((0 : Nat) : Int) = 0 from rfl, Nat.add_zero] at this
    exact this
  have hrest : ∀ ip', (if (pln (cut t p (tE t p)) s m (0 + 1) ip').1 = true then scR t s (tE t p) (pln (cut t p (tE t p)) s m (0 + 1) ip').2 n xs else some (xs, n)) = scR t s (p + 1) ip' n xs := by
    intro ip'
    rcases tE_next h hb with he | ⟨h2, hb2, he⟩
    · have : m = 0 := by omega
      subst this
      rw [he]; rfl
    · have ht2 := tx_text h2 hb2
      have hsz2 : (cut t ((p + 1 : Nat) : Int) (tE t p)).size = m := by
        have := cut_len t ((p + 1 : Nat) : Int) (tE t p) (by omega) (by omega) (by omega); omega
      rw [scR_step h2 (pstep_text true h2 hb2) ht2.2.2.1, if_pos rfl, he]
      show _ = if (pln (cut t ((p + 1 : Nat) : Int) (tE t p)) s (cut t ((p + 1 : Nat) : Int) (tE t p)).size 0 ip').1 = true then scR t s (tE t p) (pln (cut t ((p + 1 : Nat) : Int) (tE t p)) s (cut t ((p + 1 : Nat) : Int) (tE t p)).size 0 ip').2 n xs else some (xs, n)
      rw [hsz2, pln_shift (cut t p (tE t p)) (cut t ((p + 1 : Nat) : Int) (tE t p)) s m (0 + 1) 0 ip' (fun k hk => by
        have e1 := hcut p (k + 1) (by omega)
        have e2 := hcut (p + 1) k (by omega)
        rw [show (0 : Int) + 1 + (k : Int) = ((k + 1 : Nat) : Int) from by omega, e1, Int.zero_add, e2]
        congr 1; omega)]
  show (if (pln (cut t p (tE t p)) s (cut t p (tE t p)).size 0 ip).1 = true then scR t s (tE t p) (pln (cut t p (tE t p)) s (cut t p (tE t p)).size 0 ip).2 n xs else some (xs, n)) = _
  rw [hsz, hm]
  simp only [pln, h0]
  by_cases hw : isWh (bt t p) = true
  · rw [if_pos hw, if_pos hw]; exact hrest _
  · rw [if_neg hw, if_neg hw]
    by_cases hc : ip < s.size ∧ bt s ip = bt t p
    · rw [if_pos hc, if_pos hc]; exact hrest _
    · rw [if_neg hc, if_neg hc]; rfl
theorem sc_conv {t s : ByteArray} {p : Nat} (h : p < t.size) (hb : bt t p = 37) (hok : (rdr t p (p + 1)).1 = true) (ip n : Int) (xs : List ByteArray) :
    scR t s p ip n xs = match (rdIn s (rdr t p (p + 1)).2.1 ip).1 with
      | none => none
      | some (x, ok) => if ok = true then
          if (rdr t p (p + 1)).2.1.letter = 37 then scR t s (rdr t p (p + 1)).2.2.toNat (rdIn s (rdr t p (p + 1)).2.1 ip).2 n xs
          else scR t s (rdr t p (p + 1)).2.2.toNat (rdIn s (rdr t p (p + 1)).2.1 ip).2 (n + 1) (if (rdr t p (p + 1)).2.1.quiet = true then xs else xs ++ [x])
        else some (xs, n) := by
  have hst := pstep_scan37 h hb
  rw [if_pos hok] at hst
  rw [scR_step h hst (pstep_facts h hst).1, if_neg (rdr_letter hok)]
  all_goals rfl
end Go.Proofs.YtemogjpgkcbaiaaGreatDoor.Sp
end
