/- Part 9 of 11 of the proof of SpellScans: contracts of functions that its law calls; no condition. -/
import Derived.Test.YtemogjpgkcbaiaaGreatDoorA8
import Derived.Deep.MidRow
import Derived.Deep.RegionHeld3
import Derived.OrdersHeld
section
namespace Go.Proofs.YtemogjpgkcbaiaaGreatDoor.Sp
open Go.RowKit Go.Proofs.YtemogjpgkcbaiaaGreatDoorW.PrintWords Go.Proofs.YtemogjpgkcbaiaaGreatDoorW.PrintLast Go.Proofs.YtemogjpgkcbaiaaGreatDoorW.PrintMore
set_option linter.unusedVariables false
set_option linter.unusedSimpArgs false
set_option maxRecDepth 100000
attribute [local go_sem] Oper.semAt_some
theorem store72 {W : World} {C : Nat} {g : Nat → Value} (h : FB W C g) (g' : Nat → Value) (hO : One g') : (storeCells ⟨C, 0, none⟩ (gL g')).run Tryz.prog W = .ok () (W.setCells C 0 (gL g')) := by
  have ht := h.there_ g'
  have := run_storeCells_cells (P := Tryz.prog) C 0 (gL g') 0 W (fun j hj => (ht j (by simpa using hj)).1) (fun j hj => (ht j (by simpa using hj)).2)
    (fun v hv => by obtain ⟨i, _, rfl⟩ := List.mem_map.1 hv; exact hO i)
  exact this
theorem new_two (w : World) : ∃ W1, (storeCells ⟨w.heap.size + 1, 0, none⟩ (Tryz.zeroCells72.toList.set 6 (.int .i64 (-1)))).run Tryz.prog ((w.alloc (Obj.cells Tryz.zeroCells72 72)).alloc (Obj.cells Tryz.zeroCells72 72)) = .ok () W1 ∧
    FB W1 w.heap.size gz ∧ FB W1 (w.heap.size + 1) (upd gz 6 (.int .i64 (-1))) ∧ Chg (fun _ => False) w W1 := by
  have h0 : FB (w.alloc (Obj.cells Tryz.zeroCells72 72)) w.heap.size gz := FB.new w
  have h1 : FB ((w.alloc (Obj.cells Tryz.zeroCells72 72)).alloc (Obj.cells Tryz.zeroCells72 72)) (w.heap.size + 1) gz := by
    have := FB.new (w.alloc (Obj.cells Tryz.zeroCells72 72))
    rwa [World.size_alloc] at this
  have h2 := h0.chg ((Chg.refl (fun _ => False) _).alloc (Obj.cells Tryz.zeroCells72 72)) (fun h => h)
  have e : Tryz.zeroCells72.toList.set 6 (.int .i64 (-1)) = gL (upd gz 6 (.int .i64 (-1))) := by rw [gz_zero, List.toList_toArray, gL_set]
  have k : Chg (fun i => i = w.heap.size + 1) ((w.alloc (Obj.cells Tryz.zeroCells72 72)).alloc (Obj.cells Tryz.zeroCells72 72)) (((w.alloc (Obj.cells Tryz.zeroCells72 72)).alloc (Obj.cells Tryz.zeroCells72 72)).setCells (w.heap.size + 1) 0 (gL (upd gz 6 (.int .i64 (-1))))) := (Chg.refl _ _).setCells _ 0 _ (.inl rfl)
  refine ⟨_, by rw [e]; exact store72 h1 _ (gz_one.upd 6 rfl), h2.chg k (by omega), h1.setAll _, ?_⟩
  exact (((Chg.refl _ w).alloc _).alloc _).trans' k (fun i hi => .inr (by omega))
def isR (c : Int) : Bool := decide (0 ≤ ix [100, 120, 111, 98, 115, 99, 91, 110, 37] c)
theorem isR_iff (c : Int) (h0 : 0 ≤ c) (h1 : c ≤ 255) : isR c = true ↔ (c = 100 ∨ c = 120 ∨ c = 111 ∨ c = 98 ∨ c = 115) ∨ (c = 99 ∨ c = 110) ∨ c = 37 ∨ c = 91 := by
  have hall : ∀ n : Fin 256, isR ((n.val : Nat) : Int) = true ↔ ((((n.val : Nat) : Int) = 100 ∨ ((n.val : Nat) : Int) = 120 ∨ ((n.val : Nat) : Int) = 111 ∨ ((n.val : Nat) : Int) = 98 ∨ ((n.val : Nat) : Int) = 115) ∨ (((n.val : Nat) : Int) = 99 ∨ ((n.val : Nat) : Int) = 110) ∨ ((n.val : Nat) : Int) = 37 ∨ ((n.val : Nat) : Int) = 91) := by
    decide +kernel
  have := hall ⟨c.toNat, by omega⟩
  simp only [Int.toNat_of_nonneg h0] at this
  exact this
theorem nmGo_val (s : ByteArray) : ∀ (m : Nat) (n p : Int), 0 < n → 0 < (nmGo s m n p).1
  | 0, n, p, h => h
  | m + 1, n, p, h => by
    simp only [nmGo]
    split
    · rename_i hh
      have := isDig_iff.1 hh.2
      exact nmGo_val s m _ _ (by omega)
    · exact h
theorem wd_ref (s : ByteArray) (p : Int) : wd s p = if 0 < (nmGo s 3 0 p).1 ∧ bt s p ≠ 48 then nmGo s 3 0 p else (-1, p) := by
  have hp := nmGo_pos s 3 0 p
  by_cases hlt : p < s.size
  · have hnx : nx s p = bt s p := if_pos hlt
    by_cases h48 : bt s p = 48
    · unfold wd; rw [hnx, if_pos h48, if_neg (fun h => h.2 h48)]
    · unfold wd nm
      rw [hnx, if_neg h48]
      by_cases hd : isDig (bt s p) = true
      · have hg : nmGo s 3 0 p = nmGo s 2 (10 * 0 + (bt s p - 48)) (p + 1) := if_pos ⟨hlt, hd⟩
        have hdd := isDig_iff.1 hd
        have h1 := nmGo_val s 2 (10 * 0 + (bt s p - 48)) (p + 1) (by omega)
        have h2 := (nmGo_pos s 2 (10 * 0 + (bt s p - 48)) (p + 1)).1
        rw [hg, if_neg (by omega), if_pos ⟨h1, h48⟩]
      · have hg : nmGo s 3 0 p = (0, p) := if_neg (fun h => hd h.2)
        rw [hg, if_pos rfl, if_neg (fun h => by have := h.1; simp at this)]
  · have hnx : nx s p = 0 := if_neg hlt
    have hg : nmGo s 3 0 p = (0, p) := if_neg (fun h => hlt h.1)
    unfold wd nm
    rw [hnx, if_neg (by decide), hg, if_pos rfl, if_neg (fun h => by have := h.1; simp at this)]
def rdC (s : ByteArray) (a : Int) (K : Bool) (W i2 : Int) : Bool × Cv × Int :=
  let c : Cv := { at_ := a, quiet := K, width := W, letter := nx s i2 }
  let q := i2 + 1
  if c.letter = 100 ∨ c.letter = 120 ∨ c.letter = 111 ∨ c.letter = 98 ∨ c.letter = 115 then (true, c, q)
  else if c.letter = 99 ∨ c.letter = 110 then (decide (c.width < 0), c, q)
  else if c.letter = 37 then (decide (c.width < 0) && !c.quiet, c, q)
  else if c.letter = 91 then (decide (0 ≤ byE s q), { c with set := cut s q (byB s q + byE s q) }, byB s q + byE s q + 1)
  else (false, c, q)
theorem rdC_at {s : ByteArray} {a : Int} {K : Bool} {W i2 L : Int} (h : nx s i2 = L) : rdC s a K W i2 =
    if L = 100 ∨ L = 120 ∨ L = 111 ∨ L = 98 ∨ L = 115 then (true, { at_ := a, quiet := K, width := W, letter := L }, i2 + 1)
    else if L = 99 ∨ L = 110 then (decide (W < 0), { at_ := a, quiet := K, width := W, letter := L }, i2 + 1)
    else if L = 37 then (decide (W < 0) && !K, { at_ := a, quiet := K, width := W, letter := L }, i2 + 1)
    else if L = 91 then (decide (0 ≤ byE s (i2 + 1)), { at_ := a, quiet := K, width := W, letter := L, set := cut s (i2 + 1) (byB s (i2 + 1) + byE s (i2 + 1)) }, byB s (i2 + 1) + byE s (i2 + 1) + 1)
    else (false, { at_ := a, quiet := K, width := W, letter := L }, i2 + 1) := by subst h; rfl
theorem rdr_C (s : ByteArray) (a p : Int) : rdr s a p = rdC s a (tk s p 42) (wd s (skp s p 42)).1 (wd s (skp s p 42)).2 := rfl
def RvOk (s : ByteArray) (p : Int) (g : Nat → Value) : Prop :=
  g 6 = .int .i64 (rdr s p (p + 1)).2.1.width ∧ g 10 = .bool (rdr s p (p + 1)).2.1.quiet ∧ g 11 = .int .u8 (rdr s p (p + 1)).2.1.letter ∧ g 268 = .int .i64 (rdr s p (p + 1)).2.2 ∧
    ((rdr s p (p + 1)).2.1.letter = 91 → ∀ b : Nat, b < 256 → g (12 + b) = .bool (fts (rdr s p (p + 1)).2.1.set b))
def RgPost (s : ByteArray) (p : Int) (w : World) (e : Ending) (w' : World) : Prop :=
  ∃ g, One g ∧ e = .returned (.tuple #[.agg (gL g).toArray, .bool (rdr s p (p + 1)).1]) ∧ Chg (fun _ => False) w w' ∧ ((rdr s p (p + 1)).1 = true → RvOk s p g)
theorem ext_one (s : ByteArray) (i : Int) (h0 : 0 ≤ i) (h1 : i < s.size) : ∃ c : UInt8, (c.toNat : Int) = bt s i ∧ s.extract i.toNat (i + 1).toNat = ⟨#[c]⟩ := by
  have hlt : i.toNat < s.size := by omega
  refine ⟨s[i.toNat]'hlt, bt_at s i hlt, ?_⟩
  apply ba_ext
  rw [Lib.extract_data]
  have e : (i + 1).toNat - i.toNat = 1 := by omega
  rw [e]
  have hl : i.toNat < s.data.toList.length := by rw [Array.length_toList]; exact hlt
  rw [List.drop_eq_getElem_cons hl]
  rfl
def rLet : ByteArray := ⟨#[100, 120, 111, 98, 115, 99, 91, 110, 37]⟩
theorem contains_calls (s : ByteArray) (i : Int) (h0 : 0 ≤ i) (h1 : i < s.size) (w : World) :
    Calls Tryz.prog 56 #[.string rLet, .string (s.extract i.toNat (i + 1).toNat)] w fun e w' => e = .returned (.bool (isR (bt s i))) ∧ w = w' := by
  obtain ⟨c, hc, he⟩ := ext_one s i h0 h1
  rw [he]
  refine (Tryz.strings_Contains_one rLet c w).mono ?_
  rintro e w' ⟨rfl, rfl⟩
  refine ⟨?_, rfl⟩
  have : (bt s i).toNat.toUInt8 = c := by
    rw [← hc, Int.toNat_natCast]; simp
  unfold isR ix
  rw [this]
  rfl
set_option maxHeartbeats 4000000 in
theorem reading_calls (s : ByteArray) (hs : s.size ≤ 100000) (p : Int) (h0 : 0 ≤ p) (h1 : p < s.size) (w : World) : Calls Tryz.prog 32 #[.string s, .int .i64 p] w (RgPost s p w) := by
  obtain ⟨W1, hst, hR, hC, k1⟩ := new_two w
  have p0 : (0 ≤ p) = True := eq_true h0
  have w1 : IntKind.i64.wrap (p + 1) = p + 1 := i64_small (by omega) (by omega)
  have w2 : IntKind.i64.wrap (p + 1 + 1) = p + 1 + 1 := i64_small (by omega) (by omega)
  obtain ⟨R, hRR⟩ : ∃ R, R = w.heap.size := ⟨_, rfl⟩
  have HRR := Lib.hid hRR
  obtain ⟨K, hK⟩ : ∃ K, K = tk s (p + 1) 42 := ⟨_, rfl⟩
  have HK := Lib.hid (hK.trans (show tk s (p + 1) 42 = (decide (p + 1 < s.size) && (bt s (p + 1) == 42)) from rfl))
  have HK2 := Lib.hid hK
  clear hRR hK
  go_enter Tryz.func32, Tryz.ntmps32
  go_upto_region 3 with fail
  rw [← HRR.out] at hR hC ⊢
  clear hst
  go_cut [23] (fun v23 wx => v23 = .bool K ∧ wx = W1)
  case first =>
    have ht := HK.out
    by_cases hq : p + 1 < s.size
    · have q4 : (p + 1 < (s.size : Int)) = True := eq_true hq
      have g1 : decide (p + 1 < (s.size : Int)) = true := by simpa using hq
      have hb := bt_at s (p + 1)
      have p1 : (0 ≤ p + 1) = True := eq_true (by omega)
      rw [g1, Bool.true_and] at ht
      have HT := Lib.hid ht
      clear ht hq
      go_wp2_with fail
      go_meet
      exact ⟨by rw [HT.out], rfl⟩
    · have q4 : (p + 1 < (s.size : Int)) = False := eq_false hq
      have g1 : decide (p + 1 < (s.size : Int)) = false := by simpa using hq
      rw [g1, Bool.false_and] at ht
      have HT := Lib.hid ht
      clear ht hq
      go_wp2_with fail
      go_meet
      exact ⟨by rw [HT.out], rfl⟩
  case rest =>
  obtain ⟨rfl, rfl⟩ := hcut
  have hf10 := blk_frozen hC 10
  have hc10 := hC.c 10 (by decide)
  go_upto_if 23 with fail
  go_cut [7] (fun v7 wx => v7 = .int .i64 (if K = true then p + 1 + 1 else p + 1) ∧ FB wx R gz ∧ FB wx (R + 1) (upd (upd gz 6 (.int .i64 (-1))) 10 (.bool K)) ∧ Chg (fun _ => False) w wx)
  case first =>
    cases K
    · go_wp2_with fail
      go_meet
      refine ⟨rfl, hR, ?_, k1⟩
      have : upd (upd gz 6 (.int .i64 (-1))) 10 (.bool false) = upd gz 6 (.int .i64 (-1)) := by
        funext j; unfold upd; split
        · subst j; rfl
        · rfl
      rw [this]; exact hC
    · go_wp2_with fail
      go_meet
      refine ⟨rfl, hR.chg ((Chg.refl (fun i => i = R + 1) _).setCell _ _ (.inl rfl)) (by omega), hC.set 10 _, k1.setCell _ _ (.inr (by rw [← HRR.out]; exact Nat.le_succ R))⟩
  case rest =>
  obtain ⟨rfl, hR2, hC2, k2⟩ := hcut
  clear hR hC k1 hf10 hc10 p0 w1 w2
  obtain ⟨i1, hi1⟩ : ∃ i1, i1 = (if K = true then p + 1 + 1 else p + 1) := ⟨_, rfl⟩
  have hsk : i1 = skp s (p + 1) 42 := by rw [hi1, HK2.out]; rfl
  have hi1r : 0 ≤ i1 ∧ i1 ≤ s.size := by
    have := (skp_pos (s := s) (p := p + 1) (c := 42))
    rw [hsk]; omega
  rw [← hi1]
  have HI1 := Lib.hid hsk
  clear hi1 hsk
  have hdig := fun W => digits_calls s hs i1 3 hi1r.1 (by omega) (by decide) (by decide) W
  rw [show (3 : Int).toNat = 3 from rfl] at hdig
  obtain ⟨N, hN⟩ : ∃ N, N = nmGo s 3 0 i1 := ⟨_, rfl⟩
  have hwd := wd_ref s i1
  have hNp := nmGo_pos s 3 0 i1
  have hNl : 0 < N.1 → i1 < s.size := fun h => by
    by_cases hl : i1 < s.size
    · exact hl
    · rw [hN, show nmGo s 3 0 i1 = (0, i1) from if_neg (fun h => hl h.1)] at h
      simp at h
  rw [← hN] at hdig hwd hNp
  obtain ⟨B, hB⟩ : ∃ B : Bool, B = (decide (0 < N.1) && (bt s i1 != 48)) := ⟨_, rfl⟩
  have hwd2 : wd s i1 = if B = true then N else (-1, i1) := by
    rw [hwd, hB]
    by_cases h1 : 0 < N.1
    · by_cases h2 : bt s i1 = 48
      · simp [h1, h2]
      · simp [h1, h2]
    · simp [h1]
  have HDIG := Lib.hid hdig
  have HB := Lib.hid hB
  have HWD := Lib.hid hwd2
  have HN := Lib.hid hN
  clear hdig hB hwd hwd2 hN
  go_wp2_with fail
  refine (HDIG.out _).mono ?_
  rintro e w2 ⟨rfl, k3⟩
  have hR3 := hR2.chg k3 (fun h => h)
  have hC3 := hC2.chg k3 (fun h => h)
  have k4 := k2.trans k3
  clear hR2 hC2 k2 k3
  go_upto_region 7 with fail
  go_cut [40] (fun v40 wx => v40 = .bool B ∧ wx = w2)
  case first =>
    have ht := HB.out
    by_cases hq : 0 < N.1
    · have hl := hNl hq
      have g0 : decide (N.1 > 0) = true := by simpa using hq
      have g0' : (0 < N.1) = True := eq_true hq
      have q4 : (i1 < (s.size : Int)) = True := eq_true hl
      have p1 : (0 ≤ i1) = True := eq_true hi1r.1
      have hb := bt_at s i1
      rw [decide_eq_true hq, Bool.true_and] at ht
      have HT := Lib.hid ht
      clear ht hq hl
      go_wp2_with fail
      go_meet
      exact ⟨by rw [HT.out], rfl⟩
    · have g0 : decide (N.1 > 0) = false := by simpa using hq
      have g0' : (0 < N.1) = False := eq_false hq
      rw [decide_eq_false hq, Bool.false_and] at ht
      have HT := Lib.hid ht
      clear ht hq
      go_wp2_with fail
      go_meet
      exact ⟨by rw [HT.out], rfl⟩
  case rest =>
  obtain ⟨rfl, rfl⟩ := hcut
  have hf6 := blk_frozen hC3 6
  have hc6 := hC3.c 6 (by decide)
  go_upto_if 40 with fail
  obtain ⟨g2, hg2⟩ : ∃ g2, g2 = upd (upd (upd gz 6 (.int .i64 (-1))) 10 (.bool K)) 6 (.int .i64 (wd s i1).1) := ⟨_, rfl⟩
  have HG2 := Lib.hid hg2
  clear hg2
  go_cut [7] (fun v7 wx => v7 = .int .i64 (wd s i1).2 ∧ FB wx R gz ∧ FB wx (R + 1) g2 ∧ Chg (fun _ => False) w wx)
  case first =>
    cases B
    · go_wp2_with fail
      go_meet
      have hw := HWD.out
      rw [if_neg (by simp)] at hw
      refine ⟨by rw [hw], hR3, ?_, k4⟩
      have : g2 = upd (upd gz 6 (.int .i64 (-1))) 10 (.bool K) := by
        rw [HG2.out, hw]
        funext j
        by_cases h6 : j = 6
        · subst h6; rw [upd_eq, upd_ne _ _ (by decide), upd_eq]
        · rw [upd_ne _ _ h6]
      rw [this]; exact hC3
    · go_wp2_with fail
      go_meet
      have hw := HWD.out
      rw [if_pos trivial] at hw
      refine ⟨by rw [hw], hR3.chg ((Chg.refl (fun i => i = R + 1) _).setCell _ _ (.inl rfl)) (by omega), ?_, k4.setCell _ _ (.inr (by rw [← HRR.out]; exact Nat.le_succ R))⟩
      rw [HG2.out, hw]
      exact hC3.set 6 _
  case rest =>
  obtain ⟨rfl, hR4, hC4, k5⟩ := hcut
  have hwr : 0 ≤ (wd s i1).2 ∧ (wd s i1).2 ≤ s.size := by
    rw [HWD.out]
    split
    · omega
    · exact hi1r
  clear hR3 hC3 k4 hf6 hc6 hNp hNl
  obtain ⟨i2, hi2⟩ : ∃ i2, i2 = (wd s i1).2 := ⟨_, rfl⟩
  rw [← hi2] at hwr ⊢
  have HI2 := Lib.hid hi2
  clear hi2
  obtain ⟨WI, hWI⟩ : ∃ WI, WI = (wd s i1).1 := ⟨_, rfl⟩
  have hrd : rdr s p (p + 1) = rdC s p K WI i2 := by rw [rdr_C, ← HI1.out, ← HI2.out, ← HK2.out, ← hWI]
  have HG3 := Lib.hid (show g2 = upd (upd (upd gz 6 (.int .i64 (-1))) 10 (.bool K)) 6 (.int .i64 WI) by rw [HG2.out, hWI])
  clear hWI
  have HRD := Lib.hid hrd
  clear hrd
  have w3 : IntKind.i64.wrap (i2 + 1) = i2 + 1 := i64_small (by omega) (by omega)
  have p2 : (0 ≤ i2) = True := eq_true hwr.1
  by_cases hl2 : i2 < s.size
  · have q4 : (i2 < (s.size : Int)) = True := eq_true hl2
    have q5 : ((s.size : Int) ≤ i2) = False := eq_false (by omega)
    have g5 : decide ((s.size : Int) ≤ i2) = false := by simp; omega
    have e2 : (i2 ≤ i2 + 1) = True := eq_true (by omega)
    have e3 : (i2 + 1 ≤ (s.size : Int)) = True := eq_true (by omega)
    have e4 : (0 ≤ i2 + 1) = True := eq_true (by omega)
    have hb := bt_at s i2
    have hbr := bt_range s i2
    have hnx : nx s i2 = bt s i2 := if_pos hl2
    have hcc := fun W => contains_calls s i2 hwr.1 hl2 W
    have HCC := Lib.hid hcc
    have HNX := Lib.hid hnx
    have HL2 := Lib.hid hl2
    have hR4c := hR4
    clear hcc hnx
    obtain ⟨L, hL⟩ : ∃ L, L = bt s i2 := ⟨_, rfl⟩
    rw [← hL] at hb hbr HCC
    have HNL := Lib.hid (show nx s i2 = L by rw [HNX.out, hL])
    have hone : One g2 := by rw [HG2.out]; exact ((gz_one.upd 6 rfl).upd 10 rfl).upd 6 rfl
    clear hL
    go_wp2_with fail
    refine (HCC.out _).mono ?_
    rintro e w5 ⟨rfl, rfl⟩
    by_cases hr : isR L = true
    · have hset := (isR_iff L hbr.1 hbr.2).1 hr
      have HSET := Lib.hid hset
      rw [hr]
      have hc11 := hC4.c 11 (by decide)
      have hf11 := blk_frozen hC4 11
      have hc268 := hC4.c 268 (by decide)
      have hf268 := blk_frozen hC4 268
      have hR7 : FB ((wc.setCell ⟨R + 1, 11, none⟩ (.int .u8 L)).setCell ⟨R + 1, 268, none⟩ (.int .i64 (i2 + 1))) R gz := hR4.chg (((Chg.refl (fun i => i = R + 1) _).setCell _ _ (.inl rfl)).setCell _ _ (.inl rfl)) (by omega)
      have hC7 : FB ((wc.setCell ⟨R + 1, 11, none⟩ (.int .u8 L)).setCell ⟨R + 1, 268, none⟩ (.int .i64 (i2 + 1))) (R + 1) (upd (upd g2 11 (.int .u8 L)) 268 (.int .i64 (i2 + 1))) := (hC4.set 11 _).set 268 _
      have k7 : Chg (fun _ => False) w ((wc.setCell ⟨R + 1, 11, none⟩ (.int .u8 L)).setCell ⟨R + 1, 268, none⟩ (.int .i64 (i2 + 1))) := (k5.setCell _ _ (.inr (by rw [← HRR.out]; exact Nat.le_succ R))).setCell _ _ (.inr (by rw [← HRR.out]; exact Nat.le_succ R))
      clear hset hr hR4c
      go_upto_region 12 with fail
      obtain ⟨W7, hW7⟩ : ∃ W7, W7 = ((wc.setCell ⟨R + 1, 11, none⟩ (.int .u8 L)).setCell ⟨R + 1, 268, none⟩ (.int .i64 (i2 + 1))) := ⟨_, rfl⟩
      rw [← hW7] at hR7 hC7 k7 ⊢
      obtain ⟨g3, hg3⟩ : ∃ g3, g3 = upd (upd g2 11 (.int .u8 L)) 268 (.int .i64 (i2 + 1)) := ⟨_, rfl⟩
      have hone3 : One g3 := by rw [hg3]; exact (hone.upd 11 rfl).upd 268 rfl
      have g6 : g3 6 = .int .i64 WI := by rw [hg3, upd_ne _ _ (by decide), upd_ne _ _ (by decide), HG3.out, upd_eq]
      have g10 : g3 10 = .bool K := by rw [hg3, upd_ne _ _ (by decide), upd_ne _ _ (by decide), HG3.out, upd_ne _ _ (by decide), upd_eq]
      have g11 : g3 11 = .int .u8 L := by rw [hg3, upd_ne _ _ (by decide), upd_eq]
      have g268 : g3 268 = .int .i64 (i2 + 1) := by rw [hg3, upd_eq]
      have gset : ∀ b : Nat, b < 256 → g3 (12 + b) = .bool false := fun b hb => by
        rw [hg3, upd_ne _ _ (by omega), upd_ne _ _ (by omega), HG3.out, upd_ne _ _ (by omega), upd_ne _ _ (by omega), upd_ne _ _ (by omega)]
        unfold gz
        rw [if_neg (by omega), if_neg (by omega)]
      rw [← hg3] at hC7
      have hlen3 : (gL g3).length = 269 := gL_len g3
      have H3 := Lib.hid (And.intro hone3 (And.intro g6 (And.intro g10 (And.intro g11 (And.intro g268 gset)))))
      have e11 := hC7.c 11 (by decide)
      have e6 := hC7.c 6 (by decide)
      have e10 := hC7.c 10 (by decide)
      rw [g11] at e11
      rw [g6] at e6
      rw [g10] at e10
      clear hg3 hone3 g6 g10 g11 g268 gset hW7 hR4 hC4 k5 hc11 hf11 hc268 hf268 q4 q5 g5 e2 e3 e4 hb p2 w3 hone hbr hl2
      rcases HSET.out with hs1 | hs1 | hs1 | hs1
      · have q1 : (L == 99) = false := by simp; omega
        have q2 : (L == 110) = false := by simp; omega
        have q3 : (L == 37) = false := by simp; omega
        have q4 : (L == 91) = false := by simp; omega
        have hr := HRD.out
        rw [rdC_at HNL.out, if_pos hs1] at hr
        have HR := Lib.hid hr
        have HS1 := Lib.hid hs1
        obtain ⟨W6, hW6⟩ : ∃ W6, W6 = W7.setCells R 0 (gL g3) := ⟨_, rfl⟩
        have hst := store72 hR7 g3 H3.out.1
        rw [← hW6] at hst
        have hR6 : FB W6 R g3 := by rw [hW6]; exact hR7.setAll g3
        have k6 : Chg (fun _ => False) w W6 := by rw [hW6]; exact k7.setCells R 0 _ (.inr (by rw [← HRR.out]; exact Nat.le_refl R))
        clear hr hs1 hW6
        go_wp2_with (refine wpList_load_mid rfl 72 _ rfl (R + 1) 0 rfl (gL g3) _ hC7.range Tryz.underlying72 rfl (i72L g3) ?_)
        have ⟨o1, o2, o3, o4, o5, o6⟩ := H3.out
        refine bodyPost_ret (results_cell_tmp rfl _ _ R 72 (gL g3).toArray (0, 0) _ rfl hR6 rfl Tryz.underlying72 (i72A g3)) rfl ⟨g3, o1, by rw [HR.out]; rfl, k6, fun _ => ?_⟩
        unfold RvOk
        rw [HR.out]
        exact ⟨o2, o3, o4, o5, fun h => by have := HS1.out; simp only at h; omega⟩
      · have q0 : (L == 99 || L == 110) = true := by rcases hs1 with h | h <;> rw [h] <;> rfl
        have hr := HRD.out
        rw [rdC_at HNL.out, if_neg (by omega), if_pos hs1] at hr
        have HR := Lib.hid hr
        have HS1 := Lib.hid hs1
        obtain ⟨W6, hW6⟩ : ∃ W6, W6 = W7.drew.setCells R 0 (gL g3) := ⟨_, rfl⟩
        have hR7d : FB W7.drew R gz := hR7
        have hst := store72 hR7d g3 H3.out.1
        rw [← hW6] at hst
        have hR6 : FB W6 R g3 := by rw [hW6]; exact hR7d.setAll g3
        have hC6 : FB W6 (R + 1) g3 := by rw [hW6]; exact (show FB W7.drew (R + 1) g3 from hC7).chg ((Chg.refl (fun i => i = R) _).setCells R 0 _ (.inl rfl)) (by omega)
        have k6 : Chg (fun _ => False) w W6 := by rw [hW6]; exact k7.drew.setCells R 0 _ (.inr (by rw [← HRR.out]; exact Nat.le_refl R))
        have hmix : Tryz.prog.follows .mixedOrders = true := by kernel_rfl
        have q2s : (L == 99) = true ∨ ((L == 99) = false ∧ (L == 110) = true) := by
          rcases hs1 with h | h
          · exact .inl (by rw [h]; rfl)
          · exact .inr ⟨by rw [h]; rfl, by rw [h]; rfl⟩
        have HC7 := Lib.hid hC7
        have e66 : W6.cell? ⟨R + 1, 6, none⟩ = some (.int .i64 WI) := by rw [hC6.c 6 (by decide), H3.out.2.1]
        clear hr hs1 hW6 q0
        rcases q2s with q1 | ⟨q1, q2⟩
        all_goals
          go_wp2_with fail
          refine wp_region_held (S := fun w' => w'.rangeAt (R + 1) 0 (gL g3) ∧ w'.cell? ⟨R + 1, 6, none⟩ = some (.int .i64 WI)) hmix ?_
          show wpAnyH _ _ _ _ _ 6 (Array.replicate 6 false) _ _
          refine wpAnyH_take (i := 0) (v := .agg (gL g3).toArray) rfl (by kernel_rfl) (by kernel_rfl) (by kernel_rfl) (fun _ _ _ h => h) (yieldsIf_load_mid rfl 72 _ rfl (R + 1) 0 rfl (gL g3) _ (fun _ h => h.1) Tryz.underlying72 rfl (i72L g3)) ⟨HC7.out.range, e6⟩ ?_
          simp only [Act.put, List.setIfInBounds_toArray, List.set_cons_succ, List.set_cons_zero, List.getElem_toArray, List.getElem_cons_succ, List.getElem_cons_zero]
          refine wpAnyH_take (i := 1) (v := .pointer (some ⟨R + 1, 6, none⟩)) rfl (by kernel_rfl) (by kernel_rfl) (by kernel_rfl) (fun _ _ _ h => h) (.inl ⟨rfl, fun _ _ => rfl⟩) ⟨HC7.out.range, e6⟩ ?_
          simp only [Act.put, List.setIfInBounds_toArray, List.set_cons_succ, List.set_cons_zero, List.getElem_toArray, List.getElem_cons_succ, List.getElem_cons_zero]
          refine wpAnyH_take (i := 2) (v := .int .i64 WI) rfl (by kernel_rfl) (by kernel_rfl) (by kernel_rfl) (fun _ _ _ h => h) (.inl ⟨rfl, fun w' hS => by simp [go_sem, hS.2]⟩) ⟨HC7.out.range, e6⟩ ?_
          simp only [Act.put, List.setIfInBounds_toArray, List.set_cons_succ, List.set_cons_zero, List.getElem_toArray, List.getElem_cons_succ, List.getElem_cons_zero]
          refine wpAnyH_take (i := 3) (v := .bool (decide (WI < 0))) rfl (by kernel_rfl) (by kernel_rfl) (by kernel_rfl) (fun _ _ _ h => h) (.inl ⟨rfl, fun _ _ => rfl⟩) ⟨HC7.out.range, e6⟩ ?_
          simp only [Act.put, List.setIfInBounds_toArray, List.set_cons_succ, List.set_cons_zero, List.getElem_toArray, List.getElem_cons_succ, List.getElem_cons_zero]
          refine wpAnyH_ready (rs := [4]) (by kernel_rfl) (by simp) ?_
          refine AllReadyH.cons rfl (fun K' hK => ?_) AllReadyH.nil
          go_simp
          refine hK.out _ _ ⟨hC6.range, e66⟩ (fun hSS => ?_)
          clear hK hSS
          refine wpAnyH_take (i := 5) (v := .bool (decide (WI < 0))) rfl (by kernel_rfl) (by kernel_rfl) (by kernel_rfl) (fun _ _ _ h => h) (.inl ⟨rfl, fun _ _ => rfl⟩) ⟨hC6.range, e66⟩ ?_
          simp only [Act.put, List.setIfInBounds_toArray, List.set_cons_succ, List.set_cons_zero, List.getElem_toArray, List.getElem_cons_succ, List.getElem_cons_zero]
          refine wpAnyH_done (by kernel_rfl) ?_ _
          rename_i Kx hKx
          refine hKx _ _ ?_
          clear hKx
          go_wp2_with fail
          have ⟨o1, o2, o3, o4, o5, o6⟩ := H3.out
          refine bodyPost_ret (results_cell_tmp rfl _ _ R 72 (gL g3).toArray (0, 0) _ rfl hR6 rfl Tryz.underlying72 (i72A g3)) rfl ⟨g3, o1, by rw [HR.out]; rfl, k6, fun _ => ?_⟩
          unfold RvOk
          rw [HR.out]
          exact ⟨o2, o3, o4, o5, fun h => by have := HS1.out; simp only at h; omega⟩
      · subst hs1
        have hr := HRD.out
        rw [rdC_at HNL.out, if_neg (by decide), if_neg (by decide), if_pos rfl] at hr
        have HR := Lib.hid hr
        obtain ⟨W6, hW6⟩ : ∃ W6, W6 = W7.drew.setCells R 0 (gL g3) := ⟨_, rfl⟩
        have hR7d : FB W7.drew R gz := hR7
        have hst := store72 hR7d g3 H3.out.1
        rw [← hW6] at hst
        have hR6 : FB W6 R g3 := by rw [hW6]; exact hR7d.setAll g3
        have hC6 : FB W6 (R + 1) g3 := by rw [hW6]; exact (show FB W7.drew (R + 1) g3 from hC7).chg ((Chg.refl (fun i => i = R) _).setCells R 0 _ (.inl rfl)) (by omega)
        have k6 : Chg (fun _ => False) w W6 := by rw [hW6]; exact k7.drew.setCells R 0 _ (.inr (by rw [← HRR.out]; exact Nat.le_refl R))
        have hmix : Tryz.prog.follows .mixedOrders = true := by kernel_rfl
        have SS : W7.drew.rangeAt (R + 1) 0 (gL g3) ∧ W7.drew.cell? ⟨R + 1, 6, none⟩ = some (.int .i64 WI) ∧ W7.drew.cell? ⟨R + 1, 10, none⟩ = some (.bool K) := ⟨hC7.range, e6, e10⟩
        have SS2 : W6.rangeAt (R + 1) 0 (gL g3) ∧ W6.cell? ⟨R + 1, 6, none⟩ = some (.int .i64 WI) ∧ W6.cell? ⟨R + 1, 10, none⟩ = some (.bool K) :=
          ⟨hC6.range, by rw [hC6.c 6 (by decide), H3.out.2.1], by rw [hC6.c 10 (by decide), H3.out.2.2.1]⟩
        have HSS := Lib.hid SS
        have HSS2 := Lib.hid SS2
        clear hr hW6 SS SS2
        go_wp2_with fail
        refine wp_region_held (S := fun w' => w'.rangeAt (R + 1) 0 (gL g3) ∧ w'.cell? ⟨R + 1, 6, none⟩ = some (.int .i64 WI) ∧ w'.cell? ⟨R + 1, 10, none⟩ = some (.bool K)) hmix ?_
        show wpAnyH _ _ _ _ _ 11 (Array.replicate 11 false) _ _
        by_cases hW : WI < 0
        · skip
          refine wpAnyH_take (i := 0) (v := .agg (gL g3).toArray) rfl (by kernel_rfl) (by kernel_rfl) (by kernel_rfl) (fun _ _ _ h => h) (yieldsIf_load_mid rfl 72 _ rfl (R + 1) 0 rfl (gL g3) _ (fun _ h => h.1) Tryz.underlying72 rfl (i72L g3)) HSS.out ?_
          simp only [Act.put, List.setIfInBounds_toArray, List.set_cons_succ, List.set_cons_zero, List.getElem_toArray, List.getElem_cons_succ, List.getElem_cons_zero]
          refine wpAnyH_take (i := 1) (v := .pointer (some ⟨R + 1, 6, none⟩)) rfl (by kernel_rfl) (by kernel_rfl) (by kernel_rfl) (fun _ _ _ h => h) (.inl ⟨rfl, fun _ _ => rfl⟩) HSS.out ?_
          simp only [Act.put, List.setIfInBounds_toArray, List.set_cons_succ, List.set_cons_zero, List.getElem_toArray, List.getElem_cons_succ, List.getElem_cons_zero]
          refine wpAnyH_take (i := 2) (v := .int .i64 WI) rfl (by kernel_rfl) (by kernel_rfl) (by kernel_rfl) (fun _ _ _ h => h) (.inl ⟨rfl, fun w' hS => by simp [go_sem, hS.2.1]⟩) HSS.out ?_
          simp only [Act.put, List.setIfInBounds_toArray, List.set_cons_succ, List.set_cons_zero, List.getElem_toArray, List.getElem_cons_succ, List.getElem_cons_zero]
          refine wpAnyH_take (i := 3) (v := .bool true) rfl (by kernel_rfl) (by kernel_rfl) (by kernel_rfl) (fun _ _ _ h => h) (.inl ⟨rfl, fun _ _ => by simp [go_sem, hW]⟩) HSS.out ?_
          simp only [Act.put, List.setIfInBounds_toArray, List.set_cons_succ, List.set_cons_zero, List.getElem_toArray, List.getElem_cons_succ, List.getElem_cons_zero]
          refine wpAnyH_take (i := 4) (v := .bool true) rfl (by kernel_rfl) (by kernel_rfl) (by kernel_rfl) (fun _ _ _ h => h) (.inl ⟨rfl, fun _ _ => rfl⟩) HSS.out ?_
          simp only [Act.put, List.setIfInBounds_toArray, List.set_cons_succ, List.set_cons_zero, List.getElem_toArray, List.getElem_cons_succ, List.getElem_cons_zero]
          refine wpAnyH_take (i := 5) (v := .pointer (some ⟨R + 1, 10, none⟩)) rfl (by kernel_rfl) (by kernel_rfl) (by kernel_rfl) (fun _ _ _ h => h) (.inl ⟨by simp [Region.wanted, yielded], fun _ _ => rfl⟩) HSS.out ?_
          simp only [Act.put, List.setIfInBounds_toArray, List.set_cons_succ, List.set_cons_zero, List.getElem_toArray, List.getElem_cons_succ, List.getElem_cons_zero]
          refine wpAnyH_take (i := 6) (v := .bool K) rfl (by kernel_rfl) (by kernel_rfl) (by kernel_rfl) (fun _ _ _ h => h) (.inl ⟨by simp [Region.wanted, yielded], fun w' hS => by simp [go_sem, hS.2.2]⟩) HSS.out ?_
          simp only [Act.put, List.setIfInBounds_toArray, List.set_cons_succ, List.set_cons_zero, List.getElem_toArray, List.getElem_cons_succ, List.getElem_cons_zero]
          refine wpAnyH_take (i := 7) (v := .bool (!K)) rfl (by kernel_rfl) (by kernel_rfl) (by kernel_rfl) (fun _ _ _ h => h) (.inl ⟨by simp [Region.wanted, yielded], fun _ _ => rfl⟩) HSS.out ?_
          simp only [Act.put, List.setIfInBounds_toArray, List.set_cons_succ, List.set_cons_zero, List.getElem_toArray, List.getElem_cons_succ, List.getElem_cons_zero]
          refine wpAnyH_take (i := 8) (v := .bool (!K)) rfl (by kernel_rfl) (by kernel_rfl) (by kernel_rfl) (fun _ _ _ h => h) (.inl ⟨rfl, fun _ _ => by simp [go_sem]⟩) HSS.out ?_
          simp only [Act.put, List.setIfInBounds_toArray, List.set_cons_succ, List.set_cons_zero, List.getElem_toArray, List.getElem_cons_succ, List.getElem_cons_zero]
          refine wpAnyH_ready (rs := [9]) (by kernel_rfl) (by simp) ?_
          refine AllReadyH.cons rfl (fun K' hK => ?_) AllReadyH.nil
          go_simp
          refine hK.out _ _ HSS2.out (fun hSS => ?_)
          clear hK hSS
          refine wpAnyH_take (i := 10) (v := .bool (!K)) rfl (by kernel_rfl) (by kernel_rfl) (by kernel_rfl) (fun _ _ _ h => h) (.inl ⟨rfl, fun _ _ => rfl⟩) HSS2.out ?_
          simp only [Act.put, List.setIfInBounds_toArray, List.set_cons_succ, List.set_cons_zero, List.getElem_toArray, List.getElem_cons_succ, List.getElem_cons_zero]
          refine wpAnyH_done (by kernel_rfl) ?_ _
          rename_i Kx hKx
          refine hKx _ _ ?_
          clear hKx
          go_wp2_with fail
          have ⟨o1, o2, o3, o4, o5, o6⟩ := H3.out
          refine bodyPost_ret (results_cell_tmp rfl _ _ R 72 (gL g3).toArray (0, 0) _ rfl hR6 rfl Tryz.underlying72 (i72A g3)) rfl ⟨g3, o1, by rw [HR.out]; simp only; rw [decide_eq_true hW, Bool.true_and]; rfl, k6, fun _ => ?_⟩
          unfold RvOk
          rw [HR.out]
          exact ⟨o2, o3, o4, o5, fun h => by simp at h⟩
        · skip
          refine wpAnyH_take (i := 0) (v := .agg (gL g3).toArray) rfl (by kernel_rfl) (by kernel_rfl) (by kernel_rfl) (fun _ _ _ h => h) (yieldsIf_load_mid rfl 72 _ rfl (R + 1) 0 rfl (gL g3) _ (fun _ h => h.1) Tryz.underlying72 rfl (i72L g3)) HSS.out ?_
          simp only [Act.put, List.setIfInBounds_toArray, List.set_cons_succ, List.set_cons_zero, List.getElem_toArray, List.getElem_cons_succ, List.getElem_cons_zero]
          refine wpAnyH_take (i := 1) (v := .pointer (some ⟨R + 1, 6, none⟩)) rfl (by kernel_rfl) (by kernel_rfl) (by kernel_rfl) (fun _ _ _ h => h) (.inl ⟨rfl, fun _ _ => rfl⟩) HSS.out ?_
          simp only [Act.put, List.setIfInBounds_toArray, List.set_cons_succ, List.set_cons_zero, List.getElem_toArray, List.getElem_cons_succ, List.getElem_cons_zero]
          refine wpAnyH_take (i := 2) (v := .int .i64 WI) rfl (by kernel_rfl) (by kernel_rfl) (by kernel_rfl) (fun _ _ _ h => h) (.inl ⟨rfl, fun w' hS => by simp [go_sem, hS.2.1]⟩) HSS.out ?_
          simp only [Act.put, List.setIfInBounds_toArray, List.set_cons_succ, List.set_cons_zero, List.getElem_toArray, List.getElem_cons_succ, List.getElem_cons_zero]
          refine wpAnyH_take (i := 3) (v := .bool false) rfl (by kernel_rfl) (by kernel_rfl) (by kernel_rfl) (fun _ _ _ h => h) (.inl ⟨rfl, fun _ _ => by simp [go_sem, hW]⟩) HSS.out ?_
          simp only [Act.put, List.setIfInBounds_toArray, List.set_cons_succ, List.set_cons_zero, List.getElem_toArray, List.getElem_cons_succ, List.getElem_cons_zero]
          refine wpAnyH_take (i := 4) (v := .bool false) rfl (by kernel_rfl) (by kernel_rfl) (by kernel_rfl) (fun _ _ _ h => h) (.inl ⟨rfl, fun _ _ => rfl⟩) HSS.out ?_
          simp only [Act.put, List.setIfInBounds_toArray, List.set_cons_succ, List.set_cons_zero, List.getElem_toArray, List.getElem_cons_succ, List.getElem_cons_zero]
          refine wpAnyH_take (i := 5) (v := undef) rfl (by kernel_rfl) (by kernel_rfl) (by kernel_rfl) (fun _ _ _ h => h) (.inr ⟨by simp [Region.wanted, yielded], rfl⟩) HSS.out ?_
          simp only [Act.put, List.setIfInBounds_toArray, List.set_cons_succ, List.set_cons_zero, List.getElem_toArray, List.getElem_cons_succ, List.getElem_cons_zero]
          refine wpAnyH_take (i := 6) (v := undef) rfl (by kernel_rfl) (by kernel_rfl) (by kernel_rfl) (fun _ _ _ h => h) (.inr ⟨by simp [Region.wanted, yielded], rfl⟩) HSS.out ?_
          simp only [Act.put, List.setIfInBounds_toArray, List.set_cons_succ, List.set_cons_zero, List.getElem_toArray, List.getElem_cons_succ, List.getElem_cons_zero]
          refine wpAnyH_take (i := 7) (v := undef) rfl (by kernel_rfl) (by kernel_rfl) (by kernel_rfl) (fun _ _ _ h => h) (.inr ⟨by simp [Region.wanted, yielded], rfl⟩) HSS.out ?_
          simp only [Act.put, List.setIfInBounds_toArray, List.set_cons_succ, List.set_cons_zero, List.getElem_toArray, List.getElem_cons_succ, List.getElem_cons_zero]
          refine wpAnyH_take (i := 8) (v := .bool false) rfl (by kernel_rfl) (by kernel_rfl) (by kernel_rfl) (fun _ _ _ h => h) (.inl ⟨rfl, fun _ _ => by simp [go_sem]⟩) HSS.out ?_
          simp only [Act.put, List.setIfInBounds_toArray, List.set_cons_succ, List.set_cons_zero, List.getElem_toArray, List.getElem_cons_succ, List.getElem_cons_zero]
          refine wpAnyH_ready (rs := [9]) (by kernel_rfl) (by simp) ?_
          refine AllReadyH.cons rfl (fun K' hK => ?_) AllReadyH.nil
          go_simp
          refine hK.out _ _ HSS2.out (fun hSS => ?_)
          clear hK hSS
          refine wpAnyH_take (i := 10) (v := .bool false) rfl (by kernel_rfl) (by kernel_rfl) (by kernel_rfl) (fun _ _ _ h => h) (.inl ⟨rfl, fun _ _ => rfl⟩) HSS2.out ?_
          simp only [Act.put, List.setIfInBounds_toArray, List.set_cons_succ, List.set_cons_zero, List.getElem_toArray, List.getElem_cons_succ, List.getElem_cons_zero]
          refine wpAnyH_done (by kernel_rfl) ?_ _
          rename_i Kx hKx
          refine hKx _ _ ?_
          clear hKx
          go_wp2_with fail
          have ⟨o1, o2, o3, o4, o5, o6⟩ := H3.out
          refine bodyPost_ret (results_cell_tmp rfl _ _ R 72 (gL g3).toArray (0, 0) _ rfl hR6 rfl Tryz.underlying72 (i72A g3)) rfl ⟨g3, o1, by rw [HR.out]; simp only; rw [decide_eq_false (show ¬ WI < 0 by omega), Bool.false_and]; rfl, k6, fun _ => ?_⟩
          unfold RvOk
          rw [HR.out]
          exact ⟨o2, o3, o4, o5, fun h => by simp at h⟩
      · subst hs1
        have hr := HRD.out
        rw [rdC_at HNL.out, if_neg (by decide), if_neg (by decide), if_neg (by decide), if_pos rfl] at hr
        have HR := Lib.hid hr
        have hi3 : 0 ≤ i2 + 1 ∧ i2 + 1 ≤ s.size := ⟨by omega, by have := HL2.out; omega⟩
        have hlink := by_ends s (i2 + 1) hi3.1 hi3.2
        have hlset := by_set s (i2 + 1) hi3.1 hi3.2
        have hby := bytes61 s hs (i2 + 1) hi3.1 hi3.2 (R + 1) g3 H3.out.1 W7 hC7 H3.out.2.2.2.2.1 H3.out.2.2.2.2.2
        have HBY := Lib.hid hby
        have HLK := Lib.hid hlink
        have HLS := Lib.hid hlset
        clear hr hlink hlset hby
        go_wp2_with fail
        refine HBY.out.mono ?_
        rintro e W8 ⟨rfl, k8, g4, hC8, ho4, hg4⟩
        have hR8 := hR7.chg k8 (by omega)
        have k78 : Chg (fun _ => False) w W8 := k7.trans' k8 (fun i hi => .inr (by rw [← HRR.out]; omega))
        rw [HLK.out.1]
        obtain ⟨ok, hok⟩ : ∃ ok : Bool, ok = decide (0 ≤ byE s (i2 + 1)) := ⟨_, rfl⟩
        rw [← hok]
        have HOK := Lib.hid hok
        obtain ⟨W6, hW6⟩ : ∃ W6, W6 = W8.setCells R 0 (gL g4) := ⟨_, rfl⟩
        have hst := store72 hR8 g4 ho4
        have hlen4 : (gL g4).length = 269 := gL_len g4
        rw [← hW6] at hst
        have hR6 : FB W6 R g4 := by rw [hW6]; exact hR8.setAll g4
        have k6 : Chg (fun _ => False) w W6 := by rw [hW6]; exact k78.setCells R 0 _ (.inr (by rw [← HRR.out]; exact Nat.le_refl R))
        have HG4 := Lib.hid hg4
        clear hok hW6 hg4 k8 k78 hR7 hC7 k7 e11 e6 e10 hlen3
        go_wp2_with (refine wpList_load_mid rfl 72 _ rfl (R + 1) 0 rfl (gL g4) _ hC8.range Tryz.underlying72 rfl (i72L g4) ?_)
        have ⟨o1, o2, o3, o4, o5, o6⟩ := H3.out
        refine bodyPost_ret (results_cell_tmp rfl _ _ R 72 (gL g4).toArray (0, 0) _ rfl hR6 rfl Tryz.underlying72 (i72A g4)) rfl ⟨g4, ho4, by rw [HR.out]; simp only; rw [← HOK.out]; rfl, k6, fun h => ?_⟩
        rw [HR.out] at h
        have hlt : byI s (i2 + 1) < s.size := by have := HLK.out.1; simp only at h; rw [h] at this; exact of_decide_eq_true this
        have hend := HLK.out.2 hlt
        obtain ⟨f1, f2, f3⟩ := HG4.out hlt
        unfold RvOk
        rw [HR.out]
        refine ⟨(f1 6 (by decide)).trans o2, (f1 10 (by decide)).trans o3, (f1 11 (by decide)).trans o4, by rw [f2, hend], fun _ b hb => ?_⟩
        rw [f3 b hb, HLS.out hlt, hend]
    · have hr : isR L = false := by simpa using hr
      have hbad : (rdr s p (p + 1)).1 = false := by
        have hh : ¬ _ := fun h => by have := (isR_iff L hbr.1 hbr.2).2 h; rw [hr] at this; cases this
        rw [HRD.out, rdC_at HNL.out]
        rw [if_neg (fun h => hh (.inl h)), if_neg (fun h => hh (.inr (.inl h))), if_neg (fun h => hh (.inr (.inr (.inl h)))), if_neg (fun h => hh (.inr (.inr (.inr h))))]
      rw [hr]
      have HBAD := Lib.hid hbad
      obtain ⟨W6, hW6⟩ : ∃ W6, W6 = wc.setCells R 0 (gL g2) := ⟨_, rfl⟩
      have hst := store72 hR4 g2 hone
      rw [← hW6] at hst
      have hR6 : FB W6 R g2 := by rw [hW6]; exact hR4.setAll g2
      have k6 : Chg (fun _ => False) w W6 := by rw [hW6]; exact k5.setCells R 0 _ (.inr (by rw [← HRR.out]; exact Nat.le_refl R))
      clear hbad hW6 hl2 hr
      go_wp2_with (refine wpList_load_mid rfl 72 _ rfl (R + 1) 0 rfl (gL g2) _ hC4.range Tryz.underlying72 rfl (i72L g2) ?_)
      exact bodyPost_ret (results_cell_tmp rfl _ _ R 72 (gL g2).toArray (0, 0) _ rfl hR6 rfl Tryz.underlying72 (i72A g2)) rfl ⟨g2, hone, by rw [HBAD.out]; rfl, k6, fun h => by rw [HBAD.out] at h; cases h⟩
  · have q4 : (i2 < (s.size : Int)) = False := eq_false hl2
    have q5 : ((s.size : Int) ≤ i2) = True := eq_true (by omega)
    have g5 : decide ((s.size : Int) ≤ i2) = true := by simp; omega
    have hbad : (rdr s p (p + 1)).1 = false := by rw [HRD.out, rdC_at (show nx s i2 = 0 from if_neg hl2)]; rfl
    have HBAD := Lib.hid hbad
    obtain ⟨W6, hW6⟩ : ∃ W6, W6 = wc.setCells R 0 (gL g2) := ⟨_, rfl⟩
    have hone : One g2 := by rw [HG2.out]; exact ((gz_one.upd 6 rfl).upd 10 rfl).upd 6 rfl
    have hst := store72 hR4 g2 hone
    rw [← hW6] at hst
    have hR6 : FB W6 R g2 := by rw [hW6]; exact hR4.setAll g2
    have k6 : Chg (fun _ => False) w W6 := by rw [hW6]; exact k5.setCells R 0 _ (.inr (by rw [← HRR.out]; exact Nat.le_refl R))
    clear hbad hW6 hl2
    go_wp2_with (refine wpList_load_mid rfl 72 _ rfl (R + 1) 0 rfl (gL g2) _ hC4.range Tryz.underlying72 rfl (i72L g2) ?_)
    exact bodyPost_ret (results_cell_tmp rfl _ _ R 72 (gL g2).toArray (0, 0) _ rfl hR6 rfl Tryz.underlying72 (i72A g2)) rfl ⟨g2, hone, by rw [HBAD.out]; rfl, k6, fun h => by rw [HBAD.out] at h; cases h⟩
end Go.Proofs.YtemogjpgkcbaiaaGreatDoor.Sp
end
section
namespace Go.Proofs.YtemogjpgkcbaiaaGreatDoor.Sp
open Go.RowKit Go.Proofs.YtemogjpgkcbaiaaGreatDoorW.PrintWords Go.Proofs.YtemogjpgkcbaiaaGreatDoorW.PrintLast Go.Proofs.YtemogjpgkcbaiaaGreatDoorW.PrintMore
set_option linter.unusedVariables false
set_option linter.unusedSimpArgs false
set_option maxRecDepth 100000
attribute [local go_sem] Oper.semAt_some
theorem new_one (w : World) : ∃ W1, (storeCells ⟨w.heap.size, 0, none⟩ Tryz.zeroCells72.toList).run Tryz.prog (w.alloc (Obj.cells Tryz.zeroCells72 72)) = .ok () W1 ∧ FB W1 w.heap.size gz ∧ Chg (fun _ => False) w W1 := by
  have h0 : FB (w.alloc (Obj.cells Tryz.zeroCells72 72)) w.heap.size gz := FB.new w
  have e : Tryz.zeroCells72.toList = gL gz := by rw [gz_zero, List.toList_toArray]
  exact ⟨_, by rw [e]; exact store72 h0 gz gz_one, h0.setAll gz, ((Chg.refl _ w).alloc _).setCells w.heap.size 0 _ (.inr (Nat.le_refl _))⟩
theorem new_with (w : World) (g : Nat → Value) (hO : One g) : ∃ W1, (storeCells ⟨w.heap.size, 0, none⟩ (gL g)).run Tryz.prog (w.alloc (Obj.cells Tryz.zeroCells72 72)) = .ok () W1 ∧ FB W1 w.heap.size g ∧ Chg (fun _ => False) w W1 := by
  have h0 : FB (w.alloc (Obj.cells Tryz.zeroCells72 72)) w.heap.size gz := FB.new w
  exact ⟨_, store72 h0 g hO, h0.setAll g, ((Chg.refl _ w).alloc _).setCells w.heap.size 0 _ (.inr (Nat.le_refl _))⟩
theorem zlen : Tryz.zeroCells72.size = 269 := by rw [gz_zero, List.size_toArray, gL_len]
set_option maxHeartbeats 2000000 in
theorem check12 (s : ByteArray) (hs : s.size ≤ 100000) (w : World) : Calls Tryz.prog 12 #[.string s, .bool true] w fun e w' => e = .returned (.tuple #[.int .i64 (ck s true).1, .int .i64 (ck s true).2]) ∧ Chg (fun _ => False) w w' := by
  have hck : ck s true = match ckR s 0 with | none => (0, 0) | some p => ((p : Int), 2) := rfl
  have HCK := Lib.hid hck
  clear hck
  go_enter Tryz.func12, Tryz.ntmps12
  go_wp2_with fail
  go_loopg [8] s.size (fun gk v8 wr => ∃ p : Nat, v8 = .int .i64 p ∧ gk + p = s.size ∧ ckR s p = ckR s 0 ∧ Chg (fun _ => False) w wr)
  case atStart => exact ⟨0, rfl, rfl, rfl, Chg.refl _ _⟩
  case round =>
    obtain ⟨p, rfl, hg, hp, kR⟩ := hrel
    have HG := Lib.hid hg
    have HP := Lib.hid hp
    by_cases hlt : p < s.size
    · have g1 : decide (p < s.size) = true := by simpa using hlt
      have g1' : decide ((p : Int) < (s.size : Int)) = true := by simp; omega
      have hix := ix_run s p hlt wr
      have HLT := Lib.hid hlt
      by_cases hb : bt s p = 37
      · have g2 : (bt s p != 37) = false := by simpa using hb
        have HB := Lib.hid hb
        obtain ⟨W1, hst1, hF1, k1⟩ := new_one wr
        have hz := zlen
        have hrd := reading_calls s hs p (by omega) (by omega) W1
        have HRD := Lib.hid hrd
        clear hb hrd hlt hg hp
        go_wp2_with fail
        refine (HRD.out).mono ?_
        rintro e W2 ⟨g, hO, rfl, k2, hok⟩
        have hF2 := hF1.chg k2 (fun h => h)
        have kR2 := (kR.trans k1).trans k2
        obtain ⟨C, hC⟩ : ∃ C, C = wr.heap.size := ⟨_, rfl⟩
        have hCw : w.heap.size ≤ C := by have := kR.size; omega
        have hst2 := store72 hF2 g hO
        obtain ⟨W3, hW3⟩ : ∃ W3, W3 = W2.setCells wr.heap.size 0 (gL g) := ⟨_, rfl⟩
        have hF3 : FB W3 wr.heap.size g := by rw [hW3]; exact hF2.setAll g
        have kR3 : Chg (fun _ => False) w W3 := by rw [hW3]; exact kR2.setCells _ 0 _ (.inr (by rw [← hC]; exact hCw))
        rw [← hW3] at hst2
        have hlen := gL_len g
        obtain ⟨ok, hokd⟩ : ∃ ok, ok = (rdr s p (p + 1)).1 := ⟨_, rfl⟩
        have hcv := ck_conv HLT.out HB.out
        rw [← hokd] at hok hcv ⊢
        have HCV := Lib.hid hcv
        have HOK := Lib.hid hokd
        clear hst1 hF1 k1 hW3 hC hcv hokd hF2 k2 kR2 kR
        cases ok
        · have HR := Lib.hid (show ck s true = ((p : Int), 2) by rw [HCK.out, ← HP.out, HCV.out, if_neg (by simp)])
          clear hok
          go_wp2_with fail
          go_ret2
          exact ⟨by rw [HR.out]; rfl, kR3⟩
        · obtain ⟨_, _, _, hq, _⟩ := hok rfl
          have hen := rdr_end HLT.out HOK.out.symm
          obtain ⟨q, hqd⟩ : ∃ q, q = (rdr s p (p + 1)).2.2.toNat := ⟨_, rfl⟩
          have hc := hF3.c 268 (by decide)
          rw [hq, ← hen.1, ← hqd] at hc
          have hp2 := HCV.out
          rw [if_pos rfl, ← hqd, HP.out] at hp2
          rw [← hqd] at hen
          have HP2 := Lib.hid hp2
          have HEN := Lib.hid hen.2
          clear hok hq hen hqd hp2
          go_wp2_with fail
          go_roundg (s.size - q)
          case measure => have := HG.out; have := HEN.out; omega
          case rel => exact ⟨q, rfl, by have := HEN.out; omega, HP2.out.symm, kR3⟩
      · have g2 : (bt s p != 37) = true := by simpa using hb
        have hnx := ck_text hlt hb
        have HN := Lib.hid (hnx.symm.trans hp)
        have w1 : IntKind.i64.wrap ((p : Int) + 1) = ((p + 1 : Nat) : Int) := i64_small (by omega) (by omega)
        clear hb hnx hg hp hlt
        go_wp2_with fail
        go_roundg (s.size - (p + 1))
        case measure => have := HG.out; have := HLT.out; omega
        case rel => exact ⟨p + 1, rfl, by have := HG.out; have := HLT.out; omega, HN.out, kR⟩
    · have g1 : decide (p < s.size) = false := by simpa using hlt
      have g1' : decide ((p : Int) < (s.size : Int)) = false := by simp; omega
      have hps : p = s.size := by omega
      have hn : ckR s 0 = none := by rw [← hp, hps]; exact ckR_end
      have HR := Lib.hid (show ck s true = (0, 0) by rw [HCK.out, hn])
      clear hn hps hlt hg hp
      go_wp2_with fail
      go_ret2
      exact ⟨by rw [HR.out]; rfl, kR⟩
set_option maxHeartbeats 2000000 in
theorem reads16 (s : ByteArray) (hs : s.size ≤ 100000) (w : World) : Calls Tryz.prog 16 #[.string s] w fun e w' => e = .returned (.tuple #[.int .i64 (rds s).1, .int .i64 (rds s).2]) ∧ Chg (fun _ => False) w w' := by
  have hcall := check12 s hs w
  cases hck : ckR s 0 with
  | some p0 =>
    have HR := Lib.hid (show rds s = (0, 2) by unfold rds; rw [hck])
    rw [show ck s true = ((p0 : Int), 2) by simp only [ck, hck]; rfl] at hcall
    have HC := Lib.hid hcall
    clear hck hcall
    go_enter Tryz.func16, Tryz.ntmps16
    go_wp2_with fail
    refine (HC.out).mono ?_
    rintro e w1 ⟨rfl, k1⟩
    go_wp2_with fail
    go_ret2
    exact ⟨by rw [HR.out]; rfl, k1⟩
  | none =>
    have HR := Lib.hid (show rds s = (rcR s 0 0, 0) by unfold rds; rw [hck])
    rw [show ck s true = (0, 0) by simp only [ck, hck]; rfl] at hcall
    have HC := Lib.hid hcall
    have HCK := Lib.hid hck
    clear hck hcall
    go_enter Tryz.func16, Tryz.ntmps16
    go_wp2_with fail
    refine (HC.out).mono ?_
    rintro e w1 ⟨rfl, k1⟩
    go_wp2_with fail
    go_loopg [6, 7] s.size (fun gk v6 v7 wr => ∃ (p n : Nat), v6 = .int .i64 n ∧ v7 = .int .i64 p ∧ gk + p = s.size ∧ n ≤ p ∧ ckR s p = none ∧ rcR s p n = rcR s 0 0 ∧ Chg (fun _ => False) w wr)
    case atStart => exact ⟨0, 0, rfl, rfl, rfl, Nat.le_refl _, HCK.out, rfl, k1⟩
    case round =>
      obtain ⟨p, n, rfl, rfl, hg, hnp, hp, hrc, kR⟩ := hrel
      clear k1
      have HG := Lib.hid hg
      have HP := Lib.hid hp
      have HRC := Lib.hid hrc
      by_cases hlt : p < s.size
      · have g1 : decide (p < s.size) = true := by simpa using hlt
        have g1' : decide ((p : Int) < (s.size : Int)) = true := by simp; omega
        have hix := ix_run s p hlt wr
        have HLT := Lib.hid hlt
        have w2 : IntKind.i64.wrap ((n : Int) + 1) = ((n + 1 : Nat) : Int) := i64_small (by omega) (by omega)
        by_cases hb : bt s p = 37
        · have g2 : (bt s p != 37) = false := by simpa using hb
          have HB := Lib.hid hb
          have hcv := ck_conv hlt hb
          rw [hp] at hcv
          have hok : (rdr s p (p + 1)).1 = true := by
            by_cases h : (rdr s p (p + 1)).1 = true
            · exact h
            · rw [if_neg h] at hcv; cases hcv
          rw [if_pos hok] at hcv
          have HOK := Lib.hid hok
          have HCV := Lib.hid hcv.symm
          have HRD := Lib.hid (reading_calls s hs p (by omega) (by omega) wr)
          have hz := zlen
          clear hb hlt hg hp hrc hcv hok
          go_wp2_with fail
          refine (HRD.out).mono ?_
          rintro e W2 ⟨g, hO, rfl, k2, hrv⟩
          have kR2 := kR.trans k2
          obtain ⟨W1, hst1, hF1, k1⟩ := new_with W2 g hO
          have kR3 := kR2.trans k1
          obtain ⟨_, hq10, hq11, hq268, _⟩ := hrv HOK.out
          have hen := rdr_end HLT.out HOK.out
          have hrc2 := (rc_conv HLT.out HB.out HOK.out (n : Int)).symm.trans HRC.out
          obtain ⟨q, hqd⟩ : ∃ q, q = (rdr s p (p + 1)).2.2.toNat := ⟨_, rfl⟩
          obtain ⟨L, hL⟩ : ∃ L, L = (rdr s p (p + 1)).2.1.letter := ⟨_, rfl⟩
          obtain ⟨Q, hQ⟩ : ∃ Q, Q = (rdr s p (p + 1)).2.1.quiet := ⟨_, rfl⟩
          have c10 := hF1.c 10 (by decide)
          have c11 := hF1.c 11 (by decide)
          have c268 := hF1.c 268 (by decide)
          rw [hq268, ← hen.1, ← hqd] at c268
          rw [hq10, ← hQ] at c10
          rw [hq11, ← hL] at c11
          have hck2 := HCV.out
          rw [← hqd] at hck2 hen
          rw [← hqd, ← hL, ← hQ] at hrc2
          have HCK2 := Lib.hid hck2
          have HRC2 := Lib.hid hrc2
          have HEN := Lib.hid hen.2
          have hlen := gL_len g
          clear hrv hq10 hq11 hq268 hen hrc2 hqd hL hQ hck2 kR kR2 k2 k1
          rw [HOK.out]
          by_cases h37 : L = 37
          · have g3 : (L != 37) = false := by simpa using h37
            have HF := Lib.hid (show rcR s q n = rcR s 0 0 by have := HRC2.out; rw [if_neg (fun h => h.1 h37)] at this; exact this)
            clear h37
            go_wp2_with fail
            go_roundg (s.size - q)
            case measure => have := HG.out; have := HEN.out; omega
            case rel => exact ⟨q, n, rfl, rfl, by have := HEN.out; omega, by have := HEN.out; omega, HCK2.out, HF.out, kR3⟩
          · have g3 : (L != 37) = true := by simpa using h37
            cases Q
            · have HF := Lib.hid (show rcR s q ((n + 1 : Nat) : Int) = rcR s 0 0 by have := HRC2.out; rw [if_pos ⟨h37, rfl⟩] at this; exact this)
              clear h37
              go_wp2_with fail
              go_roundg (s.size - q)
              case measure => have := HG.out; have := HEN.out; omega
              case rel => exact ⟨q, n + 1, rfl, rfl, by have := HEN.out; omega, by have := HEN.out; omega, HCK2.out, HF.out, kR3⟩
            · have HF := Lib.hid (show rcR s q n = rcR s 0 0 by have := HRC2.out; rw [if_neg (fun h => by cases h.2)] at this; exact this)
              clear h37
              go_wp2_with fail
              go_roundg (s.size - q)
              case measure => have := HG.out; have := HEN.out; omega
              case rel => exact ⟨q, n, rfl, rfl, by have := HEN.out; omega, by have := HEN.out; omega, HCK2.out, HF.out, kR3⟩
        · have g2 : (bt s p != 37) = true := by simpa using hb
          have HN := Lib.hid ((ck_text hlt hb).symm.trans hp)
          have HN2 := Lib.hid ((rc_text hlt hb n).symm.trans hrc)
          have w1 : IntKind.i64.wrap ((p : Int) + 1) = ((p + 1 : Nat) : Int) := i64_small (by omega) (by omega)
          clear hb hg hp hlt hrc
          go_wp2_with fail
          go_roundg (s.size - (p + 1))
          case measure => have := HG.out; have := HLT.out; omega
          case rel => exact ⟨p + 1, n, rfl, rfl, by have := HG.out; have := HLT.out; omega, by omega, HN.out, HN2.out, kR⟩
      · have g1 : decide (p < s.size) = false := by simpa using hlt
        have g1' : decide ((p : Int) < (s.size : Int)) = false := by simp; omega
        have hps : p = s.size := by omega
        have hn : rcR s 0 0 = n := by rw [← hrc, hps]; exact rcR_end _
        have HR2 := Lib.hid (show rds s = ((n : Int), 0) by rw [HR.out, hn])
        clear hn hps hlt hg hp hrc
        go_wp2_with fail
        go_ret2
        exact ⟨by rw [HR2.out]; rfl, kR⟩
end Go.Proofs.YtemogjpgkcbaiaaGreatDoor.Sp
end
section
namespace Go.Proofs.YtemogjpgkcbaiaaGreatDoor.Sp
open Go.RowKit Go.Proofs.YtemogjpgkcbaiaaGreatDoorW.PrintWords Go.Proofs.YtemogjpgkcbaiaaGreatDoorW.PrintLast Go.Proofs.YtemogjpgkcbaiaaGreatDoorW.PrintMore
set_option linter.unusedVariables false
set_option linter.unusedSimpArgs false
theorem ten2 : 2 ≤ 10 := by decide
theorem w64n (x : Int) (h0 : -1000000000000000000 ≤ x) (h1 : x ≤ 1000000000000000000) : wrap64 x = x := by unfold wrap64; omega
theorem ci_app (l m : List Nat) : ci (l ++ m) = ci l ++ ci m := by simp [ci]
theorem rdci (l : List Nat) (i : Nat) : rd (ci l) (i : Int) = ((l.getD i 0 : Nat) : Int) := by
  show (ci l).getD (i : Int).toNat 0 = _
  rw [Int.toNat_natCast, ci, List.getD_eq_getElem?_getD, List.getElem?_map, List.getD_eq_getElem?_getD]
  cases l[i]? <;> rfl
def Dg (a : List Nat) (i X : Nat) : Prop := a.drop i = leN 10 X
theorem Dg.next {a : List Nat} {i X : Nat} (h : Dg a i X) : Dg a (i + 1) (X / 10) := by
  unfold Dg at h ⊢
  rw [← List.tail_drop, h]
  by_cases hx : X = 0
  · subst hx; simp [leN_zero]
  · rw [leN_pos ten2 hx]; rfl
theorem Dg.lt {a : List Nat} {i X : Nat} (h : Dg a i X) : i < a.length ↔ X ≠ 0 := by
  unfold Dg at h
  have h1 := congrArg List.length h
  rw [List.length_drop] at h1
  by_cases hx : X = 0
  · subst hx; rw [leN_zero] at h1; simp at h1; omega
  · rw [leN_pos ten2 hx] at h1; simp at h1; omega
theorem Dg.get {a : List Nat} {i X : Nat} (h : Dg a i X) : a.getD i 0 = X % 10 := by
  unfold Dg at h
  have h1 : a.getD i 0 = (a.drop i).getD 0 0 := by
    rw [List.getD_eq_getElem?_getD, List.getD_eq_getElem?_getD, List.getElem?_drop]; rfl
  rw [h1, h]
  by_cases hx : X = 0
  · subst hx; rw [leN_zero]; rfl
  · rw [leN_pos ten2 hx]; rfl
theorem Dg.zero (X : Nat) : Dg (leN 10 X) 0 X := rfl
theorem Dg.lt_i {a : List Nat} {i X : Nat} (h : Dg a i X) : ((i : Int) < ((ci a).length : Int)) ↔ X ≠ 0 := by rw [ci_len, ← h.lt]; omega
theorem dgP {a : List Nat} {i X : Nat} (h : Dg a i X) : Pplus.threadbareref03_digit.f (ci a) (i : Int) = some ((X % 10 : Nat) : Int) := by
  unfold Pplus.threadbareref03_digit.f
  by_cases hx : X = 0
  · rw [if_neg (fun hh => (h.lt_i.1 hh) hx), hx]; rfl
  · rw [if_pos (h.lt_i.2 hx), if_pos (by omega), rdci, h.get]
theorem tm10 (a : Nat) : Int.tmod (a : Int) 10 = ((a % 10 : Nat) : Int) := by rw [Int.tmod_eq_emod_of_nonneg (by omega)]; omega
theorem td10 (a : Nat) : Int.tdiv (a : Int) 10 = ((a / 10 : Nat) : Int) := by rw [Int.tdiv_eq_ediv_of_nonneg (by omega)]; omega
theorem plus_l0 (a b : List Nat) : ∀ (m k X Y c i : Nat) (out : List Nat), out.length = i → Dg a i X → Dg b i Y → (leN 10 (X + Y + c)).length ≤ m → 2 * m + 2 ≤ k → i + m ≤ 1000000 → c ≤ 1 →
    Pplus.threadbareref03_plus.l0 k (ci a) (ci b) (ci out) (c : Int) (i : Int) = some (ci (out ++ leN 10 (X + Y + c))) := by
  intro m
  induction m with
  | zero =>
    intro k X Y c i out hi ha hb hm hk ho hc
    have h0 : X + Y + c = 0 := (leN_nil ten2).1 (List.length_eq_zero_iff.1 (by omega))
    obtain ⟨k, rfl⟩ : ∃ q, k = q + 2 := ⟨k - 2, by omega⟩
    rw [Pplus.threadbareref03_plus.l0, if_neg (fun h => absurd (ha.lt_i.1 h) (by omega)), if_neg (fun h => absurd (hb.lt_i.1 h) (by omega))]
    have hc0 : c = 0 := by omega
    rw [h0, leN_zero, List.append_nil, hc0, Pplus.threadbareref03_plus.j1, if_neg (by simp)]
  | succ m ih =>
    intro k X Y c i out hi ha hb hm hk ho hc
    by_cases h0 : X + Y + c = 0
    · exact ih k X Y c i out hi ha hb (by rw [h0, leN_zero]; simp) (by omega) (by omega) hc
    · obtain ⟨k, rfl⟩ : ∃ q, k = q + 2 := ⟨k - 2, by omega⟩
      have hl := leN_pos ten2 h0
      have e1 : (X % 10 + Y % 10 + c) % 10 = (X + Y + c) % 10 := by omega
      have e2 : X / 10 + Y / 10 + (X % 10 + Y % 10 + c) / 10 = (X + Y + c) / 10 := by omega
      have hj : Pplus.threadbareref03_plus.j1 (k + 1) (ci a) (ci b) (ci out) (c : Int) (i : Int) true = some (ci (out ++ leN 10 (X + Y + c))) := by
        rw [Pplus.threadbareref03_plus.j1, if_pos rfl, dgP ha, dgP hb]
        simp only [Option.bind_some]
        have x0 : X % 10 ≤ 9 := by omega
        have y0 : Y % 10 ≤ 9 := by omega
        obtain ⟨x, hx⟩ : ∃ x, x = X % 10 := ⟨_, rfl⟩
        obtain ⟨y, hy⟩ : ∃ y, y = Y % 10 := ⟨_, rfl⟩
        rw [← hx] at x0 ⊢
        rw [← hy] at y0 ⊢
        have e4 : (x + y + c) / 10 ≤ 1 := by omega
        rw [if_pos (by rw [ci_len]; omega), w64n ((x : Int) + (y : Int)) (by omega) (by omega), w64n ((x : Int) + (y : Int) + (c : Int)) (by omega) (by omega), show (x : Int) + (y : Int) + (c : Int) = ((x + y + c : Nat) : Int) from by omega, tm10, td10, w64n (((x + y + c) / 10 : Nat) : Int) (by omega) (by omega), w64n ((i : Int) + 1) (by omega) (by omega)]
        rw [hx, hy] at e4 ⊢
        rw [e1]
        have := ih k (X / 10) (Y / 10) ((X % 10 + Y % 10 + c) / 10) (i + 1) (out ++ [(X + Y + c) % 10]) (by simp [hi]) ha.next hb.next (by rw [e2]; rw [hl] at hm; simpa using hm) (by omega) (by omega) e4
        rw [e2, ci_app] at this
        rw [show (ci out ++ [(((X + Y + c) % 10 : Nat) : Int)]) = ci out ++ ci [(X + Y + c) % 10] from rfl, show ((i : Int) + 1) = ((i + 1 : Nat) : Int) from by omega, this, hl]
        simp
      rw [Pplus.threadbareref03_plus.l0]
      split
      · exact hj
      · split
        · exact hj
        · rw [decide_eq_true]
          · exact hj
          · rename_i h1 h2
            have hx : X = 0 := Decidable.byContradiction fun h => h1 (ha.lt_i.2 h)
            have hy : Y = 0 := Decidable.byContradiction fun h => h2 (hb.lt_i.2 h)
            omega
theorem plus_f (X Y m : Nat) (hm : (leN 10 (X + Y)).length ≤ m) (h : m ≤ 1000000) (k : Nat) (hk : 2 * m + 2 ≤ k) : Pplus.threadbareref03_plus.f k (ci (leN 10 X)) (ci (leN 10 Y)) = some (ci (leN 10 (X + Y))) := by
  have := plus_l0 (leN 10 X) (leN 10 Y) m k X Y 0 0 [] rfl (Dg.zero X) (Dg.zero Y) hm hk (by omega) (by omega)
  rw [Nat.add_zero, List.nil_append] at this
  exact this
theorem natOf_l0 : ∀ (m k n : Nat) (out : List Nat), (leN 10 n).length ≤ m → m + 1 ≤ k → n ≤ 1000000000 → out.length + m ≤ 1000000 → PnatOf.threadbareref03_natOf.l0 k (n : Int) (ci out) = some (ci (out ++ leN 10 n)) := by
  intro m
  induction m with
  | zero =>
    intro k n out hm hk hn ho
    have h : n = 0 := (leN_nil ten2).1 (List.length_eq_zero_iff.1 (by omega))
    obtain ⟨k, rfl⟩ : ∃ q, k = q + 1 := ⟨k - 1, by omega⟩
    subst h
    rw [PnatOf.threadbareref03_natOf.l0, if_neg (by omega), leN_zero, List.append_nil]
  | succ m ih =>
    intro k n out hm hk hn ho
    by_cases h : n = 0
    · exact ih k n out (by subst h; rw [leN_zero]; simp) (by omega) hn (by omega)
    · obtain ⟨k, rfl⟩ : ∃ q, k = q + 1 := ⟨k - 1, by omega⟩
      have hl := leN_pos ten2 h
      have hlen : (leN 10 n).length = (leN 10 (n / 10)).length + 1 := by rw [hl]; rfl
      rw [PnatOf.threadbareref03_natOf.l0, if_pos (by omega), if_pos (by rw [ci_len]; omega), Int.tdiv_eq_ediv_of_nonneg (by omega), Int.tmod_eq_emod_of_nonneg (by omega), w64n _ (by omega) (by omega)]
      have := ih k (n / 10) (out ++ [n % 10]) (by omega) (by omega) (by omega) (by simp; omega)
      rw [show ((n : Int) / 10) = ((n / 10 : Nat) : Int) from by omega, show ((n : Int) % 10) = ((n % 10 : Nat) : Int) from by omega, show ci out ++ [((n % 10 : Nat) : Int)] = ci (out ++ [n % 10]) from by rw [ci_app]; rfl, this, hl]
      simp
theorem natOf_f (n : Nat) (hn : n ≤ 1000000000) (k : Nat) (hk : 1000 ≤ k) : PnatOf.threadbareref03_natOf.f k (n : Int) = some (ci (leN 10 n)) := by
  have h10 : n < 10 ^ 10 := by omega
  exact natOf_l0 10 k n [] ((leN_length ten2 10 n).2 h10) (by omega) hn (by simp)
end Go.Proofs.YtemogjpgkcbaiaaGreatDoor.Sp
end
section
namespace Go.Proofs.YtemogjpgkcbaiaaGreatDoor.Sp
open Go.RowKit Go.Proofs.YtemogjpgkcbaiaaGreatDoorW.PrintWords Go.Proofs.YtemogjpgkcbaiaaGreatDoorW.PrintLast Go.Proofs.YtemogjpgkcbaiaaGreatDoorW.PrintMore
set_option linter.unusedVariables false
set_option linter.unusedSimpArgs false
theorem vN_set (b : Nat) : ∀ (l : List Nat) (q d : Nat), q < l.length → vN b (l.set q d) + b ^ q * l.getD q 0 = vN b l + b ^ q * d
  | [], q, d, h => by simp at h
  | x :: l, 0, d, h => by simp [vN]; omega
  | x :: l, q + 1, d, h => by
    have ih := vN_set b l q d (by simpa using h)
    simp only [List.set_cons_succ, vN, List.getD_cons_succ, Nat.pow_succ]
    have e1 : ∀ z : Nat, b ^ q * b * z = b * (b ^ q * z) := fun z => by rw [Nat.mul_comm (b ^ q) b, Nat.mul_assoc]
    rw [e1, e1]
    have := congrArg (fun z => b * z) ih
    simp only [Nat.mul_add] at this
    omega
theorem vN_getD_le (b : Nat) : ∀ (l : List Nat) (q : Nat), b ^ q * l.getD q 0 ≤ vN b l
  | [], q => by simp
  | x :: l, 0 => by simp [vN]
  | x :: l, q + 1 => by
    have ih := vN_getD_le b l q
    simp only [vN, List.getD_cons_succ, Nat.pow_succ]
    rw [Nat.mul_comm (b ^ q) b, Nat.mul_assoc]
    exact Nat.le_trans (Nat.mul_le_mul_left b ih) (by omega)
theorem vN_take_succ (b : Nat) (l : List Nat) (j : Nat) (h : j < l.length) : vN b (l.take (j + 1)) = vN b (l.take j) + b ^ j * l.getD j 0 := by
  rw [List.take_succ_eq_append_getElem h, vN_append]
  have : (l.take j).length = j := by rw [List.length_take]; omega
  rw [this, vN, vN, Nat.mul_zero, Nat.add_zero, List.getD_eq_getElem?_getD, List.getElem?_eq_getElem h]
  rfl
theorem getD_lt {l : List Nat} (h : ∀ d ∈ l, d < 10) (q : Nat) : l.getD q 0 ≤ 9 := by
  rw [List.getD_eq_getElem?_getD]
  rcases hq : l[q]? with _ | d
  · simp
  · have := h d (List.mem_of_getElem? hq)
    show d ≤ 9
    omega
theorem set_dg {l : List Nat} (h : ∀ d ∈ l, d < 10) (q n : Nat) : ∀ d ∈ l.set q (n % 10), d < 10 := fun d hd => by
  rcases List.mem_or_eq_of_mem_set hd with h1 | h1
  · exact h d h1
  · omega
theorem rdT (l : List Nat) (j : Nat) : Ptimes.threadbareref03_digit.f (ci l) (j : Int) = some ((l.getD j 0 : Nat) : Int) := by
  unfold Ptimes.threadbareref03_digit.f
  by_cases h : j < l.length
  · rw [if_pos (by rw [ci_len]; omega), if_pos (by omega), rdci]
  · rw [if_neg (by rw [ci_len]; omega), List.getD_eq_getElem?_getD, List.getElem?_eq_none (by omega)]; rfl
theorem set_ci (l : List Nat) (q d : Nat) : (ci l).set q (d : Int) = ci (l.set q d) := by simp [ci, List.map_set]
theorem w64a (i j : Nat) (h : i + j ≤ 1000000000) : wrap64 ((i : Int) + (j : Int)) = ((i + j : Nat) : Int) := by rw [w64n ((i : Int) + (j : Int)) (by omega) (by omega)]; omega
theorem w64s (j : Nat) (h : j ≤ 1000000000) : wrap64 ((j : Int) + 1) = ((j + 1 : Nat) : Int) := by rw [w64n ((j : Int) + 1) (by omega) (by omega)]; omega
theorem prod_w (y z : Nat) (h : y * z ≤ 81) : wrap64 ((y : Int) * (z : Int)) = ((y * z : Nat) : Int) := by
  rw [← Int.natCast_mul]
  obtain ⟨p, hp⟩ : ∃ p, p = y * z := ⟨_, rfl⟩
  rw [← hp] at h ⊢
  exact w64n _ (by omega) (by omega)
theorem sum_w (x p c : Nat) (hx : x ≤ 9) (hp : p ≤ 81) (hc : c ≤ 9) : wrap64 ((wrap64 ((x : Int) + (p : Int))) + (c : Int)) = ((x + p + c : Nat) : Int) := by
  rw [w64a x p (by omega), w64a (x + p) c (by omega)]
theorem t_step (a b out : List Nat) (i j c k : Nat) (hi : i < a.length) (hij : i + j < out.length) (hj : j < b.length ∨ 0 < c) (hc : c ≤ 9) (ha : ∀ d ∈ a, d < 10) (hb : ∀ d ∈ b, d < 10) (ho : ∀ d ∈ out, d < 10) (hs : out.length ≤ 1000000) :
    Ptimes.threadbareref03_times.l1 (k + 1) (ci a) (ci b) (ci out) (i : Int) (c : Int) (j : Int) (a.length : Int) (i : Int) =
      Ptimes.threadbareref03_times.l1 k (ci a) (ci b) (ci (out.set (i + j) ((out.getD (i + j) 0 + a.getD i 0 * b.getD j 0 + c) % 10))) (i : Int) (((out.getD (i + j) 0 + a.getD i 0 * b.getD j 0 + c) / 10 : Nat) : Int) ((j + 1 : Nat) : Int) (a.length : Int) (i : Int) := by
  have hx := getD_lt ho (i + j)
  have hy := getD_lt ha i
  have hz := getD_lt hb j
  have hp : a.getD i 0 * b.getD j 0 ≤ 81 := Nat.le_trans (Nat.mul_le_mul hy hz) (by decide)
  have hdg := rdT b j
  have g1 : ((i : Int) < ((ci a).length : Int)) := by rw [ci_len]; omega
  have g2 : (((i + j : Nat) : Int) < ((ci out).length : Int)) := by rw [ci_len]; omega
  have g3 : (0 : Int) ≤ ((i + j : Nat) : Int) := by omega
  have g4 : (0 : Int) ≤ (i : Int) := by omega
  have g5 : i + j ≤ 1000000000 := by omega
  have key : ∀ x y z : Nat, x ≤ 9 → y * z ≤ 81 → rd (ci out) ((i + j : Nat) : Int) = (x : Int) → rd (ci a) (i : Int) = (y : Int) → Ptimes.threadbareref03_digit.f (ci b) (j : Int) = some (z : Int) →
      (if 0 < c ∨ j < b.length then True else False) → Ptimes.threadbareref03_times.l1 (k + 1) (ci a) (ci b) (ci out) (i : Int) (c : Int) (j : Int) (a.length : Int) (i : Int) =
      Ptimes.threadbareref03_times.l1 k (ci a) (ci b) (ci (out.set (i + j) ((x + y * z + c) % 10))) (i : Int) (((x + y * z + c) / 10 : Nat) : Int) ((j + 1 : Nat) : Int) (a.length : Int) (i : Int) := by
    intro x y z hx hp ex ey ez _
    have e1 := sum_w x (y * z) c hx hp hc
    have e2 := w64n (((x + y * z + c) / 10 : Nat) : Int) (by clear ex ey ez e1; omega) (by clear ex ey ez e1; omega)
    have ep := prod_w y z hp
    have ew := w64a i j g5
    have ez' := w64s j (by clear ex ey ez e1 e2 ep ew; omega)
    rw [Ptimes.threadbareref03_times.l1]
    by_cases h : j < b.length
    · have h' : ((j : Int) < ((ci b).length : Int)) := by clear ex ey ez e1 e2 ep ew ez'; rw [ci_len]; omega
      rw [if_pos h', ew, if_pos g3, if_pos g2, if_pos g4, if_pos g1, ez]
      simp only [Option.bind_some]
      rw [ex, ey, ep, e1, tm10, td10, e2, ez', Int.toNat_natCast, set_ci]
    · have h' : ¬ ((j : Int) < ((ci b).length : Int)) := by clear ex ey ez e1 e2 ep ew ez'; rw [ci_len]; omega
      have h'' : (c : Int) > 0 := by clear ex ey ez e1 e2 ep ew ez' h'; omega
      rw [if_neg h', if_pos h'', ew, if_pos g3, if_pos g2, if_pos g4, if_pos g1, ez]
      simp only [Option.bind_some]
      rw [ex, ey, ep, e1, tm10, td10, e2, ez', Int.toNat_natCast, set_ci]
  exact key _ _ _ hx hp (rdci _ _) (rdci _ _) hdg (by rw [if_pos (by omega)]; trivial)
theorem pow_step (i j : Nat) : 10 ^ (i + (j + 1)) = 10 ^ (i + j) * 10 := by rw [← Nat.add_assoc, Nat.pow_succ]
theorem t_inner (a b : List Nat) (i : Nat) (hi : i < a.length) (ha : ∀ d ∈ a, d < 10) (hb : ∀ d ∈ b, d < 10) (P : Nat) (hs : a.length + b.length ≤ 1000000) :
    ∀ (r j c : Nat) (out : List Nat), j + r = b.length → out.length = a.length + b.length → (∀ d ∈ out, d < 10) → c ≤ 9 → vN 10 out + c * 10 ^ (i + j) = P + a.getD i 0 * 10 ^ i * vN 10 (b.take j) →
      ∃ (out' : List Nat) (c' : Nat), out'.length = a.length + b.length ∧ (∀ d ∈ out', d < 10) ∧ c' ≤ 9 ∧ vN 10 out' + c' * 10 ^ (i + b.length) = P + a.getD i 0 * 10 ^ i * vN 10 b ∧
        ∀ k, Ptimes.threadbareref03_times.l1 (k + r) (ci a) (ci b) (ci out) (i : Int) (c : Int) (j : Int) (a.length : Int) (i : Int) = Ptimes.threadbareref03_times.l1 k (ci a) (ci b) (ci out') (i : Int) (c' : Int) (b.length : Int) (a.length : Int) (i : Int) := by
  intro r
  induction r with
  | zero =>
    intro j c out hj hl ho hc hv
    have : j = b.length := by omega
    subst this
    exact ⟨out, c, hl, ho, hc, by rw [List.take_length] at hv; exact hv, fun k => rfl⟩
  | succ r ih =>
    intro j c out hj hl ho hc hv
    have hx := getD_lt ho (i + j)
    have hp : a.getD i 0 * b.getD j 0 ≤ 81 := Nat.le_trans (Nat.mul_le_mul (getD_lt ha i) (getD_lt hb j)) (by decide)
    have hset := vN_set 10 out (i + j) ((out.getD (i + j) 0 + a.getD i 0 * b.getD j 0 + c) % 10) (by omega)
    have htk := vN_take_succ 10 b j (by omega)
    have hstep := fun k => t_step a b out i j c k hi (by omega) (.inl (by omega)) hc ha hb ho (by omega)
    obtain ⟨n, hn⟩ : ∃ n, n = out.getD (i + j) 0 + a.getD i 0 * b.getD j 0 + c := ⟨_, rfl⟩
    rw [← hn] at hset hstep
    obtain ⟨out', c', h1, h2, h3, h4, h5⟩ := ih (j + 1) (n / 10) (out.set (i + j) (n % 10)) (by omega) (by rw [List.length_set]; exact hl) (set_dg ho _ _) (by omega) (by
      rw [htk, pow_step]
      have e1 : a.getD i 0 * 10 ^ i * (vN 10 (b.take j) + 10 ^ j * b.getD j 0) = a.getD i 0 * 10 ^ i * vN 10 (b.take j) + 10 ^ (i + j) * (a.getD i 0 * b.getD j 0) := by
        rw [Nat.mul_add, Nat.pow_add]; congr 1; ac_rfl
      have e2 : n / 10 * (10 ^ (i + j) * 10) = 10 ^ (i + j) * (n / 10 * 10) := by ac_rfl
      rw [e1, e2]
      have e3 : 10 ^ (i + j) * (n % 10) + 10 ^ (i + j) * (n / 10 * 10) = 10 ^ (i + j) * n := by rw [← Nat.mul_add]; congr 1; omega
      have e4 : 10 ^ (i + j) * n = 10 ^ (i + j) * out.getD (i + j) 0 + 10 ^ (i + j) * (a.getD i 0 * b.getD j 0) + c * 10 ^ (i + j) := by rw [hn, Nat.mul_add, Nat.mul_add, Nat.mul_comm c]
      omega)
    refine ⟨out', c', h1, h2, h3, h4, fun k => ?_⟩
    rw [show k + (r + 1) = (k + r) + 1 from by omega, hstep (k + r)]
    exact h5 k
theorem take_lt (a : List Nat) (ha : ∀ d ∈ a, d < 10) (i : Nat) (hi : i ≤ a.length) : vN 10 (a.take i) < 10 ^ i := by
  have := vN_lt ten2 (a.take i) (fun d hd => ha d (List.mem_of_mem_take hd))
  rwa [List.length_take, Nat.min_eq_left hi] at this
theorem t_round (a b : List Nat) (i : Nat) (hi : i < a.length) (ha : ∀ d ∈ a, d < 10) (hb : ∀ d ∈ b, d < 10) (hs : a.length + b.length ≤ 1000000) (out : List Nat) (hl : out.length = a.length + b.length) (ho : ∀ d ∈ out, d < 10)
    (hv : vN 10 out = vN 10 (a.take i) * vN 10 b) :
    ∃ out' : List Nat, out'.length = a.length + b.length ∧ (∀ d ∈ out', d < 10) ∧ vN 10 out' = vN 10 (a.take (i + 1)) * vN 10 b ∧
      ∀ k, b.length + 2 ≤ k → ∃ k', k - (b.length + 2) ≤ k' ∧ Ptimes.threadbareref03_times.l1 k (ci a) (ci b) (ci out) (i : Int) 0 0 (a.length : Int) (i : Int) = Ptimes.threadbareref03_times.l0 k' (ci a) (ci b) (ci out') (a.length : Int) ((i + 1 : Nat) : Int) := by
  obtain ⟨o1, c1, h1, h2, h3, h4, h5⟩ := t_inner a b i hi ha hb (vN 10 out) hs b.length 0 0 out (by omega) hl ho (by omega) (by simp [vN])
  have hP : vN 10 out + a.getD i 0 * 10 ^ i * vN 10 b = vN 10 (a.take (i + 1)) * vN 10 b := by
    rw [hv, vN_take_succ 10 a i hi, Nat.add_mul]; congr 1; ac_rfl
  rw [hP] at h4
  have hend : ∀ (o : List Nat) (j k : Nat), b.length ≤ j → Ptimes.threadbareref03_times.l1 (k + 1) (ci a) (ci b) (ci o) (i : Int) 0 (j : Int) (a.length : Int) (i : Int) = Ptimes.threadbareref03_times.l0 k (ci a) (ci b) (ci o) (a.length : Int) ((i + 1 : Nat) : Int) := fun o j k hj => by
    rw [Ptimes.threadbareref03_times.l1, if_neg (by rw [ci_len]; omega), if_neg (by omega), w64s i (by omega)]
  by_cases hc : c1 = 0
  · subst hc
    refine ⟨o1, h1, h2, by rw [← h4]; simp, fun k hk => ⟨k - (b.length + 1), by omega, ?_⟩⟩
    obtain ⟨q, rfl⟩ : ∃ q, k = (q + 1) + b.length := ⟨k - 1 - b.length, by omega⟩
    rw [show (0 : Int) = ((0 : Nat) : Int) from rfl, h5 (q + 1), show ((0 : Nat) : Int) = 0 from rfl, hend o1 b.length q (Nat.le_refl _)]
    congr 1
    omega
  · have hx := getD_lt h2 (i + b.length)
    have hset := vN_set 10 o1 (i + b.length) ((o1.getD (i + b.length) 0 + a.getD i 0 * b.getD b.length 0 + c1) % 10) (by omega)
    have hstep := fun k => t_step a b o1 i b.length c1 k hi (by omega) (.inr (by omega)) h3 ha hb h2 (by omega)
    have hb0 : b.getD b.length 0 = 0 := by rw [List.getD_eq_getElem?_getD, List.getElem?_eq_none (Nat.le_refl _)]; rfl
    rw [hb0, Nat.mul_zero, Nat.add_zero] at hset
    simp only [hb0, Nat.mul_zero, Nat.add_zero] at hstep
    have hlt : o1.getD (i + b.length) 0 + c1 < 10 := by
      have g1 := vN_getD_le 10 o1 (i + b.length)
      have g2 : vN 10 (a.take (i + 1)) * vN 10 b < 10 ^ (i + b.length) * 10 := by
        have q1 := take_lt a ha (i + 1) hi
        have q2 := vN_lt ten2 b hb
        have e : (10 : Nat) ^ (i + b.length) * 10 = 10 ^ (i + 1) * 10 ^ b.length := by rw [Nat.pow_add, Nat.pow_succ]; ac_rfl
        rw [e]
        exact Nat.mul_lt_mul_of_lt_of_le q1 (Nat.le_of_lt q2) (Nat.pow_pos (by decide))
      have g3 : (o1.getD (i + b.length) 0 + c1) * 10 ^ (i + b.length) < 10 * 10 ^ (i + b.length) := by
        rw [Nat.add_mul, Nat.mul_comm (o1.getD _ _), Nat.mul_comm 10]; omega
      exact Nat.lt_of_mul_lt_mul_right g3
    obtain ⟨n, hn⟩ : ∃ n, n = o1.getD (i + b.length) 0 + c1 := ⟨_, rfl⟩
    rw [← hn] at hset hlt
    simp only [← hn] at hstep
    have hm : n % 10 = n := Nat.mod_eq_of_lt hlt
    have hd : n / 10 = 0 := Nat.div_eq_of_lt hlt
    rw [hm] at hset
    simp only [hm, hd] at hstep
    refine ⟨o1.set (i + b.length) n, by rw [List.length_set]; exact h1, by rw [← hm]; exact set_dg h2 _ _, ?_, fun k hk => ⟨k - (b.length + 2), Nat.le_refl _, ?_⟩⟩
    · have e : 10 ^ (i + b.length) * n = 10 ^ (i + b.length) * o1.getD (i + b.length) 0 + c1 * 10 ^ (i + b.length) := by rw [hn, Nat.mul_add, Nat.mul_comm c1]
      omega
    · obtain ⟨q, rfl⟩ : ∃ q, k = (q + 2) + b.length := ⟨k - 2 - b.length, by omega⟩
      rw [show (0 : Int) = ((0 : Nat) : Int) from rfl, h5 (q + 2), hstep (q + 1), show ((0 : Nat) : Int) = 0 from rfl, hend _ (b.length + 1) q (by omega)]
      congr 1
      omega
theorem trim_l0 : ∀ (n k : Nat) (l : List Nat), l.length = n → (∀ d ∈ l, d < 10) → n < k → n ≤ 1000000 → Ptimes.threadbareref03_trimmed.l0 k (ci l) = some (ci (leN 10 (vN 10 l))) := by
  intro n
  induction n with
  | zero =>
    intro k l hl hd hk hn
    obtain ⟨k, rfl⟩ : ∃ q, k = q + 1 := ⟨k - 1, by omega⟩
    have : l = [] := List.length_eq_zero_iff.1 hl
    subst this
    rw [Ptimes.threadbareref03_trimmed.l0, if_neg (by rw [ci_len]; simp), vN, leN_zero]
  | succ n ih =>
    intro k l hl hd hk hn
    obtain ⟨k, rfl⟩ : ∃ q, k = q + 1 := ⟨k - 1, by omega⟩
    have hne : l ≠ [] := by intro e; subst e; simp at hl
    rw [Ptimes.threadbareref03_trimmed.l0, if_pos (by rw [ci_len]; omega), show wrap64 (((ci l).length : Int) - 1) = (n : Int) from by (rw [ci_len, hl, w64n (((n + 1 : Nat) : Int) - 1) (by omega) (by omega)]; omega), if_pos (by omega), if_pos (by rw [ci_len]; omega), rdci]
    obtain ⟨l', d, rfl⟩ : ∃ l' d, l = l' ++ [d] := ⟨l.dropLast, l.getLast hne, (List.dropLast_concat_getLast hne).symm⟩
    have hl' : l'.length = n := by simpa using hl
    have hg : (l' ++ [d]).getD n 0 = d := by rw [← hl', List.getD_eq_getElem?_getD, List.getElem?_append_right (Nat.le_refl _), Nat.sub_self]; rfl
    rw [hg]
    by_cases h0 : d = 0
    · subst h0
      rw [if_pos (by omega), if_pos (by rw [ci_len]; omega), Int.toNat_natCast, ci_app, List.take_left' (by rw [ci_len]; exact hl'), ih k l' hl' (fun x hx => hd x (by simp [hx])) (by omega) (by omega), vN_append]
      simp [vN]
    · rw [if_neg (by omega), leN_of ten2 (l' ++ [d]) hd (by simp [h0])]
theorem times_l0 (a b : List Nat) (ha : ∀ d ∈ a, d < 10) (hb : ∀ d ∈ b, d < 10) (hs : a.length + b.length ≤ 1000000) :
    ∀ (r i k : Nat) (out : List Nat), i + r = a.length → out.length = a.length + b.length → (∀ d ∈ out, d < 10) → vN 10 out = vN 10 (a.take i) * vN 10 b → r * (b.length + 3) + a.length + b.length + 5 ≤ k →
      Ptimes.threadbareref03_times.l0 k (ci a) (ci b) (ci out) (a.length : Int) (i : Int) = some (ci (leN 10 (vN 10 a * vN 10 b))) := by
  intro r
  induction r with
  | zero =>
    intro i k out hi hl ho hv hk
    obtain ⟨k, rfl⟩ : ∃ q, k = q + 1 := ⟨k - 1, by omega⟩
    have : i = a.length := by omega
    subst this
    rw [List.take_length] at hv
    rw [Ptimes.threadbareref03_times.l0, if_neg (by omega), Ptimes.threadbareref03_trimmed.f, trim_l0 out.length k out rfl ho (by omega) (by omega), hv]
    rfl
  | succ r ih =>
    intro i k out hi hl ho hv hk
    obtain ⟨k, rfl⟩ : ∃ q, k = q + 1 := ⟨k - 1, by omega⟩
    obtain ⟨o', h1, h2, h3, h4⟩ := t_round a b i (by omega) ha hb hs out hl ho hv
    rw [Nat.succ_mul] at hk
    obtain ⟨k', hk', he⟩ := h4 k (by omega)
    rw [Ptimes.threadbareref03_times.l0, if_pos (by omega), he]
    exact ih (i + 1) k' o' (by omega) h1 h2 h3 (by omega)
theorem ci_rep (n : Nat) : List.replicate n (0 : Int) = ci (List.replicate n 0) := by simp [ci]
theorem vN_rep (n : Nat) : vN 10 (List.replicate n 0) = 0 := by
  induction n with
  | zero => rfl
  | succ n ih => rw [List.replicate_succ, vN, ih]
theorem times_f (X Y : Nat) (n m : Nat) (hX : (leN 10 X).length ≤ n) (hY : (leN 10 Y).length ≤ m) (hs : n + m ≤ 1000000) (k : Nat) (hk : n * (m + 3) + n + m + 5 ≤ k) : Ptimes.threadbareref03_times.f k (ci (leN 10 X)) (ci (leN 10 Y)) = some (ci (leN 10 (X * Y))) := by
  unfold Ptimes.threadbareref03_times.f
  rw [ci_len, ci_len]
  rw [w64a (leN 10 X).length (leN 10 Y).length (by omega), if_pos (by omega), if_pos (by omega), Int.toNat_natCast, ci_rep]
  have hq : (leN 10 X).length * ((leN 10 Y).length + 3) ≤ n * (m + 3) := Nat.mul_le_mul hX (by omega)
  have := times_l0 (leN 10 X) (leN 10 Y) (leN_dg ten2 X) (leN_dg ten2 Y) (by omega) (leN 10 X).length 0 k (List.replicate ((leN 10 X).length + (leN 10 Y).length) 0) (by omega) (by simp) (fun d hd => by have := List.eq_of_mem_replicate hd; omega) (by rw [vN_rep]; simp [vN]) (by omega)
  rw [vN_leN ten2, vN_leN ten2] at this
  exact this
end Go.Proofs.YtemogjpgkcbaiaaGreatDoor.Sp
end
section
namespace Go.Proofs.YtemogjpgkcbaiaaGreatDoor.Sp
open Go.RowKit Go.Proofs.YtemogjpgkcbaiaaGreatDoorW.PrintWords Go.Proofs.YtemogjpgkcbaiaaGreatDoorW.PrintLast Go.Proofs.YtemogjpgkcbaiaaGreatDoorW.PrintMore
set_option linter.unusedVariables false
set_option linter.unusedSimpArgs false
set_option maxRecDepth 100000
attribute [local go_sem] Oper.semAt_some
def NS (w : World) (v : Value) (l : List Nat) : Prop := ∃ A c, v = .slice A l.length c ∧ l.length ≤ c ∧ Kd.C (Kd.int .i64) w A l.length (ci l)
theorem below_of_chg {w w' : World} (k : Chg (fun _ => False) w w') : Below w.heap.size w w' := k.below (Nat.le_refl _) (fun _ h => h.elim)
theorem NS.chg {w w' : World} {v : Value} {l : List Nat} (h : NS w v l) (k : Chg (fun _ => False) w w') : NS w' v l := by
  obtain ⟨A, c, h1, h2, h3⟩ := h
  exact ⟨A, c, h1, h2, Kd.C_below h3 (below_of_chg k)⟩
theorem NS.nil (w : World) : NS w (.slice none 0 0) [] := ⟨none, 0, rfl, Nat.le_refl _, rfl, by decide, fun h => absurd h (by decide)⟩
theorem NS.of_R {w : World} {base : Nat} {ok : Nat → Prop} {v : Value} {l : List Nat} (h : Kd.R (Kd.int .i64) 3 w base ok v (ci l)) : NS w v l := by
  obtain ⟨A, c, h1, h2, h3⟩ := Kd.R_reads h
  rw [ci_len] at h1 h2 h3
  exact ⟨A, c, h1, h2, h3⟩
theorem NS.of_V {w : World} {base : Nat} {ok : Nat → Prop} {v : Value} {l : List Nat} (h : Kd.V (Kd.int .i64) 3 w base ok v (ci l)) : NS w v l := by
  obtain ⟨A, c, rfl, hc, hF⟩ := h
  have := Kd.V_reads' (e := 3) (base := base) (⟨A, c, rfl, hc, hF⟩ : Kd.V (Kd.int .i64) 3 w base ok (.slice A (ci l).length c) (ci l))
  rw [ci_len] at this hc ⊢
  exact ⟨A, c, rfl, hc, this.2.2⟩
theorem natOf_calls (n : Nat) (hn : n ≤ 1000000000) (w : World) : Calls Tryz.prog 106 #[.int .i64 (n : Int)] w fun e w' => ∃ v, e = .returned v ∧ NS w' v (leN 10 n) ∧ Chg (fun _ => False) w w' := by
  refine (PnatOf.threadbareref03_natOf.calls 1000 n _ w (natOf_f n hn 1000 (Nat.le_refl _))).mono ?_
  rintro e w' ⟨v, rfl, h1, h2⟩
  exact ⟨v, rfl, NS.of_R h1, Chg.of_below h2⟩
theorem plus_calls (X Y : Nat) (hX : (leN 10 (X + Y)).length ≤ 2000) (v u : Value) (w : World) (h1 : NS w v (leN 10 X)) (h2 : NS w u (leN 10 Y)) :
    Calls Tryz.prog 104 #[v, u] w fun e w' => ∃ x, e = .returned x ∧ NS w' x (leN 10 (X + Y)) ∧ Chg (fun _ => False) w w' := by
  obtain ⟨A, c, rfl, a1, a2⟩ := h1
  obtain ⟨B, d, rfl, b1, b2⟩ := h2
  have := Pplus.threadbareref03_plus.calls 10000 A c (ci (leN 10 X)) B d (ci (leN 10 Y)) _ w (by rw [ci_len]; exact a2) (by rw [ci_len]; exact a1) (by rw [ci_len]; exact b2) (by rw [ci_len]; exact b1) (plus_f X Y 2000 hX (by omega) 10000 (by omega))
  rw [ci_len, ci_len] at this
  refine this.mono ?_
  rintro e w' ⟨x, rfl, q1, q2⟩
  exact ⟨x, rfl, NS.of_R q1, Chg.of_below q2⟩
theorem times_calls (X Y : Nat) (hX : (leN 10 X).length ≤ 2000) (hY : (leN 10 Y).length ≤ 10) (v u : Value) (w : World) (h1 : NS w v (leN 10 X)) (h2 : NS w u (leN 10 Y)) :
    Calls Tryz.prog 105 #[v, u] w fun e w' => ∃ x, e = .returned x ∧ NS w' x (leN 10 (X * Y)) ∧ Chg (fun _ => False) w w' := by
  obtain ⟨A, c, rfl, a1, a2⟩ := h1
  obtain ⟨B, d, rfl, b1, b2⟩ := h2
  have := Ptimes.threadbareref03_times.calls 100000 A c (ci (leN 10 X)) B d (ci (leN 10 Y)) _ w (by rw [ci_len]; exact a2) (by rw [ci_len]; exact a1) (by rw [ci_len]; exact b2) (by rw [ci_len]; exact b1) (times_f X Y 2000 10 hX hY (by omega) 100000 (by omega))
  rw [ci_len, ci_len] at this
  refine this.mono ?_
  rintro e w' ⟨x, rfl, q1, q2⟩
  exact ⟨x, rfl, NS.of_V q1, Chg.of_below q2⟩
def dgR (b : Nat) (c : UInt8) : Int := if dv c < b then (dv c : Int) else -1
theorem digit_ref (b : Nat) (hb : b ≤ 36) (c : UInt8) : PDigit.threadbareref01_Digit.f (c.toNat : Int) (b : Int) = some (dgR b c) := by
  have hc : c.toNat < 256 := UInt8.toNat_lt c
  obtain ⟨x, hx⟩ : ∃ x : Int, x = (c.toNat : Int) := ⟨_, rfl⟩
  have hx0 : 0 ≤ x ∧ x ≤ 255 := by omega
  have hv : dgR b c = if vlb x < b then vlb x else -1 := by
    unfold dgR dv
    rw [← hx]
    have := vlb_range x
    by_cases h : vlb x < b
    · rw [if_pos (by omega), if_pos h]; omega
    · rw [if_neg (by omega), if_neg h]
  rw [hv, ← hx]
  unfold PDigit.threadbareref01_Digit.f PDigit.threadbareref01_digit.f PDigit.threadbareref01_small.f PDigit.threadbareref01_within.f vlb
  rw [wrap_small (x := x) (by omega) (by omega)]
  by_cases h1 : 48 ≤ x ∧ x ≤ 57
  · rw [if_pos h1, if_pos h1.1]
    simp only [Option.bind_some, decide_eq_true h1.2, if_true]
    rw [show (x - 48) % 256 = x - 48 from by omega]
    by_cases h : x - 48 < b
    · rw [if_neg (by omega), if_pos h]; rfl
    · rw [if_pos (by omega), if_neg h]; rfl
  · rw [if_neg h1]
    have e1 : (if x ≥ 48 then some (decide (x ≤ 57)) else some false) = some false := by
      by_cases h : 48 ≤ x
      · rw [if_pos h, decide_eq_false (fun hh => h1 ⟨h, hh⟩)]
      · rw [if_neg (by omega)]
    rw [e1]
    simp only [Option.bind_some, Bool.false_eq_true, if_false]
    by_cases h2 : 65 ≤ x ∧ x ≤ 90
    · rw [if_pos h2.1]
      simp only [Option.bind_some, decide_eq_true h2.2, if_true]
      rw [show (x + 32) % 256 = x + 32 from by omega, wrap_small (x := x + 32) (by omega) (by omega), if_pos (show x + 32 ≥ 97 by omega)]
      simp only [Option.bind_some, decide_eq_true (show x + 32 ≤ 122 by omega), if_true]
      rw [if_neg (show ¬ (97 ≤ x ∧ x ≤ 122) by omega), if_pos h2, show (x + 32 - 97) % 256 + 10 = x - 55 from by omega]
      by_cases h : x - 55 < b
      · rw [if_neg (by omega), if_pos h]; rfl
      · rw [if_pos (by omega), if_neg h]; rfl
    · have e2 : (if x ≥ 65 then some (decide (x ≤ 90)) else some false) = some false := by
        by_cases h : 65 ≤ x
        · rw [if_pos h, decide_eq_false (fun hh => h2 ⟨h, hh⟩)]
        · rw [if_neg (by omega)]
      rw [e2]
      simp only [Option.bind_some, Bool.false_eq_true, if_false]
      rw [wrap_small (x := x) (by omega) (by omega), if_neg h2]
      by_cases h3 : 97 ≤ x ∧ x ≤ 122
      · rw [if_pos h3.1]
        simp only [Option.bind_some, decide_eq_true h3.2, if_true]
        rw [if_pos h3, show (x - 97) % 256 + 10 = x - 87 from by omega]
        by_cases h : x - 87 < b
        · rw [if_neg (by omega), if_pos h]; rfl
        · rw [if_pos (by omega), if_neg h]; rfl
      · have e3 : (if x ≥ 97 then some (decide (x ≤ 122)) else some false) = some false := by
          by_cases h : 97 ≤ x
          · rw [if_pos h, decide_eq_false (fun hh => h3 ⟨h, hh⟩)]
          · rw [if_neg (by omega)]
        rw [e3]
        simp only [Option.bind_some, Bool.false_eq_true, if_false]
        rw [if_neg h3, if_neg (show ¬ (36 : Int) < b by omega)]
        split <;> rfl
theorem digit_calls (b : Nat) (hb : b ≤ 36) (c : UInt8) (w : World) : Calls Tryz.prog 73 #[.int .u8 (c.toNat : Int), .int .i64 (b : Int)] w fun e w' => e = .returned (.int .i64 (dgR b c)) ∧ Chg (fun _ => False) w w' := by
  refine (PDigit.threadbareref01_Digit.calls _ _ _ w (digit_ref b hb c)).mono ?_
  rintro e w' ⟨rfl, hd⟩
  obtain ⟨n, rfl⟩ := hd.out
  exact ⟨rfl, (Chg.refl _ w).drewN n⟩
end Go.Proofs.YtemogjpgkcbaiaaGreatDoor.Sp
end
section
namespace Go.Proofs.YtemogjpgkcbaiaaGreatDoor.Sp
open Go.RowKit Go.Proofs.YtemogjpgkcbaiaaGreatDoorW.PrintWords Go.Proofs.YtemogjpgkcbaiaaGreatDoorW.PrintLast Go.Proofs.YtemogjpgkcbaiaaGreatDoorW.PrintMore
set_option linter.unusedVariables false
set_option linter.unusedSimpArgs false
set_option maxRecDepth 100000
set_option exponentiation.threshold 2000
attribute [local go_sem] Oper.semAt_some
def K1200 : Nat := 1200
def DG (V : Nat) (l : List Nat) : Prop := ∃ U, l = leN 10 U ∧ l.length ≤ 1203 ∧ (U = V ∨ (K1200 < l.length ∧ U ≤ V))
theorem DG.step {V : Nat} {l : List Nat} (h : DG V l) (b d : Nat) (hb : 2 ≤ b) (hs : K1200 < l.length) : DG (d + b * V) l := by
  obtain ⟨U, h1, h2, h3⟩ := h
  refine ⟨U, h1, h2, .inr ⟨hs, ?_⟩⟩
  have : V ≤ b * V := Nat.le_mul_of_pos_left V (by omega)
  rcases h3 with h3 | h3 <;> omega
theorem len_mul {U b d : Nat} (hb : b ≤ 36) (hd : d ≤ 36) (h : (leN 10 U).length ≤ 1200) : (leN 10 (d + b * U)).length ≤ 1203 ∧ (leN 10 (U * b)).length ≤ 1203 := by
  have h0 := (leN_length ten2 1200 U).1 h
  have hp : (10 : Nat) ^ 1203 = 10 ^ 1200 * 1000 := by rw [show 1203 = 1200 + 3 from rfl, Nat.pow_add]
  obtain ⟨P, hP⟩ : ∃ P, P = (10 : Nat) ^ 1200 := ⟨_, rfl⟩
  have hP1 : 1 ≤ P := by rw [hP]; exact Nat.pow_pos (by decide)
  rw [← hP] at h0 hp
  have h1 : b * U ≤ 36 * U := Nat.mul_le_mul_right U hb
  constructor
  · refine (leN_length ten2 1203 _).2 ?_
    rw [hp]; omega
  · refine (leN_length ten2 1203 _).2 ?_
    rw [hp, Nat.mul_comm U b]; omega
def DgPost (b : Nat) (l : List UInt8) (w : World) (e : Ending) (w' : World) : Prop :=
  ∃ v m, e = .returned (.tuple #[v, .bool (rdok b l)]) ∧ Chg (fun _ => False) w w' ∧ (rdok b l = true → NS w' v m ∧ DG (foV b l 0) m)
def DgPostN (b : Nat) (l : List UInt8) (w : World) (e : Ending) (w' : World) : Prop :=
  ∃ v m, e = .returned (.tuple #[v, .bool (rdok b l)]) ∧ Chg (fun _ => False) w w' ∧ NS w' v m ∧ (rdok b l = true → DG (foV b l 0) m)
def JD (b : Nat) (l : List UInt8) (w0 : World) (gk : Nat) (v6 v7 v12 : Value) (wr : World) : Prop :=
  ∃ (k : Nat) (m : List Nat) (z : Bool), v7 = .bool z ∧ v12 = .int .i64 k ∧ gk + k = l.length ∧ NS wr v6 m ∧ DG (foV b (l.take k) 0) m ∧ (z = true → foV b (l.take k) 0 = 0) ∧ (l.take k).all (dOk b) = true ∧ Chg (fun _ => False) w0 wr
set_option maxHeartbeats 2000000 in
theorem digits74n (s : ByteArray) (hs : s.size ≤ 100000) (b : Nat) (hb : 2 ≤ b) (hb2 : b ≤ 36) (w : World) : Calls Tryz.prog 74 #[.string s, .int .i64 (b : Int)] w (DgPostN b s.data.toList w) := by
  go_enter Tryz.func74, Tryz.ntmps74
  go_wp2_with fail
  have hlen : s.data.toList.length = s.size := Array.length_toList
  have HLEN := Lib.hid hlen
  clear hlen
  go_loopg [6, 7, 12] s.size (fun gk v6 v7 v12 wr => JD b s.data.toList w gk v6 v7 v12 wr)
  case atStart =>
    refine ⟨0, [], true, rfl, rfl, HLEN.out.symm, NS.nil w, ⟨0, (leN_zero 10).symm, by decide, .inl rfl⟩, fun _ => rfl, rfl, Chg.refl _ _⟩
  case round =>
    obtain ⟨k, m, z, rfl, rfl, hg, hN, hD, hz, hall, kR⟩ := hrel
    rw [HLEN.out] at hg
    have HG := Lib.hid hg
    have HD := Lib.hid hD
    have HA := Lib.hid hall
    have HZ := Lib.hid hz
    by_cases hlt : k < s.size
    · obtain ⟨c, hc, hbt, hv⟩ := dv_bt s k hlt
      have hb0 := bt_nat s k hlt
      rw [hbt] at hb0
      have HB0 := Lib.hid hb0
      have g1 : decide (k < s.size) = true := by simpa using hlt
      have g1' : decide ((k : Int) < (s.size : Int)) = true := by simp; omega
      have hdc := fun W => digit_calls b hb2 c W
      have hix := fun W : World => ix_run s k hlt W
      rw [hbt] at hix
      have hix2 := hix wr
      have HDC := Lib.hid hdc
      have HC := Lib.hid hc
      clear hg hD hall hz hdc hc hb0 hbt hv hix
      have hfo : foV b (s.data.toList.take (k + 1)) 0 = dv c + b * foV b (s.data.toList.take k) 0 := foV_snoc HC.out
      have HFO := Lib.hid hfo
      have w1 : IntKind.i64.wrap ((k : Int) + 1) = ((k + 1 : Nat) : Int) := i64_small (by omega) (by omega)
      by_cases hdv : dv c < b
      · have hdr : dgR b c = (dv c : Int) := if_pos hdv
        have g2 : decide ((dv c : Int) < 0) = false := by simp
        have hall' : (s.data.toList.take (k + 1)).all (dOk b) = true := all_snoc HA.out HC.out (by unfold dOk; exact decide_eq_true hdv)
        have HA' := Lib.hid hall'
        rw [hdr] at HDC
        obtain ⟨d, hd⟩ : ∃ d, d = dv c := ⟨_, rfl⟩
        have hd36 : d ≤ 36 := by rw [hd]; omega
        rw [← hd] at HDC HFO g2
        have g2' : ((d : Int) < 0) = False := by simp
        clear hfo hall' hdr hdv hd
        go_wp2_with fail
        refine (HDC.out _).mono ?_
        rintro e w2 ⟨rfl, k2⟩
        have hN2 := hN.chg k2
        have kR2 := kR.trans k2
        clear hN kR k2
        by_cases hzz : z = true ∧ d = 0
        · obtain ⟨rfl, rfl⟩ := hzz
          have hz0 := HZ.out rfl
          have HV := Lib.hid (show foV b (s.data.toList.take (k + 1)) 0 = 0 by rw [HFO.out, hz0]; simp)
          have HV0 := Lib.hid hz0
          clear hz0
          go_wp2_with fail
          go_roundg (s.size - (k + 1))
          case measure => have := HG.out; omega
          case rel => exact ⟨k + 1, m, true, rfl, rfl, by have := HG.out; rw [HLEN.out]; omega, hN2, by have := HD.out; rw [HV0.out] at this; rw [HV.out]; exact this, fun _ => HV.out, HA'.out, kR2⟩
        · have hzc : (z = false) ∨ (z = true ∧ (d == 0) = false ∧ ((d : Int) == 0) = false) := by
            cases z
            · exact .inl rfl
            · exact .inr ⟨rfl, by simpa using (fun h => hzz ⟨rfl, h⟩), by simp; intro h; exact hzz ⟨rfl, h⟩⟩
          clear hzz
          by_cases hbig : K1200 < m.length
          · obtain ⟨A, cc, rfl, hcc, hrow⟩ := hN2
            have hN2 : NS w2 (.slice A m.length cc) m := ⟨A, cc, rfl, hcc, hrow⟩
            have hb12 : 1200 < m.length := hbig
            have g3 : decide (1200 < m.length) = true := by simpa using hb12
            have g4 : decide ((1200 : Int) < (m.length : Int)) = true := by simp; omega
            have HBIG := Lib.hid hbig
            clear hbig hb12 hrow hcc
            rcases hzc with rfl | ⟨rfl, q1, q2⟩
            all_goals
              go_wp2_with fail
              go_roundg (s.size - (k + 1))
              case measure => have := HG.out; omega
              case rel => exact ⟨k + 1, m, false, rfl, rfl, by have := HG.out; rw [HLEN.out]; omega, hN2, by rw [HFO.out]; exact HD.out.step b d hb HBIG.out, (fun h => by cases h), HA'.out, kR2⟩
          · obtain ⟨A, cc, rfl, hcc, hrow⟩ := hN2
            have hN2 : NS w2 (.slice A m.length cc) m := ⟨A, cc, rfl, hcc, hrow⟩
            have hb12 : ¬ 1200 < m.length := hbig
            have g3 : decide (1200 < m.length) = false := by simpa using hb12
            have g4 : decide ((1200 : Int) < (m.length : Int)) = false := by simp; omega
            obtain ⟨U, hU1, hU2, hU3⟩ := HD.out
            have hU : U = foV b (s.data.toList.take k) 0 := hU3.resolve_right (fun h => hbig h.1)
            have hUl : (leN 10 U).length ≤ 1200 := by rw [← hU1]; omega
            have hmul := len_mul (b := b) (d := d) hb2 hd36 hUl
            rw [hU1] at hN2
            have HN2 := Lib.hid hN2
            have HML := Lib.hid hmul
            have HU := Lib.hid hU
            have HM := Lib.hid hU1
            have HUL := Lib.hid hUl
            clear hbig hb12 hrow hcc hN2 hU hU1 hU2 hU3 hmul hUl
            rcases hzc with rfl | ⟨rfl, q1, q2⟩
            all_goals
              go_wp2_with fail
              refine (natOf_calls b (by omega) _).mono ?_
              rintro e w3 ⟨vb, rfl, hvb, k3⟩
              have hNa := HN2.out.chg k3
              have kR3 := kR2.trans k3
              go_wp2_with fail
              have ht := times_calls U b (by have := HUL.out; omega) ((leN_length ten2 10 b).2 (by omega)) _ _ w3 hNa hvb
              rw [← HM.out] at ht
              refine ht.mono ?_
              rintro e w4 ⟨vt, rfl, hvt, k4⟩
              have kR4 := kR3.trans k4
              go_wp2_with fail
              refine (natOf_calls d (by omega) _).mono ?_
              rintro e w5 ⟨vd, rfl, hvd, k5⟩
              have hvt5 := hvt.chg k5
              have kR5 := kR4.trans k5
              go_wp2_with fail
              refine (plus_calls (U * b) d (by have := HML.out.1; rw [show U * b + d = d + b * U from by rw [Nat.mul_comm, Nat.add_comm]]; omega) _ _ w5 hvt5 hvd).mono ?_
              rintro e w6 ⟨vs, rfl, hvs, k6⟩
              have kR6 := kR5.trans k6
              clear ht hNa hvb hvt hvt5 hvd k3 k4 k5 k6 kR3 kR4 kR5
              go_wp2_with fail
              go_roundg (s.size - (k + 1))
              case measure => have := HG.out; omega
              case rel =>
                have e1 : U * b + d = foV b (s.data.toList.take (k + 1)) 0 := by rw [HFO.out, ← HU.out, Nat.mul_comm, Nat.add_comm]
                refine ⟨k + 1, leN 10 (U * b + d), false, rfl, rfl, by have := HG.out; rw [HLEN.out]; omega, hvs, ⟨U * b + d, rfl, ?_, .inl e1⟩, (fun h => by cases h), HA'.out, kR6⟩
                have := HML.out.1
                rw [show U * b + d = d + b * U from by rw [Nat.mul_comm, Nat.add_comm]]
                exact this
      · have hdr : dgR b c = -1 := if_neg hdv
        have hnot : rdok b s.data.toList = false := by
          unfold rdok
          rw [all_not HC.out (by unfold dOk; exact decide_eq_false hdv), Bool.and_false]
        have HNOT := Lib.hid hnot
        rw [hdr] at HDC
        clear hfo hdr hdv hnot
        go_wp2_with fail
        refine (HDC.out _).mono ?_
        rintro e w2 ⟨rfl, k2⟩
        have kR2 := kR.trans k2
        go_wp2_with fail
        go_ret2
        refine ⟨.slice none 0 0, [], by rw [HNOT.out]; rfl, kR2, NS.nil _, fun h => by rw [HNOT.out] at h; cases h⟩
    · have g1 : decide (k < s.size) = false := by simpa using hlt
      have g1' : decide ((k : Int) < (s.size : Int)) = false := by simp; omega
      have hk : k = s.size := by omega
      have hok : rdok b s.data.toList = !s.toList.isEmpty := by
        have h := HA.out
        rw [List.take_of_length_le (by rw [HLEN.out]; omega)] at h
        unfold rdok
        rw [h, Bool.and_true, Lib.toList_data]
      have hDD := HD.out
      rw [List.take_of_length_le (by rw [HLEN.out]; omega)] at hDD
      have HDD := Lib.hid hDD
      have HOK := Lib.hid hok
      obtain ⟨A, cc, rfl, hcc, hrow⟩ := hN
      have hN2 : NS wr (.slice A m.length cc) m := ⟨A, cc, rfl, hcc, hrow⟩
      clear hg hD hall hz hDD hok hk hlt hrow hcc
      go_wp2_with fail
      go_ret2
      exact ⟨.slice A m.length cc, m, by rw [HOK.out]; rfl, kR, hN2, fun _ => HDD.out⟩
theorem digits74 (s : ByteArray) (hs : s.size ≤ 100000) (b : Nat) (hb : 2 ≤ b) (hb2 : b ≤ 36) (w : World) : Calls Tryz.prog 74 #[.string s, .int .i64 (b : Int)] w (DgPost b s.data.toList w) :=
  (digits74n s hs b hb hb2 w).mono fun e w' h => by
    obtain ⟨v, m, h1, h2, h3, h4⟩ := h
    exact ⟨v, m, h1, h2, fun hr => ⟨h3, h4 hr⟩⟩
end Go.Proofs.YtemogjpgkcbaiaaGreatDoor.Sp
end
section
namespace Go.Proofs.YtemogjpgkcbaiaaGreatDoor.Sp
open Go.RowKit Go.Proofs.YtemogjpgkcbaiaaGreatDoorW.PrintWords Go.Proofs.YtemogjpgkcbaiaaGreatDoorW.PrintLast Go.Proofs.YtemogjpgkcbaiaaGreatDoorW.PrintMore
set_option linter.unusedVariables false
set_option linter.unusedSimpArgs false
set_option maxRecDepth 100000
attribute [local go_sem] Oper.semAt_some
theorem num76 (neg : Bool) (v : Value) (l : List Nat) (w : World) (h : NS w v l) : Calls Tryz.prog 76 #[.bool neg, v] w fun e w' => e = .returned (.agg #[.bool (neg && decide (0 < l.length)), v]) ∧ Chg (fun _ => False) w w' := by
  obtain ⟨A, c, rfl, h1, h2⟩ := h
  obtain ⟨n, hn⟩ : ∃ n, n = l.length := ⟨_, rfl⟩
  rw [← hn]
  clear hn h1 h2
  cases neg
  · go_enter Tryz.func76, Tryz.ntmps76
    go_wp2
    refine bodyPost_ret (v := .agg #[.bool false, .slice A n c]) (by simp [results, Tryz.results76, go_sem]) rfl ⟨rfl, ?_⟩
    exact Chg.of_below (by repeat (first | exact Below.refl _ _ | apply below_alloc | apply below_drew1))
  · by_cases h0 : 0 < n
    · have g1 : decide (0 < n) = true := by simpa using h0
      have g2 : decide ((0 : Int) < (n : Int)) = true := by simp; omega
      go_enter Tryz.func76, Tryz.ntmps76
      go_wp2
      refine bodyPost_ret (v := .agg #[.bool true, .slice A n c]) (by simp [results, Tryz.results76, go_sem]) rfl ⟨by rw [g1]; rfl, ?_⟩
      exact Chg.of_below (by repeat (first | exact Below.refl _ _ | apply below_alloc | apply below_drew1))
    · have g1 : decide (0 < n) = false := by simpa using h0
      have g2 : decide ((0 : Int) < (n : Int)) = false := by simp; omega
      go_enter Tryz.func76, Tryz.ntmps76
      go_wp2
      refine bodyPost_ret (v := .agg #[.bool false, .slice A n c]) (by simp [results, Tryz.results76, go_sem]) rfl ⟨by rw [g1]; rfl, ?_⟩
      exact Chg.of_below (by repeat (first | exact Below.refl _ _ | apply below_alloc | apply below_drew1))
theorem long107 (neg : Bool) (v : Value) (l : List Nat) (w : World) (h : NS w v l) : Calls Tryz.prog 107 #[.agg #[.bool neg, v]] w fun e w' => e = .returned (.bool (decide (600 < l.length))) ∧ Chg (fun _ => False) w w' := by
  obtain ⟨A, c, rfl, h1, h2⟩ := h
  have := PLong.threadbareref03_Long.calls neg A c (ci l) (decide (600 < l.length)) w (by rw [ci_len]; exact h2) (by rw [ci_len]; exact h1) (by
    unfold PLong.threadbareref03_Long.f
    rw [ci_len]
    congr 1
    by_cases h : 600 < l.length
    · rw [decide_eq_true h, decide_eq_true (by omega)]
    · rw [decide_eq_false h, decide_eq_false (by omega)])
  rw [ci_len] at this
  exact this.mono fun e w' h => ⟨h.1, Chg.of_below h.2⟩
def tx10 (l : List Nat) : ByteArray := strOfNums (l.map ltr).reverse
theorem itB_digit : ∀ d : Fin 10, (itB ((d.val : Nat) : Int)).data = (strOfNums [ltr d.val]).data := by decide +kernel
theorem itB_dig (d : Nat) (h : d < 10) : itB (d : Int) = strOfNums [ltr d] := by
  apply ba_ext
  have := itB_digit ⟨d, h⟩
  simp only at this
  rw [this]
theorem tx10_snoc (l : List Nat) (d : Nat) : strOfNums [ltr d] ++ tx10 l = tx10 (l ++ [d]) := by
  unfold tx10
  rw [List.map_append, List.reverse_append]
  apply ba_ext
  simp [strOfNums]
def txR (neg : Bool) (l : List Nat) : ByteArray := if l = [] then ⟨#[48]⟩ else if neg = true then ⟨#[45]⟩ ++ tx10 l else tx10 l
theorem tx10_len (l : List Nat) : (tx10 l).size = l.length := by simp [tx10, strOfNums, ByteArray.size]
theorem NS.get {w : World} {A : Option Addr} {n : Nat} {l : List Nat} (h : Kd.C (Kd.int .i64) w A n (ci l)) (k : Nat) (hk : k < n) (hn : n = l.length) : ∃ ad, A = some ad ∧ w.cell? (ad.add k) = some (.int .i64 ((l.getD k 0 : Nat) : Int)) := by
  obtain ⟨ad, h1, h2⟩ := Kd.at_int h (k : Int) (by omega) (by omega)
  refine ⟨ad, h1, ?_⟩
  rw [rdci, Int.toNat_natCast] at h2
  exact h2
set_option maxHeartbeats 1000000 in
theorem text108 (neg : Bool) (v : Value) (l : List Nat) (hl : l.length ≤ 2000) (hd : ∀ d ∈ l, d < 10) (w : World) (h : NS w v l) (hT : T10 w) : Calls Tryz.prog 108 #[.agg #[.bool neg, v]] w fun e w' => e = .returned (.string (txR neg l)) ∧ Chg (fun _ => False) w w' := by
  obtain ⟨A, c, rfl, h1, h2⟩ := h
  go_enter Tryz.func108, Tryz.ntmps108
  go_wp2_with fail
  obtain ⟨W0, hW0⟩ : ∃ W0, W0 = w.alloc (Obj.cells #[.bool neg, .slice A l.length c] 117) := ⟨_, rfl⟩
  obtain ⟨B, hB⟩ : ∃ B, B = w.heap.size := ⟨_, rfl⟩
  have hBX : W0.heap[B]? = some (.cells #[.bool neg, .slice A l.length c] 117 (0, 0)) := by rw [hW0, hB]; exact World.alloc_heap_new w _
  have k0 : Chg (fun _ => False) w W0 := by rw [hW0]; exact (Chg.refl _ w).alloc _
  have hC0 := Kd.C_below h2 (below_of_chg k0)
  have hT0 := hT.chg k0 (fun h => h)
  rw [← hW0, ← hB]
  clear hW0 hB h2 hT
  go_loopg [3, 9] l.length (fun gk v3 v9 wr => ∃ k : Nat, v3 = .string (tx10 (l.take k)) ∧ v9 = .int .i64 k ∧ gk + k = l.length ∧ wr.heap[B]? = some (.cells #[.bool neg, .slice A l.length c] 117 (0, 0)) ∧ Kd.C (Kd.int .i64) wr A l.length (ci l) ∧ T10 wr ∧ Chg (fun _ => False) w wr)
  case atStart => exact ⟨0, rfl, rfl, rfl, hBX, hC0, hT0, k0⟩
  case round =>
    obtain ⟨k, rfl, rfl, hg, hbx, hC, hTr, kR⟩ := hrel
    clear hBX k0 hC0 hT0
    have HG := Lib.hid hg
    have hbx0 : wr.cell? ⟨B, 0, none⟩ = some (.bool neg) := cell_of hbx 0 rfl
    have htl : (tx10 (l.take k)).size ≤ 2000 := by rw [tx10_len, List.length_take]; omega
    by_cases hlt : k < l.length
    · obtain ⟨ad, rfl, hc⟩ := NS.get hC k hlt rfl
      obtain ⟨d, hdd⟩ : ∃ d, d = l.getD k 0 := ⟨_, rfl⟩
      rw [← hdd] at hc
      have hlk : l[k]? = some d := by rw [hdd, List.getD_eq_getElem?_getD, List.getElem?_eq_getElem hlt]; rfl
      have hd10 : d < 10 := hd d (List.mem_of_getElem? hlk)
      have htk : l.take (k + 1) = l.take k ++ [d] := by rw [List.take_add_one, hlk]; rfl
      have hits := fun W hT => itoa_calls (d : Int) (by omega) (by omega) W hT
      rw [itB_dig d hd10] at hits
      have hsn := tx10_snoc (l.take k) d
      rw [← htk] at hsn
      have g1 : decide (k < l.length) = true := by simpa using hlt
      have g1' : decide ((k : Int) < (l.length : Int)) = true := by simp; omega
      have e1 : (0 ≤ (k : Int)) = True := eq_true (by omega)
      have e2 : ((k : Int) < (l.length : Int)) = True := eq_true (by omega)
      have w1 : IntKind.i64.wrap ((k : Int) + 1) = ((k + 1 : Nat) : Int) := i64_small (by omega) (by omega)
      have hs1 : (strOfNums [ltr d]).size = 1 := by simp [strOfNums, ByteArray.size]
      have HIT := Lib.hid (hits wr hTr)
      have HSN := Lib.hid hsn
      have hsum : (9223372036854775807 < (strOfNums [ltr d]).size + (tx10 (l.take k)).size) = False := by simp; omega
      clear hdd hlk hd10 htk hits hsn hg hs1
      go_wp2_with fail
      refine (HIT.out).mono ?_
      rintro e w2 ⟨rfl, k2⟩
      go_wp2_with fail
      go_roundg (l.length - (k + 1))
      case measure => have := HG.out; omega
      case rel =>
        exact ⟨k + 1, by rw [HSN.out], rfl, by have := HG.out; omega, (k2.block _ (Array.getElem?_eq_some_iff.1 hbx).1 (fun h => h)).trans hbx, Kd.C_below hC (below_of_chg k2), hTr.chg k2 (fun h => h), kR.trans k2⟩
    · have g1 : decide (k < l.length) = false := by simpa using hlt
      have g1' : decide ((k : Int) < (l.length : Int)) = false := by simp; omega
      have htk : l.take k = l := List.take_of_length_le (by omega)
      rw [htk] at htl ⊢
      by_cases h0 : l = []
      · have e1 : (tx10 l).toList = [] := by rw [toList_nil, tx10_len, h0]; rfl
        have e2 : (tx10 l).toList.isEmpty = true := by rw [e1]; rfl
        have HR := Lib.hid (show txR neg l = ⟨#[48]⟩ from if_pos h0)
        clear htk hg hlt h0
        go_wp2_with fail
        go_ret
        exact ⟨by rw [HR.out]; rfl, kR⟩
      · have e0 : (tx10 l).toList ≠ [] := fun h => by
          rw [toList_nil, tx10_len] at h
          exact h0 (List.length_eq_zero_iff.1 h)
        have e2 : (tx10 l).toList.isEmpty = false := by simpa using e0
        have e1 : ((tx10 l).toList = []) = False := eq_false e0
        have h45 : (⟨#[45]⟩ : ByteArray).size = 1 := rfl
        have hsum : (9223372036854775807 < (⟨#[45]⟩ : ByteArray).size + (tx10 l).size) = False := by rw [h45]; simp; omega
        cases neg
        · have HR := Lib.hid (show txR false l = tx10 l from by unfold txR; rw [if_neg h0, if_neg (by simp)])
          clear htk hg hlt h0 e0 h45
          go_wp2_with fail
          go_ret
          exact ⟨by rw [HR.out]; rfl, kR⟩
        · have HR := Lib.hid (show txR true l = ⟨#[45]⟩ ++ tx10 l from by unfold txR; rw [if_neg h0, if_pos rfl])
          clear htk hg hlt h0 e0 h45
          go_wp2_with fail
          go_ret
          exact ⟨by rw [HR.out]; rfl, kR⟩
def toldR (neg : Bool) (l : List Nat) : ByteArray × Int := if 600 < l.length then (⟨#[]⟩, 4) else (txR neg l, 0)
set_option maxHeartbeats 1000000 in
theorem told75x (neg : Bool) (v : Value) (l : List Nat) (hd : ∀ d ∈ l, d < 10) (w : World) (h : NS w v l) (hT : T10 w) : Calls Tryz.prog 75 #[.agg #[.bool neg, v], .slice none 0 0] w fun e w' => e = .returned (.tuple #[.string (toldR neg l).1, .int .i64 (toldR neg l).2]) ∧ Chg (fun _ => False) w w' := by
  have hN := h
  obtain ⟨A, c, rfl, h1, h2⟩ := h
  go_enter Tryz.func75, Tryz.ntmps75
  go_wp2_with fail
  obtain ⟨W0, hW0⟩ : ∃ W0, W0 = w.alloc (Obj.cells #[.bool neg, .slice A l.length c] 117) := ⟨_, rfl⟩
  obtain ⟨B, hB⟩ : ∃ B, B = w.heap.size := ⟨_, rfl⟩
  have hBX : W0.heap[B]? = some (.cells #[.bool neg, .slice A l.length c] 117 (0, 0)) := by rw [hW0, hB]; exact World.alloc_heap_new w _
  have k0 : Chg (fun _ => False) w W0 := by rw [hW0]; exact (Chg.refl _ w).alloc _
  have hN0 := hN.chg k0
  have hT0 := hT.chg k0 (fun h => h)
  rw [← hW0, ← hB]
  clear hW0 hB h2 hT hN
  go_loopg [10] 0 (fun gk v10 wr => v10 = .int .i64 0 ∧ gk = 0 ∧ wr.heap[B]? = some (.cells #[.bool neg, .slice A l.length c] 117 (0, 0)) ∧ NS wr (.slice A l.length c) l ∧ T10 wr ∧ Chg (fun _ => False) w wr)
  case atStart => exact ⟨rfl, rfl, hBX, hN0, hT0, k0⟩
  case round =>
    obtain ⟨rfl, hg, hbx, hN, hTr, kR⟩ := hrel
    clear hBX k0 hN0 hT0
    have b0 : wr.cell? ⟨B, 0, none⟩ = some (.bool neg) := cell_of hbx 0 rfl
    have b1 : wr.cell? ⟨B, 1, none⟩ = some (.slice A l.length c) := cell_of hbx 1 rfl
    have hlong := long107 neg _ l wr hN
    by_cases hbig : 600 < l.length
    · rw [decide_eq_true hbig] at hlong
      have HL := Lib.hid hlong
      have HR := Lib.hid (show toldR neg l = (⟨#[]⟩, 4) from if_pos hbig)
      clear hlong hbig
      go_wp2_with fail
      refine (HL.out).mono ?_
      rintro e w2 ⟨rfl, k2⟩
      go_wp2_with fail
      go_ret2
      exact ⟨by rw [HR.out]; rfl, kR.trans k2⟩
    · rw [decide_eq_false hbig] at hlong
      have HL := Lib.hid hlong
      have HR := Lib.hid (show toldR neg l = (txR neg l, 0) from if_neg hbig)
      have HSM := Lib.hid (show l.length ≤ 2000 by omega)
      clear hlong hbig
      go_wp2_with fail
      refine (HL.out).mono ?_
      rintro e w2 ⟨rfl, k2⟩
      have hbx2 := (k2.block _ (Array.getElem?_eq_some_iff.1 hbx).1 (fun h => h)).trans hbx
      have c0 : w2.cell? ⟨B, 0, none⟩ = some (.bool neg) := cell_of hbx2 0 rfl
      have c1 : w2.cell? ⟨B, 1, none⟩ = some (.slice A l.length c) := cell_of hbx2 1 rfl
      have HT := Lib.hid (text108 neg _ l HSM.out hd w2 (hN.chg k2) (hTr.chg k2 (fun h => h)))
      go_wp2_with fail
      refine (HT.out).mono ?_
      rintro e w3 ⟨rfl, k3⟩
      go_wp2_with fail
      go_ret2
      exact ⟨by rw [HR.out]; rfl, (kR.trans k2).trans k3⟩
theorem told75 (neg : Bool) (v : Value) (l : List Nat) (hl : l.length ≤ 2000) (hd : ∀ d ∈ l, d < 10) (w : World) (h : NS w v l) (hT : T10 w) : Calls Tryz.prog 75 #[.agg #[.bool neg, v], .slice none 0 0] w fun e w' => e = .returned (.tuple #[.string (toldR neg l).1, .int .i64 (toldR neg l).2]) ∧ Chg (fun _ => False) w w' := told75x neg v l hd w h hT
theorem base42 (c : Int) (hc : c ≠ 88) (w : World) : Calls Tryz.prog 42 #[.int .u8 c] w fun e w' => e = .returned (.int .i64 (bsN c)) ∧ w' = w := by
  by_cases h1 : c = 120
  · subst h1; go_enter Tryz.func42, Tryz.ntmps42; go_wp2; go_ret; exact ⟨rfl, rfl⟩
  · by_cases h2 : c = 111
    · subst h2; go_enter Tryz.func42, Tryz.ntmps42; go_wp2; go_ret; exact ⟨rfl, rfl⟩
    · by_cases h3 : c = 98
      · subst h3; go_enter Tryz.func42, Tryz.ntmps42; go_wp2; go_ret; exact ⟨rfl, rfl⟩
      · have e1 : (c == 120) = false := by simpa using h1
        have e2 : (c == 111) = false := by simpa using h2
        have e3 : (c == 98) = false := by simpa using h3
        have e4 : (c == 88) = false := by simpa using hc
        have HB := Lib.hid (show bsN c = 10 by unfold bsN; simp [h1, h2, h3, hc])
        clear h1 h2 h3 hc
        go_enter Tryz.func42, Tryz.ntmps42
        go_wp2
        go_ret
        exact ⟨by rw [HB.out]; rfl, rfl⟩
theorem of38 (n : Int) (h0 : 0 ≤ n) (h1 : n ≤ 1000000) (w : World) (hT : T10 w) : Calls Tryz.prog 38 #[.int .i64 n] w fun e w' => e = .returned (.string (itB n)) ∧ Chg (fun _ => False) w w' := by
  go_enter Tryz.func38, Tryz.ntmps38
  go_wp2_with fail
  refine (itoa_calls n (by omega) (by omega) w hT).mono ?_
  rintro e w' ⟨rfl, k⟩
  go_wp2_with fail
  go_ret
  exact ⟨rfl, k⟩
end Go.Proofs.YtemogjpgkcbaiaaGreatDoor.Sp
end
section
namespace Go.Proofs.YtemogjpgkcbaiaaGreatDoor.Sp
open Go.RowKit Go.Proofs.YtemogjpgkcbaiaaGreatDoorW.PrintWords Go.Proofs.YtemogjpgkcbaiaaGreatDoorW.PrintLast Go.Proofs.YtemogjpgkcbaiaaGreatDoorW.PrintMore
set_option linter.unusedVariables false
set_option linter.unusedSimpArgs false
set_option maxRecDepth 100000
attribute [local go_sem] Oper.semAt_some max2_int min2_int max_two min_two
theorem white36_f (c : Int) (h0 : 0 ≤ c) (h1 : c ≤ 255) : Pwhite.threadbareref01_White.f c = some (isWh c) := by
  unfold Pwhite.threadbareref01_White.f Pwhite.threadbareref01_within.f isWh
  rw [wrap_small (x := c) (by omega) (by omega)]
  by_cases h1 : c ≥ 9
  · by_cases h2 : c ≤ 13
    · rw [if_pos h1]; simp [h2, h1]
    · rw [if_pos h1]; simp [h2]
  · rw [if_neg h1]; simp; omega
theorem white36 (c : Int) (h0 : 0 ≤ c) (h1 : c ≤ 255) (w : World) : Calls Tryz.prog 36 #[.int .u8 c] w fun e w' => e = .returned (.bool (isWh c)) ∧ Chg (fun _ => False) w w' := by
  refine (Pwhite.threadbareref01_White.calls c _ w (white36_f c h0 h1)).mono ?_
  rintro e w' ⟨rfl, hd⟩
  obtain ⟨n, rfl⟩ := hd.out
  exact ⟨rfl, (Chg.refl _ w).drewN n⟩
theorem white37_l0 (s : ByteArray) (hs : s.size ≤ 100000) : ∀ (m k : Nat) (p : Int), 0 ≤ p → (s.size : Int) - p ≤ m → m < k → Pwhite.threadbareref08_white.l0 k s p = some (rn isWh s m p) := by
  intro m
  induction m with
  | zero =>
    intro k p h0 h1 hk
    obtain ⟨k, rfl⟩ : ∃ q, k = q + 1 := ⟨k - 1, by omega⟩
    rw [Pwhite.threadbareref08_white.l0, if_neg (by omega)]; rfl
  | succ m ih =>
    intro k p h0 h1 hk
    obtain ⟨k, rfl⟩ : ∃ q, k = q + 1 := ⟨k - 1, by omega⟩
    have hr := bt_range s p
    rw [Pwhite.threadbareref08_white.l0]
    by_cases hl : p < s.size
    · rw [if_pos hl, if_pos h0, white36_f _ hr.1 hr.2]
      simp only [Option.bind_some]
      by_cases hw : isWh (bt s p) = true
      · rw [if_pos hw, show rn isWh s (m + 1) p = rn isWh s m (p + 1) from if_pos ⟨hl, hw⟩, wrap_small (x := p + 1) (by omega) (by omega)]
        exact ih k (p + 1) (by omega) (by omega) (by omega)
      · rw [if_neg hw, show rn isWh s (m + 1) p = p from if_neg (fun h => hw h.2)]
    · rw [if_neg hl, show rn isWh s (m + 1) p = p from if_neg (fun h => hl h.1)]
theorem white37 (s : ByteArray) (hs : s.size ≤ 100000) (p : Int) (h0 : 0 ≤ p) (w : World) : Calls Tryz.prog 37 #[.string s, .int .i64 p] w fun e w' => e = .returned (.int .i64 (wh s p)) ∧ Chg (fun _ => False) w w' := by
  refine (Pwhite.threadbareref08_white.calls (s.size + 1) s p _ w (white37_l0 s hs s.size (s.size + 1) p h0 (by omega) (by omega))).mono ?_
  rintro e w' ⟨rfl, hd⟩
  obtain ⟨n, rfl⟩ := hd.out
  exact ⟨rfl, (Chg.refl _ w).drewN n⟩
set_option maxHeartbeats 2000000 in
theorem run39 (s : ByteArray) (hs : s.size ≤ 100000) (g : Nat → Value) (hO : One g) (W L : Int) (f : Int → Bool) (h6 : g 6 = .int .i64 W) (h11 : g 11 = .int .u8 L) (hW0 : -1 ≤ W) (hW1 : W ≤ 999)
    (hf : (L = 91 ∧ ∀ b : Nat, b < 256 → g (12 + b) = .bool (f b)) ∨ (L = 115 ∧ ∀ b, f b = !isWh b)) (p : Int) (h0 : 0 ≤ p) (h1 : p ≤ s.size) (w : World) :
    Calls Tryz.prog 39 #[.agg (gL g).toArray, .string s, .int .i64 p] w fun e w' => e = .returned (.int .i64 (rn f s (mst s W) p)) ∧ Chg (fun _ => False) w w' := by
  obtain ⟨E, hE⟩ : ∃ E, E = rn f s (mst s W) p := ⟨_, rfl⟩
  have HE := Lib.hid hE
  rw [← hE]
  clear hE
  go_enter Tryz.func39, Tryz.ntmps39
  go_wp2_with fail
  obtain ⟨W0, hW0'⟩ : ∃ W0, W0 = w.alloc (Obj.cells (gL g).toArray 72) := ⟨_, rfl⟩
  obtain ⟨C, hC⟩ : ∃ C, C = w.heap.size := ⟨_, rfl⟩
  have hF0 : FB W0 C g := by rw [hW0', hC]; exact World.alloc_heap_new w _
  have k0 : Chg (fun _ => False) w W0 := by rw [hW0']; exact (Chg.refl _ w).alloc _
  rw [← hW0', ← hC]
  clear hW0' hC
  obtain ⟨M, hM⟩ : ∃ M, M = mst s W := ⟨_, rfl⟩
  have hM1 : W < 0 → M = s.size := fun h => by rw [hM]; exact if_pos h
  have hM2 : ¬ W < 0 → (M : Int) = W := fun h => by rw [hM]; unfold mst; rw [if_neg h]; omega
  have HE2 := Lib.hid (show E = rn f s M p by rw [hM]; exact HE.out)
  have HM := Lib.hid (And.intro hM1 hM2)
  clear hM hM1 hM2
  have hcell : ∀ wr, FB wr C g → wr.cell? ⟨C, 6, none⟩ = some (.int .i64 W) ∧ wr.cell? ⟨C, 11, none⟩ = some (.int .u8 L) := fun wr h => ⟨by rw [h.c 6 (by decide), h6], by rw [h.c 11 (by decide), h11]⟩
  have HCELL := Lib.hid hcell
  have HFF := Lib.hid hf
  have hLL : L = 91 ∨ L = 115 := hf.elim (fun h => .inl h.1) (fun h => .inr h.1)
  clear hcell h6 h11 hf
  go_loopg [7] (s.size - p).toNat (fun gk v7 wr => ∃ (i : Int) (m : Nat), v7 = .int .i64 i ∧ (gk : Int) = s.size - i ∧ p ≤ i ∧ i ≤ s.size ∧ (m : Int) + i = M + p ∧ E = rn f s m i ∧ FB wr C g ∧ Chg (fun _ => False) w wr)
  case atStart => exact ⟨p, M, rfl, by omega, Int.le_refl _, h1, rfl, HE2.out, hF0, k0⟩
  case round =>
    obtain ⟨i, m, rfl, hgk, hi0, hi1, hm, hEi, hF, kR⟩ := hrel
    clear hF0 k0
    have ⟨c6, c11⟩ := HCELL.out wr hF
    have hMM := HM.out
    have HG := Lib.hid (And.intro hgk (And.intro hi0 (And.intro hi1 hm)))
    have hii : 0 ≤ i := by omega
    have p4 : (0 ≤ i) = True := eq_true hii
    have w1 : IntKind.i64.wrap (i + 1) = i + 1 := i64_small (by omega) (by omega)
    have w2 : IntKind.i64.wrap (p + W) = p + W := i64_small (by omega) (by omega)
    by_cases hlt : i < s.size
    · have q4 : (i < (s.size : Int)) = True := eq_true hlt
      have g1 : decide (i < (s.size : Int)) = true := by simpa using hlt
      have HLT := Lib.hid hlt
      by_cases hgo : W < 0 ∨ i < p + W
      · obtain ⟨m, rfl⟩ : ∃ m', m = m' + 1 := ⟨m - 1, by
          by_cases hw : W < 0
          · have := hMM.1 hw; omega
          · have := hMM.2 hw; omega⟩
        have hst : E = if f (bt s i) = true then rn f s m (i + 1) else i := by rw [hEi, rn]; simp only [hlt, true_and]
        have hgc : (decide (W < 0) = true) ∨ (decide (W < 0) = false ∧ decide (i < p + W) = true) := by
          by_cases hw : W < 0
          · exact .inl (decide_eq_true hw)
          · exact .inr ⟨decide_eq_false hw, decide_eq_true (hgo.resolve_left hw)⟩
        have hb := bt_at s i
        have hbr := bt_range s i
        have hf0 := HFF.out
        obtain ⟨x, hx⟩ : ∃ x, x = bt s i := ⟨_, rfl⟩
        obtain ⟨n, hn⟩ : ∃ n : Nat, x = n := ⟨x.toNat, by omega⟩
        rw [← hx] at hb hst hbr
        have HST := Lib.hid hst
        have hn256 : n < 256 := by omega
        have e1 : (0 ≤ x) = True := eq_true (by omega)
        have e2 : (x < 256) = True := eq_true (by omega)
        have e4 : x.toNat = n := by omega
        have hwc := fun W => white36 x (by omega) (by omega) W
        have HWC := Lib.hid hwc
        have hcn := hF.c (12 + n) (by omega)
        clear hgk hi0 hi1 hm hEi hgo hst hx hlt hMM hwc
        rcases hf0 with ⟨rfl, hfs⟩ | ⟨rfl, hfs⟩
        · rw [hfs n hn256, ← hn] at hcn
          obtain ⟨fx, hfx⟩ : ∃ fx, fx = f x := ⟨_, rfl⟩
          rw [← hfx] at hcn HST
          have HN := Lib.hid hn
          clear hfs hn hfx hLL
          rcases hgc with g3 | ⟨g3, g4⟩
          all_goals
            cases fx
            · have HEE := Lib.hid (show E = i by have := HST.out; rw [if_neg (by simp)] at this; exact this)
              go_wp2_with fail
              go_ret
              exact ⟨by rw [HEE.out]; rfl, kR⟩
            · have HEE := Lib.hid (show E = rn f s m (i + 1) by have := HST.out; rw [if_pos rfl] at this; exact this)
              go_wp2_with fail
              go_roundg (s.size - (i + 1)).toNat
              case measure => have := HG.out; have := HLT.out; omega
              case rel => have := HG.out; have := HLT.out; exact ⟨i + 1, m, rfl, by omega, by omega, by omega, by omega, HEE.out, hF, kR⟩
        · have hfx := hfs x
          obtain ⟨wx, hwx⟩ : ∃ wx, wx = isWh x := ⟨_, rfl⟩
          rw [← hwx] at hfx HWC
          rw [hfx] at HST
          clear hfs hn hfx hLL hwx hcn
          rcases hgc with g3 | ⟨g3, g4⟩
          all_goals
            cases wx
            · have HEE := Lib.hid (show E = rn f s m (i + 1) by have := HST.out; simpa using this)
              go_wp2_with fail
              refine (HWC.out _).mono ?_
              rintro e w2 ⟨rfl, k2⟩
              have hF2 := hF.chg k2 (fun h => h)
              go_wp2_with fail
              go_roundg (s.size - (i + 1)).toNat
              case measure => have := HG.out; have := HLT.out; omega
              case rel => have := HG.out; have := HLT.out; exact ⟨i + 1, m, rfl, by omega, by omega, by omega, by omega, HEE.out, hF2, kR.trans k2⟩
            · have hEE : E = i := by have := HST.out; rw [if_neg (by simp)] at this; exact this
              have HEE := Lib.hid hEE
              clear hEE
              go_wp2_with fail
              refine (HWC.out _).mono ?_
              rintro e w2 ⟨rfl, k2⟩
              go_wp2_with fail
              go_ret
              exact ⟨by rw [HEE.out]; rfl, kR.trans k2⟩
      · have hw : ¬ W < 0 := fun h => hgo (.inl h)
        have hle : ¬ i < p + W := fun h => hgo (.inr h)
        have hm0 : m = 0 := by have := hMM.2 hw; omega
        have HEE := Lib.hid (show E = i by rw [hEi, hm0]; rfl)
        have g3 : decide (W < 0) = false := decide_eq_false hw
        have g4 : decide (i < p + W) = false := decide_eq_false hle
        clear hgk hi0 hi1 hm hEi hgo hw hle hm0 hlt hMM hLL
        go_wp2_with fail
        go_ret
        exact ⟨by rw [HEE.out]; rfl, kR⟩
    · have q4 : (i < (s.size : Int)) = False := eq_false hlt
      have g1 : decide (i < (s.size : Int)) = false := by simpa using hlt
      have HEE := Lib.hid (show E = i by
        rw [hEi]
        cases m with
        | zero => rfl
        | succ m => rw [rn, if_neg (fun h => hlt h.1)])
      clear hgk hi0 hi1 hm hEi hlt hMM hLL
      go_wp2_with fail
      go_ret
      exact ⟨by rw [HEE.out]; rfl, kR⟩
end Go.Proofs.YtemogjpgkcbaiaaGreatDoor.Sp
end
section
namespace Go.Proofs.YtemogjpgkcbaiaaGreatDoor.Sp
open Go.RowKit Go.Proofs.YtemogjpgkcbaiaaGreatDoorW.PrintWords Go.Proofs.YtemogjpgkcbaiaaGreatDoorW.PrintLast Go.Proofs.YtemogjpgkcbaiaaGreatDoorW.PrintMore
set_option linter.unusedVariables false
set_option linter.unusedSimpArgs false
set_option maxRecDepth 100000
attribute [local go_sem] max2_int min2_int max_two min_two max_three min_three max_four min_four
def nmD (cv : Cv) (r : ByteArray) : ByteArray := if cv.letter = 88 then ⟨(Lib.toUpperA (Lib.trimPrefix r.data.toList [45])).toArray⟩ else ⟨(Lib.trimPrefix r.data.toList [45]).toArray⟩
def nmS (cv : Cv) (r : ByteArray) : ByteArray := if Lib.hasPrefix r.data.toList [45] = true then ⟨#[45]⟩ else if hasF cv.flags 43 = true then ⟨#[43]⟩ else if hasF cv.flags 32 = true then ⟨#[32]⟩ else ⟨#[]⟩
def nmS2 (cv : Cv) (r : ByteArray) : ByteArray := if hasF cv.flags 35 = true then nmS cv r ++ bsP cv.letter else nmS cv r
def nmZ (cv : Cv) (r : ByteArray) : ByteArray := rep 48 (max 0 (cv.prec - (nmD cv r).size)) ++ nmD cv r
def nmT (cv : Cv) (r : ByteArray) : ByteArray := spr cv (nmS2 cv r ++ nmZ cv r) (nmS2 cv r).size (hasF cv.flags 48 && decide (cv.prec < 0))
def nmbRes (cv : Cv) (x : ByteArray) : ByteArray × Int :=
  if (baRes x (bsN cv.letter).toNat).2 = 0 then (nmT cv (baRes x (bsN cv.letter).toNat).1, 0)
  else if (baRes x (bsN cv.letter).toNat).2 = 4 then (⟨#[]⟩, 4) else (⟨#[]⟩, 11)
theorem baRes_code (s : ByteArray) (b : Nat) : (baRes s b).2 = 0 ∨ (baRes s b).2 = 2 ∨ (baRes s b).2 = 4 := by
  unfold baRes
  split
  · exact .inr (.inl rfl)
  · split
    · exact .inl rfl
    · exact .inr (.inr rfl)
theorem bsN_range (c : Int) : 2 ≤ bsN c ∧ bsN c ≤ 16 := by unfold bsN; split <;> (try split) <;> (try split) <;> omega
theorem baRes_size (s : ByteArray) (b : Nat) (hb : 2 ≤ b) : (baRes s b).1.size ≤ 2011 := by
  unfold baRes
  split
  · decide
  · split
    · rename_i h
      have hv : ∀ V : Nat, fitsN V = true → (leN b V).length ≤ M2010 := fun V h => (leN_length hb M2010 V).2 (Nat.lt_of_lt_of_le (of_decide_eq_true h) (Nat.le_trans pow_600 (Nat.pow_le_pow_left hb _)))
      have h4 : M2010 = 2010 := rfl
      refine Nat.le_trans (ntx_size _ _ _) ?_
      have := hv _ h
      omega
    · decide
theorem ltr_lt (d : Nat) : 0 ≤ ltr d ∧ ltr d < 128 := by
  unfold ltr
  by_cases h : d < 36
  · have : ∀ n : Fin 36, 0 ≤ bt letB (n.val : Int) ∧ bt letB (n.val : Int) < 128 := by decide +kernel
    exact this ⟨d, h⟩
  · have : bt letB (d : Int) = 0 := by
      unfold bt
      rw [dif_neg (by rw [Int.toNat_natCast]; show ¬ d < 36; exact h)]
    omega
theorem dtx_ascii (b v : Nat) : ∀ c ∈ (dtx b v).data.toList, c.toNat < 128 := by
  intro c hc
  have : (dtx b v).data.toList = (((leN b v).map ltr).reverse).map (fun n => UInt8.ofNat n.toNat) := by simp [dtx, strOfNums]
  rw [this] at hc
  obtain ⟨n, hn, rfl⟩ := List.mem_map.1 hc
  rw [List.mem_reverse] at hn
  obtain ⟨d, _, rfl⟩ := List.mem_map.1 hn
  have := ltr_lt d
  show (UInt8.ofNat (ltr d).toNat).toNat < 128
  rw [UInt8.toNat_ofNat']
  omega
theorem ntx_ascii (neg : Bool) (b v : Nat) : ∀ c ∈ (ntx neg b v).data.toList, c.toNat < 128 := by
  unfold ntx
  split
  · intro c hc
    have : c = 48 := by simpa using hc
    subst this; decide
  · split
    · intro c hc
      rw [ByteArray.data_append, Array.toList_append] at hc
      rcases List.mem_append.1 hc with h | h
      · have : c = 45 := by simpa using h
        subst this; decide
      · exact dtx_ascii b v c h
    · exact dtx_ascii b v
theorem baRes_ascii (s : ByteArray) (b : Nat) : ∀ c ∈ (baRes s b).1.data.toList, c.toNat < 128 := by
  unfold baRes
  split
  · intro c hc; cases hc
  · split
    · exact ntx_ascii _ _ _
    · intro c hc; cases hc
theorem trimPrefix_mem {l p : List UInt8} {c : UInt8} (h : c ∈ Lib.trimPrefix l p) : c ∈ l := by
  unfold Lib.trimPrefix at h
  split at h
  · exact List.mem_of_mem_drop h
  · exact h
theorem toUpperA_len (l : List UInt8) : (Lib.toUpperA l).length = l.length := by simp [Lib.toUpperA]
def SC (b : Nat) (cv : Cv) (w' : World) : Prop := w'.cell? ⟨b, 0, none⟩ = some (.int .i64 cv.at_) ∧ w'.cell? ⟨b, 1, none⟩ = some (.string cv.text) ∧ w'.cell? ⟨b, 2, none⟩ = some (.int .i64 cv.place) ∧ w'.cell? ⟨b, 3, none⟩ = some (.string cv.flags) ∧ w'.cell? ⟨b, 4, none⟩ = some (.int .i64 cv.width) ∧ w'.cell? ⟨b, 5, none⟩ = some (.int .i64 cv.prec) ∧ w'.cell? ⟨b, 6, none⟩ = some (.bool cv.wide) ∧ w'.cell? ⟨b, 7, none⟩ = some (.bool cv.precise) ∧ w'.cell? ⟨b, 8, none⟩ = some (.int .u8 cv.letter) ∧ w'.cell? ⟨b, 9, none⟩ = some (.bool cv.quiet) ∧ w'.cell? ⟨b, 10, none⟩ = some (.string cv.set)
theorem CV.rangeN {w : World} {C : Nat} {c : Cv} (h : CV w C c) : w.rangeAt C 0 c.cells := fun j v hj => by
  rw [Nat.zero_add]
  unfold World.cell?
  have h2 : w.heap[C]? = some (.cells c.cells.toArray 51 (0, 0)) := h
  simp [h2, hj]
set_option maxHeartbeats 8000000 in
theorem cnumber_calls (cv : Cv) (hw : -1 ≤ cv.width) (hw2 : cv.width ≤ 999) (hp : -1 ≤ cv.prec) (hp2 : cv.prec ≤ 999) (s : ByteArray) (hs : s.size ≤ 100000) (w : World) :
    Calls Tryz.prog 43 #[.agg cv.cells.toArray, .string s] w fun e w' => e = .returned (.tuple #[.string (nmbRes cv s).1, .int .i64 (nmbRes cv s).2]) ∧ Chg (fun _ => False) w w' := by
  have hbr := bsN_range cv.letter
  obtain ⟨r, hr⟩ : ∃ r, r = baRes s (bsN cv.letter).toNat := ⟨_, rfl⟩
  have hcode := baRes_code s (bsN cv.letter).toNat
  have hsize := baRes_size s (bsN cv.letter).toNat (by omega)
  have hasc := baRes_ascii s (bsN cv.letter).toNat
  have hbase := fun W => Base_calls s hs (bsN cv.letter).toNat (by omega) (by omega) W
  rw [Int.toNat_of_nonneg (by omega)] at hbase
  have hres : nmbRes cv s = if r.2 = 0 then (nmT cv r.1, 0) else if r.2 = 4 then (⟨#[]⟩, 4) else (⟨#[]⟩, 11) := by unfold nmbRes; rw [← hr]
  rw [← hr] at hcode hsize hasc hbase
  obtain ⟨d, c⟩ := r
  simp only at hcode hsize hasc hbase hres
  have HBASE := Lib.hid hbase
  have HASC := Lib.hid hasc
  have HRES := Lib.hid hres
  clear hbase hasc hres hr
  go_enter Tryz.func43, Tryz.ntmps43
  simp only [Cv.cells]
  go_upto_region 1 with fail
  obtain ⟨W0, hW0⟩ : ∃ W0, W0 = w.alloc (Obj.cells cv.cells.toArray 51) := ⟨_, rfl⟩
  have hC0 : CV W0 w.heap.size cv := by rw [hW0]; exact World.alloc_heap_new w _
  have k0 : Chg (fun _ => False) w W0 := by rw [hW0]; exact (Chg.refl _ w).alloc _
  simp only [Cv.cells] at hW0
  rw [← hW0]
  clear hW0
  obtain ⟨b, hb0⟩ : ∃ b, b = w.heap.size := ⟨_, rfl⟩
  rw [← hb0] at hC0 ⊢
  clear hb0
  have c8 := hC0.c8
  go_wp2_with fail
  refine (base_calls _ _).mono ?_
  rintro e w1 ⟨rfl, ⟨n1, rfl⟩⟩
  have hC1 : CV (W0.drewN n1) b cv := hC0
  have k1 := k0.drewN n1
  clear hC0 k0 c8
  generalize W0.drewN n1 = W1 at *
  go_wp2_with fail
  refine (HBASE.out _).mono ?_
  rintro e w2 ⟨rfl, k2⟩
  have hC2 := hC1.chg k2 (fun h => h)
  have k02 := k1.trans k2
  clear hC1 k1 k2
  rcases hcode with rfl | rfl | rfl
  · have HV := Lib.hid (show nmbRes cv s = (nmT cv d, 0) by rw [HRES.out, if_pos rfl])
    have hcut : ∀ W, Calls Tryz.prog 79 #[.string d, .string ⟨#[45]⟩] W fun e w' => e = .returned (.tuple #[.string ⟨(Lib.trimPrefix d.data.toList [45]).toArray⟩, .bool (Lib.hasPrefix d.data.toList [45])]) ∧ w' = W := fun W => Tryz.strings_CutPrefix d ⟨#[45]⟩ W
    obtain ⟨bl, hbl⟩ : ∃ bl, bl = Lib.hasPrefix d.data.toList [45] := ⟨_, rfl⟩
    obtain ⟨tl, htl⟩ : ∃ tl, tl = Lib.trimPrefix d.data.toList [45] := ⟨_, rfl⟩
    rw [← hbl, ← htl] at hcut
    have HCUT := Lib.hid hcut
    have HBL := Lib.hid hbl
    have HTL := Lib.hid htl
    have htlen : tl.length ≤ 2011 := by
      rw [htl]
      have h1 := trimPrefix_len d.data.toList [45]
      have h2 : d.data.toList.length = d.size := Array.length_toList
      omega
    clear hcut hbl htl
    go_wp2_with fail
    refine (HCUT.out _).mono ?_
    rintro e w3 ⟨rfl, rfl⟩
    have c8 := hC2.c8
    obtain ⟨dd, hdd⟩ : ∃ dd, dd = nmD cv d := ⟨_, rfl⟩
    have HDD := Lib.hid hdd
    have hdsz : dd.size ≤ 2011 := by
      rw [hdd]; unfold nmD; rw [← HTL.out]
      split
      · rw [ba_size, toUpperA_len]; exact htlen
      · rw [ba_size]; exact htlen
    have hup : ∀ W, Calls Tryz.prog 80 #[.string ⟨tl.toArray⟩] W fun e w' => e = .returned (.string ⟨(Lib.toUpperA tl).toArray⟩) ∧ Below W.heap.size W w' := fun W =>
      Tryz.strings_ToUpper_ascii ⟨tl.toArray⟩ W (by rw [ba_size]; omega) (fun j c hj => HASC.out c (trimPrefix_mem (by rw [← HTL.out]; exact List.mem_of_getElem? hj)))
    have HUP := Lib.hid hup
    clear hdd hup hsize
    go_upto_if 37 with fail
    go_cut [8] (fun v8 wx => v8 = .string dd ∧ CV wx b cv ∧ Chg (fun _ => False) w wx)
    case first =>
      by_cases hl : cv.letter = 88
      · have g1 : (cv.letter == 88) = true := by rw [hl]; rfl
        have HE := Lib.hid (show dd = ⟨(Lib.toUpperA tl).toArray⟩ by rw [HDD.out]; unfold nmD; rw [if_pos hl, ← HTL.out])
        clear hl
        simp only [g1]
        go_wp2_with fail
        refine (HUP.out _).mono ?_
        rintro e w4 ⟨rfl, hb4⟩
        go_wp2_with fail
        go_meet
        exact ⟨by rw [HE.out], hC2.chg (Chg.of_below hb4 (S := fun _ => False)) (fun h => h), k02.trans (Chg.of_below hb4)⟩
      · have g1 : (cv.letter == 88) = false := by simpa using hl
        have HE := Lib.hid (show dd = ⟨tl.toArray⟩ by rw [HDD.out]; unfold nmD; rw [if_neg hl, ← HTL.out])
        clear hl
        simp only [g1]
        go_wp2_with fail
        go_meet
        exact ⟨by rw [HE.out], hC2, k02⟩
    case rest =>
      obtain ⟨rfl, hC4, k4⟩ := hcut
      clear hC2 k02 c8
      obtain ⟨sg, hsg⟩ : ∃ sg, sg = nmS cv d := ⟨_, rfl⟩
      have HSG := Lib.hid hsg
      have hsgs : sg.size ≤ 1 := by rw [hsg]; unfold nmS; split; decide; split; decide; split <;> decide
      have hh43 := fun W => has_calls cv 43 W
      have hh32 := fun W => has_calls cv 32 W
      have hh35 := fun W => has_calls cv 35 W
      have hh48 := fun W => has_calls cv 48 W
      simp only [Cv.cells] at hh43 hh32 hh35 hh48
      have H43 := Lib.hid hh43
      have H32 := Lib.hid hh32
      have H35 := Lib.hid hh35
      have H48 := Lib.hid hh48
      clear hsg hh43 hh32 hh35 hh48
      go_upto_block 1 with fail
      go_cut [11] (fun v11 wx => v11 = .string sg ∧ CV wx b cv ∧ Chg (fun _ => False) w wx)
      case first =>
        cases bl
        · have c0 := hC4.c0
          have c1 := hC4.c1
          have c2 := hC4.c2
          have c3 := hC4.c3
          have c4 := hC4.c4
          have c5 := hC4.c5
          have c6 := hC4.c6
          have c7 := hC4.c7
          have c8 := hC4.c8
          have c9 := hC4.c9
          have c10 := hC4.c10
          go_wp2_with fail
          refine (H43.out _).mono ?_
          rintro e w5 ⟨rfl, k5⟩
          have hC5 := hC4.chg k5 (fun h => h)
          have k45 := k4.trans k5
          clear hC4 k4 k5 c0 c1 c2 c3 c4 c5 c6 c7 c8 c9 c10
          have hnb : ¬ Lib.hasPrefix d.data.toList [45] = true := by rw [← HBL.out]; simp
          have HNB := Lib.hid hnb
          clear hnb
          cases h43 : hasF cv.flags 43
          · have H43' := Lib.hid h43
            clear h43
            have c0 := hC5.c0
            have c1 := hC5.c1
            have c2 := hC5.c2
            have c3 := hC5.c3
            have c4 := hC5.c4
            have c5 := hC5.c5
            have c6 := hC5.c6
            have c7 := hC5.c7
            have c8 := hC5.c8
            have c9 := hC5.c9
            have c10 := hC5.c10
            go_wp2_with fail
            refine (H32.out _).mono ?_
            rintro e w6 ⟨rfl, k6⟩
            have hC6 := hC5.chg k6 (fun h => h)
            have k56 := k45.trans k6
            clear hC5 k45 k6 c0 c1 c2 c3 c4 c5 c6 c7 c8 c9 c10
            cases h32 : hasF cv.flags 32
            · have H32' := Lib.hid h32
              clear h32
              go_wp2_with fail
              go_meet
              exact ⟨by rw [HSG.out]; unfold nmS; rw [if_neg HNB.out, if_neg (by rw [H43'.out]; simp), if_neg (by rw [H32'.out]; simp)], hC6, k56⟩
            · have H32' := Lib.hid h32
              clear h32
              go_wp2_with fail
              go_meet
              exact ⟨by rw [HSG.out]; unfold nmS; rw [if_neg HNB.out, if_neg (by rw [H43'.out]; simp), if_pos H32'.out], hC6, k56⟩
          · have H43' := Lib.hid h43
            clear h43
            go_wp2_with fail
            go_meet
            exact ⟨by rw [HSG.out]; unfold nmS; rw [if_neg HNB.out, if_pos H43'.out], hC5, k45⟩
        · go_wp2_with fail
          go_meet
          exact ⟨by rw [HSG.out]; unfold nmS; rw [if_pos HBL.out.symm], hC4, k4⟩
      case rest =>
        obtain ⟨rfl, hC7, k7⟩ := hcut
        clear hC4 k4
        have c0 := hC7.c0
        have c1 := hC7.c1
        have c2 := hC7.c2
        have c3 := hC7.c3
        have c4 := hC7.c4
        have c5 := hC7.c5
        have c6 := hC7.c6
        have c7 := hC7.c7
        have c8 := hC7.c8
        have c9 := hC7.c9
        have c10 := hC7.c10
        go_wp2_with fail
        refine (H35.out _).mono ?_
        rintro e w8 ⟨rfl, k8⟩
        have hC8 := hC7.chg k8 (fun h => h)
        have k78 := k7.trans k8
        clear hC7 k7 k8 c0 c1 c2 c3 c4 c5 c6 c7 c8 c9 c10
        obtain ⟨s2, hs2⟩ : ∃ s2, s2 = nmS2 cv d := ⟨_, rfl⟩
        have HS2 := Lib.hid hs2
        have hbps : (bsP cv.letter).size ≤ 2 := by unfold bsP; split; decide; split; decide; split; decide; split <;> decide
        have hs2s : s2.size ≤ 3 := by
          rw [hs2]; unfold nmS2; rw [← HSG.out]; split
          · rw [ByteArray.size_append]; omega
          · omega
        clear hs2
        go_upto_if 49 with fail
        go_cut [11] (fun v11 wx => v11 = .string s2 ∧ wx = w8)
        case first =>
          cases h35 : hasF cv.flags 35
          · have HE := Lib.hid (show s2 = sg by rw [HS2.out]; unfold nmS2; rw [if_neg (by rw [h35]; simp), ← HSG.out])
            clear h35
            go_wp2_with fail
            go_meet
            exact ⟨by rw [HE.out], rfl⟩
          · have HE := Lib.hid (show s2 = sg ++ bsP cv.letter by rw [HS2.out]; unfold nmS2; rw [if_pos h35, ← HSG.out])
            have hz : sg.size + (bsP cv.letter).size ≤ 9223372036854775807 := by omega
            clear h35
            go_wp2_with fail
            go_meet
            exact ⟨by rw [HE.out], rfl⟩
        case rest =>
          obtain ⟨rfl, rfl⟩ := hcut
          obtain ⟨z, hz⟩ : ∃ z, z = nmZ cv d := ⟨_, rfl⟩
          have hze : z = rep 48 (max 0 (cv.prec - dd.size)) ++ dd := by rw [hz]; unfold nmZ; rw [← HDD.out]
          have hzs : z.size ≤ 4000 := by rw [hze, ByteArray.size_append, rep_size]; omega
          have HZ := Lib.hid hz
          have HZE := Lib.hid hze
          clear hz hze
          go_upto_region 20 with fail
          go_cut [8] (fun v8 wx => v8 = .string z ∧ CV wx b cv ∧ Chg (fun _ => False) w wx)
          case first =>
            have c5 := hC8.c5
            have hwr : IntKind.i64.wrap (cv.prec - dd.size) = cv.prec - dd.size := i64_small (by omega) (by omega)
            by_cases hpd : cv.prec - dd.size ≤ 0
            · have HE := Lib.hid (show z = rep 48 0 ++ dd by rw [HZE.out, show max 0 (cv.prec - (dd.size : Int)) = 0 from by omega])
              have hsz : (rep 48 0).size + dd.size ≤ 9223372036854775807 := by rw [rep_size]; omega
              go_wp2_with fail
              refine (rep_calls 48 0 (by omega) (by omega) _).mono ?_
              rintro e w9 ⟨rfl, hb9⟩
              go_wp2_with fail
              go_meet
              exact ⟨by rw [HE.out], hC8.chg (Chg.of_below hb9 (S := fun _ => False)) (fun h => h), k78.trans (Chg.of_below hb9)⟩
            · have HE := Lib.hid (show z = rep 48 (cv.prec - dd.size) ++ dd by rw [HZE.out, show max 0 (cv.prec - (dd.size : Int)) = cv.prec - dd.size from by omega])
              have hsz : (rep 48 (cv.prec - dd.size)).size + dd.size ≤ 9223372036854775807 := by rw [rep_size]; omega
              go_wp2_with fail
              refine (rep_calls 48 (cv.prec - dd.size) (by omega) (by omega) _).mono ?_
              rintro e w9 ⟨rfl, hb9⟩
              go_wp2_with fail
              go_meet
              exact ⟨by rw [HE.out], hC8.chg (Chg.of_below hb9 (S := fun _ => False)) (fun h => h), k78.trans (Chg.of_below hb9)⟩
          case rest =>
            obtain ⟨rfl, hC9, k9⟩ := hcut
            have c0 := hC9.c0
            have c1 := hC9.c1
            have c2 := hC9.c2
            have c3 := hC9.c3
            have c4 := hC9.c4
            have c5 := hC9.c5
            have c6 := hC9.c6
            have c7 := hC9.c7
            have c8 := hC9.c8
            have c9 := hC9.c9
            have c10 := hC9.c10
            have hsz : s2.size + z.size ≤ 9223372036854775807 := by omega
            have hres : ∀ zr, zr = (hasF cv.flags 48 && decide (cv.prec < 0)) → nmbRes cv s = (spr cv (s2 ++ z) s2.size zr, 0) := by
              intro zr hzr
              rw [HV.out]
              unfold nmT
              rw [← HS2.out, ← HZ.out, hzr]
            have HRS := Lib.hid hres
            have hsp : ∀ zr W, Calls Tryz.prog 83 #[.agg cv.cells.toArray, .string (s2 ++ z), .int .i64 s2.size, .bool zr] W fun e w' => e = .returned (.string (spr cv (s2 ++ z) s2.size zr)) ∧ Chg (fun _ => False) W w' := fun zr W =>
              spread_calls cv (s2 ++ z) s2.size zr (by rw [ByteArray.size_append]; omega) hw hw2 (by omega) (by rw [ByteArray.size_append]; omega) W
            simp only [Cv.cells] at hsp
            have h48 := H48.out
            have hszF : (9223372036854775807 < s2.size + z.size) = False := by simp; omega
            clear hres HBASE HASC HRES HCUT HBL HTL HUP HDD HSG H43 H32 H35 H48 HS2 hbps hs2s HZ HZE hzs HV hbr hs hdsz htlen hsgs hw hw2 hp hp2
            by_cases hf : hasF cv.flags 48 = true
            · rw [hf] at h48
              have H48' := Lib.hid h48
              by_cases hpr : cv.prec < 0
              · have g1 : decide (cv.prec < 0) = true := by simpa using hpr
                have hsp1 := hsp true
                have HSP := Lib.hid hsp1
                have HE := Lib.hid (HRS.out true (by rw [hf, g1]; rfl))
                clear hf hpr hsp hsp1 h48 HRS
                go_wp2_with fail
                first | go_region_held3 (fun w' => w'.cell? ⟨b, 0, none⟩ = some (.int .i64 cv.at_) ∧ w'.cell? ⟨b, 1, none⟩ = some (.string cv.text) ∧ w'.cell? ⟨b, 2, none⟩ = some (.int .i64 cv.place) ∧ w'.cell? ⟨b, 3, none⟩ = some (.string cv.flags) ∧ w'.cell? ⟨b, 4, none⟩ = some (.int .i64 cv.width) ∧ w'.cell? ⟨b, 5, none⟩ = some (.int .i64 cv.prec) ∧ w'.cell? ⟨b, 6, none⟩ = some (.bool cv.wide) ∧ w'.cell? ⟨b, 7, none⟩ = some (.bool cv.precise) ∧ w'.cell? ⟨b, 8, none⟩ = some (.int .u8 cv.letter) ∧ w'.cell? ⟨b, 9, none⟩ = some (.bool cv.quiet) ∧ w'.cell? ⟨b, 10, none⟩ = some (.string cv.set)) (first | exact ⟨e0, e1, e2, e3, e4, e5, e6, e7, e8, e9, e10⟩ | exact ⟨c0, c1, c2, c3, c4, c5, c6, c7, c8, c9, c10⟩ | go_keep) (first | (go_at_call 81; refine (H48'.out _).mono ?_; rintro e w10 ⟨rfl, k10⟩; have hC10 := CV.chg (w := wc.drew) hC9 k10 (fun h => h); have e0 := hC10.c0; have e1 := hC10.c1; have e2 := hC10.c2; have e3 := hC10.c3; have e4 := hC10.c4; have e5 := hC10.c5; have e6 := hC10.c6; have e7 := hC10.c7; have e8 := hC10.c8; have e9 := hC10.c9; have e10 := hC10.c10) | (go_at_call 83; refine (HSP.out _).mono ?_; rintro e w11 ⟨rfl, k11⟩; have hC11 := CV.chg hC10 k11 (fun h => h); clear e0 e1 e2 e3 e4 e5 e6 e7 e8 e9 e10; have e0 := hC11.c0; have e1 := hC11.c1; have e2 := hC11.c2; have e3 := hC11.c3; have e4 := hC11.c4; have e5 := hC11.c5; have e6 := hC11.c6; have e7 := hC11.c7; have e8 := hC11.c8; have e9 := hC11.c9; have e10 := hC11.c10)) | fail
                go_wp2_with fail
                go_ret2
                exact ⟨by rw [HE.out]; rfl, (k9.drew.trans k10).trans k11⟩
              · have g1 : decide (cv.prec < 0) = false := by simpa using hpr
                have hsp1 := hsp false
                have HSP := Lib.hid hsp1
                have HE := Lib.hid (HRS.out false (by rw [hf, g1]; rfl))
                clear hf hpr hsp hsp1 h48 HRS
                go_wp2_with fail
                first | go_region_held3 (fun w' => w'.cell? ⟨b, 0, none⟩ = some (.int .i64 cv.at_) ∧ w'.cell? ⟨b, 1, none⟩ = some (.string cv.text) ∧ w'.cell? ⟨b, 2, none⟩ = some (.int .i64 cv.place) ∧ w'.cell? ⟨b, 3, none⟩ = some (.string cv.flags) ∧ w'.cell? ⟨b, 4, none⟩ = some (.int .i64 cv.width) ∧ w'.cell? ⟨b, 5, none⟩ = some (.int .i64 cv.prec) ∧ w'.cell? ⟨b, 6, none⟩ = some (.bool cv.wide) ∧ w'.cell? ⟨b, 7, none⟩ = some (.bool cv.precise) ∧ w'.cell? ⟨b, 8, none⟩ = some (.int .u8 cv.letter) ∧ w'.cell? ⟨b, 9, none⟩ = some (.bool cv.quiet) ∧ w'.cell? ⟨b, 10, none⟩ = some (.string cv.set)) (first | exact ⟨e0, e1, e2, e3, e4, e5, e6, e7, e8, e9, e10⟩ | exact ⟨c0, c1, c2, c3, c4, c5, c6, c7, c8, c9, c10⟩ | go_keep) (first | (go_at_call 81; refine (H48'.out _).mono ?_; rintro e w10 ⟨rfl, k10⟩; have hC10 := CV.chg (w := wc.drew) hC9 k10 (fun h => h); have e0 := hC10.c0; have e1 := hC10.c1; have e2 := hC10.c2; have e3 := hC10.c3; have e4 := hC10.c4; have e5 := hC10.c5; have e6 := hC10.c6; have e7 := hC10.c7; have e8 := hC10.c8; have e9 := hC10.c9; have e10 := hC10.c10) | (go_at_call 83; refine (HSP.out _).mono ?_; rintro e w11 ⟨rfl, k11⟩; have hC11 := CV.chg hC10 k11 (fun h => h); clear e0 e1 e2 e3 e4 e5 e6 e7 e8 e9 e10; have e0 := hC11.c0; have e1 := hC11.c1; have e2 := hC11.c2; have e3 := hC11.c3; have e4 := hC11.c4; have e5 := hC11.c5; have e6 := hC11.c6; have e7 := hC11.c7; have e8 := hC11.c8; have e9 := hC11.c9; have e10 := hC11.c10)) | fail
                go_wp2_with fail
                go_ret2
                exact ⟨by rw [HE.out]; rfl, (k9.drew.trans k10).trans k11⟩
            · have hf' : hasF cv.flags 48 = false := by simpa using hf
              rw [hf'] at h48
              have H48' := Lib.hid h48
              have hsp1 := hsp false
              have HSP := Lib.hid hsp1
              have HE := Lib.hid (HRS.out false (by rw [hf']; rfl))
              clear hf hf' hsp hsp1 h48 HRS
              go_wp2_with fail
              refine wp_region_held_drew (S := SC b cv) (by kernel_rfl) ⟨c0, c1, c2, c3, c4, c5, c6, c7, c8, c9, c10⟩ (fun hS => ?_)
              refine wpAnyH_take (i := 0) (v := .agg #[.int .i64 cv.at_, .string cv.text, .int .i64 cv.place, .string cv.flags, .int .i64 cv.width, .int .i64 cv.prec, .bool cv.wide, .bool cv.precise, .int .u8 cv.letter, .bool cv.quiet, .string cv.set]) rfl (by kernel_rfl) (by kernel_rfl) (by kernel_rfl) (fun _ _ _ h => h) (Or.inl ⟨by rfl, by intro w hSw; (try unfold SC at hSw); go_simp⟩) (by assumption) ?_
              simp only [Act.put, List.setIfInBounds_toArray, List.set_cons_succ, List.set_cons_zero, List.getElem_toArray, List.getElem_cons_succ, List.getElem_cons_zero]
              refine wpAnyH_take (i := 1) (v := .string s2) rfl (by kernel_rfl) (by kernel_rfl) (by kernel_rfl) (fun _ _ _ h => h) (Or.inl ⟨by rfl, by intro w hSw; (try unfold SC at hSw); go_simp⟩) (by assumption) ?_
              simp only [Act.put, List.setIfInBounds_toArray, List.set_cons_succ, List.set_cons_zero, List.getElem_toArray, List.getElem_cons_succ, List.getElem_cons_zero]
              refine wpAnyH_take (i := 2) (v := .string z) rfl (by kernel_rfl) (by kernel_rfl) (by kernel_rfl) (fun _ _ _ h => h) (Or.inl ⟨by rfl, by intro w hSw; (try unfold SC at hSw); go_simp⟩) (by assumption) ?_
              simp only [Act.put, List.setIfInBounds_toArray, List.set_cons_succ, List.set_cons_zero, List.getElem_toArray, List.getElem_cons_succ, List.getElem_cons_zero]
              refine wpAnyH_take (i := 3) (v := .string (s2 ++ z)) rfl (by kernel_rfl) (by kernel_rfl) (by kernel_rfl) (fun _ _ _ h => h) (Or.inl ⟨by rfl, by intro w hSw; (try unfold SC at hSw); go_simp⟩) (by assumption) ?_
              simp only [Act.put, List.setIfInBounds_toArray, List.set_cons_succ, List.set_cons_zero, List.getElem_toArray, List.getElem_cons_succ, List.getElem_cons_zero]
              refine wpAnyH_take (i := 4) (v := .string s2) rfl (by kernel_rfl) (by kernel_rfl) (by kernel_rfl) (fun _ _ _ h => h) (Or.inl ⟨by rfl, by intro w hSw; (try unfold SC at hSw); go_simp⟩) (by assumption) ?_
              simp only [Act.put, List.setIfInBounds_toArray, List.set_cons_succ, List.set_cons_zero, List.getElem_toArray, List.getElem_cons_succ, List.getElem_cons_zero]
              refine wpAnyH_take (i := 5) (v := .int .i64 s2.size) rfl (by kernel_rfl) (by kernel_rfl) (by kernel_rfl) (fun _ _ _ h => h) (Or.inl ⟨by rfl, by intro w hSw; (try unfold SC at hSw); go_simp⟩) (by assumption) ?_
              simp only [Act.put, List.setIfInBounds_toArray, List.set_cons_succ, List.set_cons_zero, List.getElem_toArray, List.getElem_cons_succ, List.getElem_cons_zero]
              refine wpAnyH_take (i := 6) (v := .agg #[.int .i64 cv.at_, .string cv.text, .int .i64 cv.place, .string cv.flags, .int .i64 cv.width, .int .i64 cv.prec, .bool cv.wide, .bool cv.precise, .int .u8 cv.letter, .bool cv.quiet, .string cv.set]) rfl (by kernel_rfl) (by kernel_rfl) (by kernel_rfl) (fun _ _ _ h => h) (Or.inl ⟨by rfl, by intro w hSw; (try unfold SC at hSw); go_simp⟩) (by assumption) ?_
              simp only [Act.put, List.setIfInBounds_toArray, List.set_cons_succ, List.set_cons_zero, List.getElem_toArray, List.getElem_cons_succ, List.getElem_cons_zero]
              refine wpAnyH_ready (rs := [7]) (by kernel_rfl) (by simp) ?_
              refine AllReadyH.cons rfl (fun K' hK => ?_) AllReadyH.nil
              go_simp
              go_at_call 81
              refine (H48'.out _).mono ?_
              rintro e w10 ⟨rfl, k10⟩
              have hC10 := CV.chg (w := wc.drew) hC9 k10 (fun h => h)
              refine hK.out _ _ ⟨hC10.c0, hC10.c1, hC10.c2, hC10.c3, hC10.c4, hC10.c5, hC10.c6, hC10.c7, hC10.c8, hC10.c9, hC10.c10⟩ (fun hS2 => ?_)
              clear hK hS
              refine wpAnyH_take (i := 8) (v := .bool false) rfl (by kernel_rfl) (by kernel_rfl) (by kernel_rfl) (fun _ _ _ h => h) (Or.inl ⟨by rfl, by intro w hSw; go_simp⟩) (by assumption) ?_
              simp only [Act.put, List.setIfInBounds_toArray, List.set_cons_succ, List.set_cons_zero, List.getElem_toArray, List.getElem_cons_succ, List.getElem_cons_zero]
              refine wpAnyH_take (i := 9) (v := undef) rfl (by kernel_rfl) (by kernel_rfl) (by kernel_rfl) (fun _ _ _ h => h) (Or.inr ⟨by simp [Region.wanted, yielded], rfl⟩) (by assumption) ?_
              simp only [Act.put, List.setIfInBounds_toArray, List.set_cons_succ, List.set_cons_zero, List.getElem_toArray, List.getElem_cons_succ, List.getElem_cons_zero]
              refine wpAnyH_take (i := 10) (v := undef) rfl (by kernel_rfl) (by kernel_rfl) (by kernel_rfl) (fun _ _ _ h => h) (Or.inr ⟨by simp [Region.wanted, yielded], rfl⟩) (by assumption) ?_
              simp only [Act.put, List.setIfInBounds_toArray, List.set_cons_succ, List.set_cons_zero, List.getElem_toArray, List.getElem_cons_succ, List.getElem_cons_zero]
              refine wpAnyH_take (i := 11) (v := undef) rfl (by kernel_rfl) (by kernel_rfl) (by kernel_rfl) (fun _ _ _ h => h) (Or.inr ⟨by simp [Region.wanted, yielded], rfl⟩) (by assumption) ?_
              simp only [Act.put, List.setIfInBounds_toArray, List.set_cons_succ, List.set_cons_zero, List.getElem_toArray, List.getElem_cons_succ, List.getElem_cons_zero]
              refine wpAnyH_take (i := 12) (v := .bool false) rfl (by kernel_rfl) (by kernel_rfl) (by kernel_rfl) (fun _ _ _ h => h) (Or.inl ⟨by rfl, by intro w hSw; go_simp⟩) (by assumption) ?_
              simp only [Act.put, List.setIfInBounds_toArray, List.set_cons_succ, List.set_cons_zero, List.getElem_toArray, List.getElem_cons_succ, List.getElem_cons_zero]
              refine wpAnyH_ready (rs := [13]) (by kernel_rfl) (by simp) ?_
              refine AllReadyH.cons rfl (fun K' hK => ?_) AllReadyH.nil
              go_simp
              go_at_call 83
              refine (HSP.out _).mono ?_
              rintro e w11 ⟨rfl, k11⟩
              have hC11 := CV.chg hC10 k11 (fun h => h)
              refine hK.out _ _ ⟨hC11.c0, hC11.c1, hC11.c2, hC11.c3, hC11.c4, hC11.c5, hC11.c6, hC11.c7, hC11.c8, hC11.c9, hC11.c10⟩ (fun hS3 => ?_)
              clear hK hS2
              refine wpAnyH_take (i := 14) (v := .string (spr cv (s2 ++ z) (s2.size : Int) false)) rfl (by kernel_rfl) (by kernel_rfl) (by kernel_rfl) (fun _ _ _ h => h) (Or.inl ⟨by rfl, by intro w hSw; go_simp⟩) (by assumption) ?_
              simp only [Act.put, List.setIfInBounds_toArray, List.set_cons_succ, List.set_cons_zero, List.getElem_toArray, List.getElem_cons_succ, List.getElem_cons_zero]
              refine wpAnyH_take (i := 15) (v := .int .i64 0) rfl (by kernel_rfl) (by kernel_rfl) (by kernel_rfl) (fun _ _ _ h => h) (Or.inl ⟨by rfl, by intro w hSw; go_simp⟩) (by assumption) ?_
              simp only [Act.put, List.setIfInBounds_toArray, List.set_cons_succ, List.set_cons_zero, List.getElem_toArray, List.getElem_cons_succ, List.getElem_cons_zero]
              refine wpAnyH_done (by kernel_rfl) ?_ _
              go_wp2_with fail
              go_ret2
              exact ⟨by rw [HE.out]; rfl, (k9.drew.trans k10).trans k11⟩
  · have HV := Lib.hid (show nmbRes cv s = (⟨#[]⟩, 11) by rw [HRES.out, if_neg (by decide), if_neg (by decide)])
    go_wp2
    go_ret2
    exact ⟨by rw [HV.out]; rfl, k02⟩
  · have HV := Lib.hid (show nmbRes cv s = (⟨#[]⟩, 4) by rw [HRES.out, if_neg (by decide), if_pos rfl])
    go_wp2
    go_ret2
    exact ⟨by rw [HV.out]; rfl, k02⟩
end Go.Proofs.YtemogjpgkcbaiaaGreatDoor.Sp
end
