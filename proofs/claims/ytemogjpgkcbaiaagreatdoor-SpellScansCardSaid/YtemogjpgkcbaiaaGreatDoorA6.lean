/- Part 6 of 11 of the proof of SpellScans: contracts of functions that its law calls; no condition. -/
import Derived.Test.YtemogjpgkcbaiaaGreatDoorA5
import Derived.BigRegionIn
import Derived.ChangeAlike
import Derived.Deep.Draws
import Derived.Defers
import Derived.Laws.Pointers
import Derived.LoopIn
import Derived.OrdersIn
import Derived.OwnWalkIn
import Derived.RangeFuncFrom
import Derived.RangeFuncLeaves
import Derived.Recover
import Derived.RecoverIn
import Derived.RegionTactic
import Derived.StillTail
import Derived.Tactics
import Derived.Tactics2
import Derived.TacticsIn
import Derived.TacticsInMore
import Derived.WalkKit
import Derived.WalkLawsBesides
section
namespace Go.Proofs.YtemogjpgkcbaiaaGreatDoor.Sp
open Go.RowKit Go.Proofs.YtemogjpgkcbaiaaGreatDoorW.PrintWords Go.Proofs.YtemogjpgkcbaiaaGreatDoorW.PrintLast Go.Proofs.YtemogjpgkcbaiaaGreatDoorW.PrintMore
set_option linter.unusedVariables false
set_option linter.unusedSimpArgs false
def skp (s : ByteArray) (p c : Int) : Int := if tk s p c then p + 1 else p
def byB (s : ByteArray) (p : Int) : Int := skp s (skp s p 94) 93
def byE (s : ByteArray) (p : Int) : Int := ix (s.extract (byB s p).toNat s.size).data.toList 93
theorem skp_pos {s : ByteArray} {p c : Int} : p ≤ skp s p c ∧ skp s p c ≤ p + 1 ∧ (p ≤ s.size → skp s p c ≤ s.size) := by
  unfold skp
  by_cases h : tk s p c = true
  · have := tk_lt h
    rw [if_pos h]; exact ⟨by omega, by omega, fun _ => by omega⟩
  · rw [if_neg h]; exact ⟨by omega, by omega, fun h => h⟩
theorem indexByte_spec (c : UInt8) : ∀ l : List UInt8, (Lib.indexByte l c = -1 ∧ c ∉ l) ∨ ∃ k : Nat, Lib.indexByte l c = k ∧ k < l.length ∧ l[k]? = some c ∧ ∀ j, j < k → l[j]? ≠ some c
  | [] => .inl ⟨rfl, by simp⟩
  | b :: l => by
    by_cases h : b = c
    · refine .inr ⟨0, by simp [Lib.indexByte, h], by simp, by simp [h], fun j hj => by omega⟩
    · rcases indexByte_spec c l with ⟨h1, h2⟩ | ⟨k, h1, h2, h3, h4⟩
      · refine .inl ⟨by simp [Lib.indexByte, h, h1], by simp [h2]; exact fun e => h e.symm⟩
      · refine .inr ⟨k + 1, ?_, by simp; omega, by simp [h3], fun j hj => ?_⟩
        · have : ¬ ((k : Int) = -1) := by omega
          simp [Lib.indexByte, h, h1, this]
        · cases j with
          | zero => simp [h]
          | succ j => simpa using h4 j (by omega)
theorem ix_lt (l : List UInt8) (c : Int) : ix l c < l.length ∨ ix l c < 0 := by
  unfold ix
  rcases indexByte_spec c.toNat.toUInt8 l with ⟨h1, _⟩ | ⟨k, h1, h2, _⟩
  · right; omega
  · left; omega
theorem skip_calls (w : World) (R : Nat) (s : ByteArray) (p c : Int) (h : RD w R s p) (h0 : 0 ≤ p) (hs : s.size ≤ 100000) :
    Calls Tryz.prog 87 #[.pointer (some ⟨R, 0, none⟩), .int .u8 c] w fun e w' => e = .returned (.bool (tk s p c)) ∧ RD w' R s (skp s p c) ∧ Chg (fun k => k = R) w w' := by
  refine (take_calls w R s p c h h0).mono ?_
  rintro e w' ⟨rfl, hR, hk⟩
  refine ⟨rfl, ?_, hk⟩
  unfold skp
  by_cases h : tk s p c = true
  · have := tk_lt h
    rw [if_pos h] at hR ⊢
    rwa [wrap_small (by omega) (by omega)] at hR
  · rw [if_neg h] at hR ⊢; exact hR
set_option maxHeartbeats 2000000 in
set_option maxRecDepth 100000 in
theorem bytes_calls (w : World) (R C : Nat) (hRC : R ≠ C) (s : ByteArray) (p : Int) (c : Cv) (hs : s.size ≤ 100000) (h0 : 0 ≤ p) (h1 : p ≤ s.size) (hR : RD w R s p) (hC : CV w C c) :
   Calls Tryz.prog 91 #[.pointer (some ⟨R, 0, none⟩), .pointer (some ⟨C, 0, none⟩)] w fun e w' => e = .returned (.bool (decide (0 ≤ byE s p))) ∧ Chg (S2 R C) w w' ∧ (0 ≤ byE s p → RD w' R s (byB s p + byE s p + 1) ∧ CV w' C { c with set := cut s p (byB s p + byE s p) }) := by
  have hCR : C ≠ R := hRC.symm
  have hSR : ∀ k, k = R → S2 R C k := fun k h => .inl h
  have r1 := hR.c1
  go_enter Tryz.func91, Tryz.ntmps91
  go_wp2_with fail
  refine (skip_calls _ R s p 94 hR h0 hs).mono ?_
  rintro e w1 ⟨rfl, hR1, hk1⟩
  go_wp2_with fail
  refine (skip_calls _ R s _ 93 hR1 (by have := skp_pos (s := s) (p := p) (c := 94); omega) hs).mono ?_
  rintro e w2 ⟨rfl, hR2, hk2⟩
  have hC2 := (hC.chg hk1 (fun e => hRC e.symm)).chg hk2 (fun e => hRC e.symm)
  have K2 : Chg (S2 R C) w w2 := (hk1.trans hk2).mono hSR
  have hb : p ≤ byB s p ∧ byB s p ≤ s.size := by
    have a := skp_pos (s := s) (p := p) (c := 94)
    have b := skp_pos (s := s) (p := skp s p 94) (c := 93)
    unfold byB
    exact ⟨by omega, b.2.2 (a.2.2 h1)⟩
  rw [show skp s (skp s p 94) 93 = byB s p from rfl] at hR2
  have hle : byE s p < ((s.extract (byB s p).toNat s.size).data.toList.length : Int) ∨ byE s p < 0 := ix_lt (s.extract (byB s p).toNat s.size).data.toList 93
  rw [show (s.extract (byB s p).toNat s.size).data.toList.length = s.size - (byB s p).toNat from by simp] at hle
  obtain ⟨q, hq⟩ : ∃ q, byB s p = q := ⟨_, rfl⟩
  obtain ⟨E, hE⟩ : ∃ E, byE s p = E := ⟨_, rfl⟩
  have HE := Lib.hid (show E = ix (s.extract q.toNat s.size).data.toList 93 from by rw [← hE, ← hq]; rfl)
  have HQ := Lib.hid hq
  have HEE := Lib.hid hE
  rw [hq] at hR2 hb hle
  rw [hE] at hle
  clear hk1 hk2 r1 hR1 hq hE
  have r0 := hR2.c0
  have r1 := hR2.c1
  have q0 : 0 ≤ q := by omega
  have q1 := hb.2
  go_upto_region 4 with fail
  go_quiet ((go_at_call 48; exact Calls.quiet_of_same (ix_calls _ _ _)))
  have hR3 : RD (w2.drewN nq) R s q := hR2
  have hC3 : CV (w2.drewN nq) C c := hC2
  have K3 := K2.drewN nq
  rw [← HE.out]
  clear r0 r1 hR2 hC2 K2 HE hR hC
  generalize w2.drewN nq = W at *
  by_cases hneg : E < 0
  · have g : decide (E < 0) = true := by simpa using hneg
    have HG := Lib.hid (show decide (0 ≤ E) = false from by simpa using hneg)
    go_wp2_with fail
    go_ret
    rw [HEE.out, HG.out]
    exact ⟨rfl, K3, fun h => by omega⟩
  · have g : decide (E < 0) = false := by simpa using hneg
    have HG := Lib.hid (show decide (0 ≤ E) = true from by simpa using hneg)
    have hE0 : 0 ≤ E := by omega
    have hE1 : q + E < s.size := by omega
    clear hneg hle
    have r0 := hR3.c0
    have r1 := hR3.c1
    have c10 := hC3.c10
    have f10 := blk_frozen hC3 10
    have f1 := blk_frozen hR3 1
    have w1 : IntKind.i64.wrap (q + E) = q + E := i64_small (by omega) (by omega)
    have b1 : 0 ≤ q + E := by omega
    have b2 : q + E ≤ s.size := by omega
    have b3 : p ≤ q + E := by omega
    go_upto_region 7 with fail
    go_still_tail 15, (by kernel_rfl)
    go_wp2_with fail
    go_ret
    rw [HEE.out, HQ.out, HG.out]
    refine ⟨rfl, ((K3.setCell ⟨C, 10, none⟩ _ (.inl (.inr rfl))).setCell ⟨R, 1, none⟩ _ (.inl (.inl rfl))).drew, fun _ => ⟨?_, ?_⟩⟩
    · rw [show q + E + 1 = q + (E + 1) from by omega]
      exact RD.set_pos (RD.set_ne hR3 hCR)
    · exact (hC3.set10).set_ne hRC
def rdr (s : ByteArray) (a p : Int) : Bool × Cv × Int :=
  let p1 := skp s p 42
  let c : Cv := { at_ := a, quiet := tk s p 42, width := (wd s p1).1, letter := nx s (wd s p1).2 }
  let q := (wd s p1).2 + 1
  if c.letter = 100 ∨ c.letter = 120 ∨ c.letter = 111 ∨ c.letter = 98 ∨ c.letter = 115 then (true, c, q)
  else if c.letter = 99 ∨ c.letter = 110 then (decide (c.width < 0), c, q)
  else if c.letter = 37 then (decide (c.width < 0) && !c.quiet, c, q)
  else if c.letter = 91 then (decide (0 ≤ byE s q), { c with set := cut s q (byB s q + byE s q) }, byB s q + byE s q + 1)
  else (false, c, q)
set_option maxHeartbeats 2000000 in
set_option maxRecDepth 100000 in
theorem read_calls (w : World) (R C : Nat) (hRC : R ≠ C) (s : ByteArray) (p a : Int) (hs : s.size ≤ 100000) (h0 : 0 ≤ p) (h1 : p ≤ s.size) (hR : RD w R s p) (hC : CV w C { at_ := a }) :
   Calls Tryz.prog 50 #[.pointer (some ⟨R, 0, none⟩), .pointer (some ⟨C, 0, none⟩)] w fun e w' => e = .returned (.bool (rdr s a p).1) ∧ Chg (S2 R C) w w' ∧ ((rdr s a p).1 = true → RD w' R s (rdr s a p).2.2 ∧ CV w' C (rdr s a p).2.1) := by
  have hCR : C ≠ R := hRC.symm
  have hSR : ∀ k, k = R → S2 R C k := fun k h => .inl h
  have r1 := hR.c1
  go_enter Tryz.func50, Tryz.ntmps50
  go_wp2_with fail
  refine (skip_calls _ R s p 42 hR h0 hs).mono ?_
  rintro e w1 ⟨rfl, hR1, hk1⟩
  have hC1 := hC.chg hk1 (fun e => hRC e.symm)
  have K1 : Chg (S2 R C) w w1 := hk1.mono hSR
  have f9 := blk_frozen hC1 9
  have c9 := hC1.c9
  have p1 := skp_pos (s := s) (p := p) (c := 42)
  have HQ1 := Lib.hid (show skp s p 42 = skp s p 42 from rfl)
  clear hk1 r1
  go_wp2_with fail
  refine (wide_calls _ R s _ (hR1.set_ne hCR) (by omega) (p1.2.2 h1) hs).mono ?_
  rintro e w2 ⟨rfl, hR2, hk2⟩
  have hC2 := CV.chg (hC1.set9 (v := tk s p 42)) hk2 (fun e => hRC e.symm)
  have K2 := (K1.setCell ⟨C, 9, none⟩ (.bool (tk s p 42)) (.inl (.inr rfl))).trans (hk2.mono hSR)
  have p2 := wd_pos s (skp s p 42)
  have p2' := p2.2.2 (p1.2.2 h1)
  clear f9 c9 hk2
  have f4 := blk_frozen hC2 4
  have c4 := hC2.c4
  go_wp2_with fail
  refine (next_calls _ R s _ (hR2.set_ne hCR) (by omega) p2').mono ?_
  rintro e w3 ⟨rfl, hR3, hk3⟩
  have hC3 := CV.chg (hC2.set4 (v := (wd s (skp s p 42)).1)) hk3 (fun e => hRC e.symm)
  have K3 := (K2.setCell ⟨C, 4, none⟩ (.int .i64 (wd s (skp s p 42)).1) (.inl (.inr rfl))).trans (hk3.mono hSR)
  clear f4 c4 hk3 hR hC hR1 hC1 hR2 hC2 K1 K2
  have hnx : 0 ≤ nx s (wd s (skp s p 42)).2 ∧ nx s (wd s (skp s p 42)).2 ≤ 255 ∧ (nx s (wd s (skp s p 42)).2 = 91 → (wd s (skp s p 42)).2 < s.size) := by
    unfold nx
    have := bt_range s (wd s (skp s p 42)).2
    split
    · exact ⟨this.1, this.2, fun _ => by assumption⟩
    · exact ⟨by omega, by omega, fun h => by cases h⟩
  have HX := Lib.hid (show rdr s a p = (if nx s (wd s (skp s p 42)).2 = 100 ∨ nx s (wd s (skp s p 42)).2 = 120 ∨ nx s (wd s (skp s p 42)).2 = 111 ∨ nx s (wd s (skp s p 42)).2 = 98 ∨ nx s (wd s (skp s p 42)).2 = 115 then (true, { at_ := a, quiet := tk s p 42, width := (wd s (skp s p 42)).1, letter := nx s (wd s (skp s p 42)).2 }, (wd s (skp s p 42)).2 + 1)
    else if nx s (wd s (skp s p 42)).2 = 99 ∨ nx s (wd s (skp s p 42)).2 = 110 then (decide ((wd s (skp s p 42)).1 < 0), { at_ := a, quiet := tk s p 42, width := (wd s (skp s p 42)).1, letter := nx s (wd s (skp s p 42)).2 }, (wd s (skp s p 42)).2 + 1)
    else if nx s (wd s (skp s p 42)).2 = 37 then (decide ((wd s (skp s p 42)).1 < 0) && !tk s p 42, { at_ := a, quiet := tk s p 42, width := (wd s (skp s p 42)).1, letter := nx s (wd s (skp s p 42)).2 }, (wd s (skp s p 42)).2 + 1)
    else if nx s (wd s (skp s p 42)).2 = 91 then (decide (0 ≤ byE s ((wd s (skp s p 42)).2 + 1)), { at_ := a, quiet := tk s p 42, width := (wd s (skp s p 42)).1, letter := nx s (wd s (skp s p 42)).2, set := cut s ((wd s (skp s p 42)).2 + 1) (byB s ((wd s (skp s p 42)).2 + 1) + byE s ((wd s (skp s p 42)).2 + 1)) }, byB s ((wd s (skp s p 42)).2 + 1) + byE s ((wd s (skp s p 42)).2 + 1) + 1)
    else (false, { at_ := a, quiet := tk s p 42, width := (wd s (skp s p 42)).1, letter := nx s (wd s (skp s p 42)).2 }, (wd s (skp s p 42)).2 + 1)) from rfl)
  generalize nx s (wd s (skp s p 42)).2 = ch at *
  generalize (wd s (skp s p 42)).1 = wv at *
  have q0 : 0 ≤ (wd s (skp s p 42)).2 := by omega
  generalize (wd s (skp s p 42)).2 = q at *
  generalize tk s p 42 = qt at *
  clear p1 p2 HQ1
  have f8 := blk_frozen hC3 8
  have c8 := hC3.c8
  have c4 := hC3.c4
  have c9 := hC3.c9
  have f1 := blk_frozen hR3 1
  have d1 := hR3.c1
  have KE : Chg (S2 R C) w ((w3.setCell ⟨C, 8, none⟩ (.int .u8 ch)).setCell ⟨R, 1, none⟩ (.int .i64 (q + 1))) :=
    (K3.setCell ⟨C, 8, none⟩ _ (.inl (.inr rfl))).setCell ⟨R, 1, none⟩ _ (.inl (.inl rfl))
  have RE : RD ((w3.setCell ⟨C, 8, none⟩ (.int .u8 ch)).setCell ⟨R, 1, none⟩ (.int .i64 (q + 1))) R s (q + 1) := (hR3.set_ne hCR).set_pos
  have CE := (hC3.set8 (v := ch)).set_ne (i := 1) (v := .int .i64 (q + 1)) hRC
  clear hR3 hC3 K3
  by_cases h100 : ch = 100
  · subst h100
    go_wp2_with fail
    go_ret
    rw [HX.out, if_pos (by decide)]
    exact ⟨rfl, KE, fun _ => ⟨RE, CE⟩⟩
  have g100 : (ch == 100) = false := beq_eq_false_iff_ne.2 h100
  by_cases h120 : ch = 120
  · subst h120
    go_wp2_with fail
    go_ret
    rw [HX.out, if_pos (by decide)]
    exact ⟨rfl, KE, fun _ => ⟨RE, CE⟩⟩
  have g120 : (ch == 120) = false := beq_eq_false_iff_ne.2 h120
  by_cases h111 : ch = 111
  · subst h111
    go_wp2_with fail
    go_ret
    rw [HX.out, if_pos (by decide)]
    exact ⟨rfl, KE, fun _ => ⟨RE, CE⟩⟩
  have g111 : (ch == 111) = false := beq_eq_false_iff_ne.2 h111
  by_cases h98 : ch = 98
  · subst h98
    go_wp2_with fail
    go_ret
    rw [HX.out, if_pos (by decide)]
    exact ⟨rfl, KE, fun _ => ⟨RE, CE⟩⟩
  have g98 : (ch == 98) = false := beq_eq_false_iff_ne.2 h98
  by_cases h115 : ch = 115
  · subst h115
    go_wp2_with fail
    go_ret
    rw [HX.out, if_pos (by decide)]
    exact ⟨rfl, KE, fun _ => ⟨RE, CE⟩⟩
  have g115 : (ch == 115) = false := beq_eq_false_iff_ne.2 h115
  have n1 : ¬ (ch = 100 ∨ ch = 120 ∨ ch = 111 ∨ ch = 98 ∨ ch = 115) := by
    rintro (h | h | h | h | h) <;> simp_all
  clear h100 h120 h111 h98 h115
  by_cases h99 : ch = 99
  · subst h99
    clear n1 g100 g120 g111 g98 g115
    go_wp2_with fail
    go_ret
    rw [HX.out, if_neg (by decide), if_pos (by decide)]
    exact ⟨rfl, KE, fun _ => ⟨RE, CE⟩⟩
  have g99 : (ch == 99) = false := beq_eq_false_iff_ne.2 h99
  by_cases h110 : ch = 110
  · subst h110
    clear n1 g100 g120 g111 g98 g115
    go_wp2_with fail
    go_ret
    rw [HX.out, if_neg (by decide), if_pos (by decide)]
    exact ⟨rfl, KE, fun _ => ⟨RE, CE⟩⟩
  have g110 : (ch == 110) = false := beq_eq_false_iff_ne.2 h110
  have n2 : ¬ (ch = 99 ∨ ch = 110) := by
    rintro (h | h) <;> simp_all
  clear h99 h110
  by_cases h37 : ch = 37
  · subst h37
    clear n1 n2 g100 g120 g111 g98 g115 g99 g110
    by_cases hw : wv < 0
    · have gw : decide (wv < 0) = true := by simpa using hw
      have HW := Lib.hid gw
      clear hw
      go_wp2_with fail
      go_ret
      rw [show rdr s a p = (decide (wv < 0) && !qt, { at_ := a, quiet := qt, width := wv, letter := 37 }, q + 1) from by rw [HX.out]; simp, HW.out]
      exact ⟨rfl, KE, fun _ => ⟨RE, CE⟩⟩
    · have gw : decide (wv < 0) = false := by simpa using hw
      have HW := Lib.hid gw
      clear hw
      go_wp2_with fail
      go_ret
      rw [show rdr s a p = (decide (wv < 0) && !qt, { at_ := a, quiet := qt, width := wv, letter := 37 }, q + 1) from by rw [HX.out]; simp, HW.out]
      exact ⟨rfl, KE, fun h => by simp at h⟩
  have g37 : (ch == 37) = false := beq_eq_false_iff_ne.2 h37
  by_cases h91 : ch = 91
  · subst h91
    clear n1 n2 g100 g120 g111 g98 g115 g99 g110 g37
    have hlt := hnx.2.2 rfl
    go_wp2_with fail
    refine (bytes_calls _ R C hRC s (q + 1) _ hs (by omega) (by omega) RE CE).mono ?_
    rintro e w4 ⟨rfl, K4, h4⟩
    have HH := Lib.hid h4
    clear h4
    go_wp2_with fail
    go_ret
    rw [show rdr s a p = (decide (0 ≤ byE s (q + 1)), { at_ := a, quiet := qt, width := wv, letter := 91, set := cut s (q + 1) (byB s (q + 1) + byE s (q + 1)) }, byB s (q + 1) + byE s (q + 1) + 1) from by rw [HX.out]; simp]
    exact ⟨rfl, KE.trans K4, fun h => HH.out (of_decide_eq_true h)⟩
  have g91 : (ch == 91) = false := beq_eq_false_iff_ne.2 h91
  have HN := Lib.hid (And.intro n1 (And.intro n2 (And.intro h37 h91)))
  clear n1 n2 h37 h91
  go_wp2_with fail
  go_ret
  rw [HX.out, if_neg HN.out.1, if_neg HN.out.2.1, if_neg HN.out.2.2.1, if_neg HN.out.2.2.2]
  exact ⟨rfl, KE, fun h => by cases h⟩
end Go.Proofs.YtemogjpgkcbaiaaGreatDoor.Sp
end
section
namespace Go.Proofs.YtemogjpgkcbaiaaGreatDoor.Sp
open Go Go.RowKit
set_option linter.unusedVariables false
set_option linter.unusedSimpArgs false
variable {P : Program}
def roundPostP (P : Program) (l : Nat) (R : Ending → World → Prop) : Exit → Act → World → Prop
  | .normal, _, w => ∃ v w', (Instr.endRound l none).run P w = .ok v w' ∧ R (.returned v) w'
  | .ret, _, w => ∃ v w', (Instr.endRound l (some .ret)).run P w = .ok v w' ∧ R (.returned v) w'
  | .exit id, _, w => ∃ v w', (Instr.endRound l (some (.exit id))).run P w = .ok v w' ∧ R (.returned v) w'
  | .goto t, _, w => ∃ v w', (Instr.endRound l (some (.goto t))).run P w = .ok v w' ∧ R (.returned v) w'
  | .panic ch, a, w => a.defers = [] ∧ R (.panicked ch) w
  | .outgrown, _, _ => False
theorem roundIn_P {l : Nat} {f : FuncId} {fnn : Func} {tmps : Array Value} {assign body : Code} {w : World} {R : Ending → World → Prop} (hf : P.funcs[f]? = some fnn)
    (h : assign.wpIn (Fence.wide.inRound l) 0 P (Exit.then (fun a₁ w₁ => ∃ w₂, (Instr.beginRound l).run P w₁ = .ok () w₂ ∧ body.wpIn (Fence.wide.inRound l) 0 P (roundPostP P l R) a₁ w₂) (fun _ _ _ => False))
      { tmps := tmps, defers := [] } w) :
    RoundIn Fence.wide 0 P l f tmps assign body w R := by
  refine ⟨trivial, fun c cs hr => ?_⟩
  let b : Frame := { (default : Frame) with fn := f, kind := .normal, roundOf := some l }
  have hb0 : Frame.round l f tmps assign body .normal = b.atR { tmps := tmps, defers := [] } [.code assign, .beginRound, .code body] := by
    simp [Frame.round, Frame.atR, b]
  have hr' : (Fence.wide.inRound l).room ((c :: cs).length + 1 + 0) := hr
  have hF' : (Fence.wide.inRound l).fn b.fn := trivial
  obtain ⟨e, a₁, w₁, hq, harr⟩ := h b [.beginRound, .code body] (c :: cs) rfl hF' hr'
  rw [← hb0] at harr
  cases e with
  | normal =>
    obtain ⟨w₂, hbr, hbody⟩ := hq
    have s1 : StepsIn (Machine.fenced P (Fence.wide.inRound l)) P (lone (b.atR a₁ [.beginRound, .code body]) (c :: cs) w₁) (lone (b.atR a₁ [.code body]) (c :: cs) w₂) :=
      .one (fenced_calm (fr := b.atR a₁ [.beginRound, .code body]) hF' hr' rfl) (stepR_beginRound rfl hbr)
    obtain ⟨e₂, a₂, w₃, hq₂, harr₂⟩ := hbody b [] (c :: cs) rfl hF' hr'
    cases e₂ with
    | normal =>
      obtain ⟨v, w₄, hend, hR⟩ := hq₂
      exact ⟨.returned v, w₄, hR, (StepsIn.trans harr s1).trans (StepsIn.trans harr₂ (.one (fenced_calm (fr := b.atR a₂ []) hF' hr' rfl) (stepR_round_end rfl rfl hend)))⟩
    | ret =>
      obtain ⟨v, w₄, hend, hR⟩ := hq₂
      obtain ⟨k₁, hs⟩ := harr₂.2 rfl
      exact ⟨.returned v, w₄, hR, (StepsIn.trans harr s1).trans (StepsIn.trans hs (.one (fenced_calm (fr := b.atR a₂ (.code .ret :: k₁)) hF' hr' rfl) (stepR_round_ret rfl rfl hend)))⟩
    | exit id =>
      obtain ⟨v, w₄, hend, hR⟩ := hq₂
      obtain ⟨k₁, hk, hs⟩ := harr₂.2 rfl rfl
      exact ⟨.returned v, w₄, hR, (StepsIn.trans harr s1).trans (StepsIn.trans hs (.one (fenced_calm (fr := b.atR a₂ (.code (.exit id) :: k₁)) hF' hr' rfl) (stepR_round_exit rfl rfl hk hend)))⟩
    | goto t =>
      obtain ⟨v, w₄, hend, hR⟩ := hq₂
      obtain ⟨k₁, hk, hs⟩ := harr₂.2 rfl rfl
      exact ⟨.returned v, w₄, hR, (StepsIn.trans harr s1).trans (StepsIn.trans hs (.one (fenced_calm (fr := b.atR a₂ (.code (.goto t) :: k₁)) hF' hr' rfl) (stepR_round_goto rfl rfl hk hend)))⟩
    | panic chain =>
      obtain ⟨hd, hR⟩ := hq₂
      obtain ⟨k₁, hs⟩ := harr₂
      have hl : ({ b.atR a₂ k₁ with mode := .panicking chain } : Frame).leaving P w₃ (.panicked chain) := ⟨rfl, hd, fnn, hf⟩
      exact ⟨.panicked chain, w₃, hR, (StepsIn.trans harr s1).trans (StepsIn.trans hs (.one (fenced_leaving hF' hr' hl) (step_leave_panicked hl)))⟩
    | outgrown => exact hq₂.elim
  | exit id => exact hq.elim
  | goto t => exact hq.elim
  | ret => exact hq.elim
  | panic chain => exact hq.elim
  | outgrown => exact hq.elim
def Soft (W : World) (i : Nat) : Prop := ∃ cs t f, W.heap[i]? = some (.cells cs t f) ∧ (t = 9 ∨ t = 5)
theorem Soft.lt {W : World} {i : Nat} (h : Soft W i) : i < W.heap.size := by obtain ⟨cs, t, f, e, _⟩ := h; exact (Array.getElem?_eq_some_iff.1 e).1
theorem Soft.of_eq {W W' : World} {i : Nat} (h : Soft W' i) (e : W'.heap[i]? = W.heap[i]?) : Soft W i := by obtain ⟨cs, t, f, e2, ht⟩ := h; exact ⟨cs, t, f, e ▸ e2, ht⟩
theorem not_soft_loop {W : World} {i : Nat} {r : Loop} (h : W.heap[i]? = some (.loop r)) : ¬ Soft W i := by rintro ⟨cs, t, f, e, _⟩; rw [h] at e; cases e
theorem not_soft_def {W : World} {i : Nat} {r : Option (List Deferred)} (h : W.heap[i]? = some (.deferred r)) : ¬ Soft W i := by rintro ⟨cs, t, f, e, _⟩; rw [h] at e; cases e
theorem not_soft_cells {W : World} {i : Nat} {cs : Array Value} {t : TypeId} {f : Nat × Nat} (h : W.heap[i]? = some (.cells cs t f)) (h9 : t ≠ 9) (h5 : t ≠ 5) : ¬ Soft W i := by
  rintro ⟨cs', t', f', e, ht⟩; rw [h] at e; injection e with e; injection e with _ e2 _; rcases ht with h | h
  · exact h9 (e2.trans h)
  · exact h5 (e2.trans h)
structure KeepHi (B : Nat) (W W' : World) : Prop where
  size : W.heap.size ≤ W'.heap.size
  same : ∀ i, B ≤ i → i < W.heap.size → ¬ Soft W i → W'.heap[i]? = W.heap[i]?
theorem KeepHi.refl (B : Nat) (W : World) : KeepHi B W W := ⟨Nat.le_refl _, fun _ _ _ _ => rfl⟩
theorem KeepHi.trans {B : Nat} {a b c : World} (h : KeepHi B a b) (k : KeepHi B b c) : KeepHi B a c :=
  ⟨Nat.le_trans h.size k.size, fun i hi hl hs => (k.same i hi (Nat.lt_of_lt_of_le hl h.size) (fun s => hs (s.of_eq (h.same i hi hl hs)))).trans (h.same i hi hl hs)⟩
structure BelowS (B : Nat) (W W' : World) : Prop where
  below : Below B W W'
  soft : ∀ i, Soft W i → W'.heap[i]? = W.heap[i]?
theorem BelowS.refl (B : Nat) (W : World) : BelowS B W W := ⟨Below.refl _ _, fun _ _ => rfl⟩
theorem BelowS.mono {B B' : Nat} {a b : World} (h : BelowS B a b) (hb : B' ≤ B) : BelowS B' a b := ⟨h.below.mono hb, h.soft⟩
theorem BelowS.of_below {B : Nat} {a b : World} (h : Below a.heap.size a b) (hb : B ≤ a.heap.size) : BelowS B a b := ⟨h.mono hb, fun i hs => h.block i hs.lt⟩
theorem belowS_putObj {B l : Nat} {W : World} {o : Obj} {r : Loop} (h : B ≤ l) (hl : W.heap[l]? = some (.loop r)) : BelowS B W (W.putObj l o) :=
  ⟨⟨rfl, rfl, rfl, by simp, fun k hk => World.putObj_heap_other (by omega)⟩, fun i hs => World.putObj_heap_other (by rintro rfl; exact not_soft_loop hl hs)⟩
theorem BelowS.setCell {B : Nat} {a b : World} (h : BelowS B a b) (p : Addr) (v : Value) (hp : B ≤ p.block) (hs : ¬ Soft b p.block) : BelowS B a (b.setCell p v) :=
  ⟨h.below.setCell hp v, fun i hi => (Below.heap_setCell b p v i (by rintro rfl; exact hs (by obtain ⟨cs, t, f, e, ht⟩ := hi; exact ⟨cs, t, f, (h.soft _ ⟨cs, t, f, e, ht⟩).trans e, ht⟩))).trans (h.soft i hi)⟩
theorem BelowS.drewN {B : Nat} {a b : World} (h : BelowS B a b) (n : Nat) : BelowS B a (b.drewN n) := ⟨h.below.trans ⟨rfl, rfl, rfl, Nat.le_refl _, fun _ _ => rfl⟩, h.soft⟩
def IterP (P : Program) (gf : Nat) (lb : Array Value) {α : Type} (N : Nat) (step : Nat → Option (α × Nat)) (encs : α → Array Value) (bad : Nat → Value) (Caps : World → Prop) : Prop :=
  ∀ (l : Nat) (J : Nat → World → Prop) (Jx : World → Prop) (Jp : List PanicEntry → World → Prop) (W : World),
    (∀ p W1, J p W1 → Caps W1) →
    (∀ p W1 W2, J p W1 → BelowS W.heap.size W1 W2 → J p W2) → (∀ W1 W2, Jx W1 → BelowS W.heap.size W1 W2 → Jx W2) → (∀ ch W1 W2, Jp ch W1 → BelowS W.heap.size W1 W2 → Jp ch W2) →
    (∀ p x q W1, J p W1 → W.heap.size ≤ W1.heap.size → p < N → step p = some (x, q) → YieldAt Fence.wide 0 P l (encs x) W1 fun e W2 =>
      KeepHi W.heap.size W1 W2 ∧ ((e = .returned (.bool true) ∧ J q W2) ∨ (e = .returned (.bool false) ∧ Jx W2) ∨ ∃ ch, e = .panicked ch ∧ Jp ch W2)) →
    J 0 W →
    CallsIn Fence.wide 0 P gf (#[.func (.yield l) #[] #[]] ++ lb) W fun e W' => W.heap.size ≤ W'.heap.size ∧
      ((e = .returned (.tuple #[]) ∧ (J N W' ∨ Jx W')) ∨ (∃ ch, e = .panicked ch ∧ (Jp ch W' ∨ ∃ p, p < N ∧ step p = none ∧ ch = [{ v := bad p, recovered := false }] ∧ J p W')))
def bodyPostR (B : Nat) (I : World → Prop) (Ix : Code → World → Prop) (Ip : List PanicEntry → World → Prop) (W : World) : Exit → Act → World → Prop
  | .normal, _, W' => KeepHi B W W' ∧ I W'
  | .ret, _, W' => KeepHi B W W' ∧ Ix .ret W'
  | .exit id, _, W' => KeepHi B W W' ∧ Ix (.exit id) W'
  | .goto t, _, W' => KeepHi B W W' ∧ Ix (.goto t) W'
  | .panic ch, a, W' => a.defers = [] ∧ KeepHi B W W' ∧ Ip ch W'
  | .outgrown, _, _ => False
theorem below_putObj {B l : Nat} {W : World} {o : Obj} (h : B ≤ l) : Below B W (W.putObj l o) :=
  ⟨rfl, rfl, rfl, by simp, fun k hk => World.putObj_heap_other (by omega)⟩
def wpV (P : Program) (f : FuncId) (c : Code) (Q : Exit → Act → World → Prop) (a : Act) (w : World) : Prop :=
  ∀ (b : Frame) (k : List Item) (cs : List Frame), b.roundOf = none → b.fn = f →
    ∃ e a' w', Q e a' w' ∧ ArrivesIn (Machine.fenced P Fence.wide) P (lone (b.atR a (.code c :: k)) cs w) b k cs e a' w'
section
variable {f : FuncId} {c x y : Code} {Q : Exit → Act → World → Prop} {a : Act} {w : World}
theorem wpV_of_wpIn (h : c.wpIn Fence.wide 0 P Q a w) : wpV P f c Q a w := fun b k cs hro _ => h b k cs hro trivial (room_wide _)
theorem wpV_seq (h : wpV P f x (Exit.then (wpV P f y Q) Q) a w) : wpV P f (.seq x y) Q a w := by
  intro b k cs hro hb
  have h0 : (lone (b.atR a (.code (.seq x y) :: k)) cs w).fenced P Fence.wide := fenced_wide _ _
  obtain ⟨e, a₁, w₁, hq, harr⟩ := h b (.code y :: k) cs hro hb
  cases e with
  | normal =>
    obtain ⟨e₂, a₂, w₂, hq₂, harr₂⟩ := hq b k cs hro hb
    exact ⟨e₂, a₂, w₂, hq₂, .of_steps (.head h0 stepR_seq harr) harr₂⟩
  | exit id => exact ⟨_, a₁, w₁, hq, .of_steps (.one h0 stepR_seq) (.pass (x := .code y) rfl (fun _ _ => .inl (by simp)) harr)⟩
  | goto l => exact ⟨_, a₁, w₁, hq, .of_steps (.one h0 stepR_seq) (.pass (x := .code y) rfl (fun _ _ => .inl (by simp)) harr)⟩
  | ret => exact ⟨_, a₁, w₁, hq, .of_steps (.one h0 stepR_seq) (.pass (x := .code y) rfl (fun _ _ => .inl (by simp)) harr)⟩
  | panic ch => exact ⟨_, a₁, w₁, hq, .of_steps (.one h0 stepR_seq) (.pass (x := .code y) rfl (fun _ _ => .inl (by simp)) harr)⟩
  | outgrown => exact ⟨_, a₁, w₁, hq, .of_steps (.one h0 stepR_seq) (.pass (x := .code y) rfl (fun _ _ => .inl (by simp)) harr)⟩
theorem wpV_cond {o : Operand} {t : Bool} (hc : a.eval o = .bool t) (h : wpV P f (if t then x else y) Q a w) : wpV P f (.cond o x y) Q a w :=
  fun b k cs hro hb => let ⟨e, a', w', q, r⟩ := h b k cs hro hb; ⟨e, a', w', q, .of_steps (.one (fenced_wide _ _) (stepR_cond hc)) r⟩
theorem wpV_block {id : Nat} (h : wpV P f c (Exit.inBlock id Q) a w) : wpV P f (.block id c) Q a w := by
  intro b k cs hro hb
  have h0 : (lone (b.atR a (.code (.block id c) :: k)) cs w).fenced P Fence.wide := fenced_wide _ _
  obtain ⟨e, a₁, w₁, hq, harr⟩ := h b (.inBlock id :: k) cs hro hb
  cases e with
  | normal => exact ⟨.normal, a₁, w₁, hq, .head h0 stepR_block (StepsIn.trans harr (.one (fenced_wide _ _) stepR_inBlock))⟩
  | exit id' =>
    by_cases hid : id' = id
    · simp only [Exit.inBlock, hid, if_true] at hq
      exact ⟨.normal, a₁, w₁, hq, .head h0 stepR_block (harr.1 k (by simp [exitTo, hid]))⟩
    · simp only [Exit.inBlock, hid, if_false] at hq
      have this : (id == id') = false := by simp; exact fun h => hid h.symm
      have hx : exitTo id' (.inBlock id :: k) = exitTo id' k := by simp [exitTo, this]
      exact ⟨.exit id', a₁, w₁, hq, fun k' hk => .head h0 stepR_block (harr.1 k' (by rw [hx]; exact hk)),
        fun hr' hk => let ⟨k₁, h1, h2⟩ := harr.2 hr' (by rw [hx]; exact hk); ⟨k₁, h1, .head h0 stepR_block h2⟩⟩
  | goto l =>
    have hx : gotoIn l (.inBlock id :: k) = gotoIn l k := by simp [gotoIn]
    exact ⟨_, a₁, w₁, hq, fun k' hk => .head h0 stepR_block (harr.1 k' (by rw [hx]; exact hk)),
      fun hr' hk => let ⟨k₁, h1, h2⟩ := harr.2 hr' (by rw [hx]; exact hk); ⟨k₁, h1, .head h0 stepR_block h2⟩⟩
  | ret => exact ⟨_, a₁, w₁, hq, .of_steps (.one h0 stepR_block) harr⟩
  | panic ch => exact ⟨_, a₁, w₁, hq, .of_steps (.one h0 stepR_block) harr⟩
  | outgrown => exact ⟨_, a₁, w₁, hq, .of_steps (.one h0 stepR_block) harr⟩
theorem wpV_seq_in (h : ∀ K : Act → World → Prop, (∀ a w, wpV P f y Q a w → K a w) → x.wpIn Fence.wide 0 P (Exit.then K Q) a w) : wpV P f (.seq x y) Q a w :=
  wpV_seq (wpV_of_wpIn (h _ fun _ _ h => h))
end
theorem calls_of_wpV {f : FuncId} {fn : Func} {c : Code} {args : Array Value} {w : World} {R : Ending → World → Prop}
    (hf : P.funcs[f]? = some fn) (hb : fn.body = some c)
    (h : wpV P f c (bodyPostM Fence.wide 0 P fn R) { tmps := args ++ Array.replicate (fn.ntmps - args.size) undef, defers := [] } w) : Calls P f args w R := by
  refine (callsIn_wide (n := 0)).1 ⟨trivial, fun cs hr => ?_⟩
  let b : Frame := { (default : Frame) with fn := f, kind := .normal, roundOf := none }
  have henter : Frame.enter P f args .normal =
      b.atR { tmps := args ++ Array.replicate (fn.ntmps - args.size) undef, defers := [] } [.code c] := by
    simp [Frame.enter, Frame.atR, hf, hb, b]
  obtain ⟨e, a', w', hq, harr⟩ := h b [] cs rfl rfl
  rw [← henter] at harr
  cases e with
  | normal =>
    obtain ⟨e', w'', fr', hR, hs, hfn, hl⟩ := leaves_stepsInM a'.defers .returning w' { b.atR a' [] with mode := .returning } cs rfl rfl rfl hf rfl trivial hr hq
    exact ⟨e', w'', fr', hR, ComesIn.of_steps (StepsIn.trans harr (.one (fenced_wide _ _) (stepR_end rfl))) hs, hfn, hl⟩
  | ret =>
    obtain ⟨todo, hs₀⟩ := harr.1 rfl
    obtain ⟨e', w'', fr', hR, hs, hfn, hl⟩ := leaves_stepsInM a'.defers .returning w' { b.atR a' todo with mode := .returning } cs rfl rfl rfl hf rfl trivial hr hq
    exact ⟨e', w'', fr', hR, ComesIn.of_steps hs₀ hs, hfn, hl⟩
  | panic chain =>
    obtain ⟨todo, hs₀⟩ := harr
    obtain ⟨e', w'', fr', hR, hs, hfn, hl⟩ := leaves_stepsInM a'.defers (.panicking chain) w' { b.atR a' todo with mode := .panicking chain } cs rfl rfl rfl hf rfl trivial hr hq
    exact ⟨e', w'', fr', hR, ComesIn.of_steps hs₀ hs, hfn, hl⟩
  | exit id => exact hq.elim
  | goto l => exact hq.elim
  | outgrown => exact ⟨.outgrown, w', b, hq, harr.resolve_left (by simp [b]), rfl, trivial⟩
theorem wpV_rangeFunc {ff : FuncId} {g : Operand} {ps : Array Tmp} {assign body : Code} {Q : Exit → Act → World → Prop} {a : Act} {w : World}
    (h : ∃ (l : Nat) (mark : List Deferred) (w₁ : World) (d : Deferred) (w₁' : World) (f : FuncId) (args : Array Value) (w₂ : World),
      (Instr.enterLoop ff a.tmps ps assign body none).run P w = .ok (l, mark) w₁ ∧
      (resolve a.eval (rangeCall g l) 0).run P w₁ = .ok d w₁' ∧
      (invoke d.target d.args).run P w₁' = .ok (.enter f args) w₂ ∧
      CallsIn Fence.wide 0 P f args w₂ (fun e w₃ => match e with
        | .returned _ => ∃ jump w₄, (Instr.endLoop l).run P w₃ = .ok jump w₄ ∧
          (match jump with
           | none => Q .normal { a with defers := mark ++ a.defers } w₄
           | some c => wpV P ff c Q { a with defers := mark ++ a.defers } w₄)
        | .panicked chain => Q (.panic chain) { a with defers := mark ++ a.defers } w₃
        | .outgrown => False)) :
    wpV P ff (.rangeFunc g ps assign body) Q a w := by
  intro b k cs hro hb
  obtain ⟨l, mark, w₁, d, w₁', f, args, w₂, he, hres, hinv, hF, hcall⟩ := h
  have he' : (Instr.enterLoop b.fn a.tmps ps assign body b.roundOf).run P w = .ok (l, mark) w₁ := by rw [hb, hro]; exact he
  have henter := stepR_rangeFunc (P := P) (b := b) (a := a) (k := k) (cs := cs) (w := w) he' hres hinv
  obtain ⟨e, w₃, fr, hR, hsteps, hfn, hleave⟩ := hcall (b.atR { a with defers := mark ++ a.defers } (.inRangeFunc l :: k) :: cs) (room_wide _)
  cases e with
  | outgrown => exact hR.elim
  | returned v =>
    obtain ⟨jump, w₄, hend, hj⟩ := hR
    have sback : StepsIn (Machine.fenced P Fence.wide) P (lone (b.atR a (.code (.rangeFunc g ps assign body) :: k)) cs w) (lone (b.atR { a with defers := mark ++ a.defers } ((jump.map Item.code).toList ++ k)) cs w₄) := by
      refine .head (fenced_wide _ _) henter (StepsIn.trans hsteps (.head (fenced_wide _ _) ?_ (.one (fenced_wide _ _) (stepR_endRangeFunc hend))))
      rw [← finish_atR_inRangeFunc l v]; exact step_leave_returned hleave
    cases jump with
    | none => exact ⟨.normal, _, w₄, hj, sback⟩
    | some c =>
      obtain ⟨e', a'', w₅, hq, harr⟩ := hj b k cs hro hb
      exact ⟨e', a'', w₅, hq, .of_steps sback harr⟩
  | panicked chain =>
    refine ⟨.panic chain, _, w₃, hR, .inRangeFunc l :: k, .head (fenced_wide _ _) henter (StepsIn.trans hsteps (.one (fenced_wide _ _) ?_))⟩
    rw [← Frame.raise_atR]; exact step_leave_panicked hleave
theorem range_P {α : Type} {ff : FuncId} {fnn : Func} (hff : P.funcs[ff]? = some fnn) {g : Operand} {ps : Array Tmp} {assign body : Code} {Q : Exit → Act → World → Prop} {a : Act} {w : World} {gf : Nat} {lb : Array Value}
    (hg : a.eval g = .func (.func gf) #[] lb) (eg : ∀ args w, (callFunc gf args).run P w = .ok (.enter gf args) w)
    {N : Nat} {step : Nat → Option (α × Nat)} {encs : α → Array Value} {bad : Nat → Value} {Caps : World → Prop} (hit : IterP P gf lb N step encs bad Caps) (hps : ∀ x, (encs x).size = ps.size)
    (I : Nat → World → Prop) (Ix : Code → World → Prop) (Ip : List PanicEntry → World → Prop)
    (hI : ∀ p W1 W2, I p W1 → BelowS w.heap.size W1 W2 → I p W2) (hIx : ∀ c W1 W2, Ix c W1 → BelowS w.heap.size W1 W2 → Ix c W2) (hIp : ∀ ch W1 W2, Ip ch W1 → BelowS w.heap.size W1 W2 → Ip ch W2)
    (hcap : ∀ p W1, I p W1 → Caps W1) (h0 : I 0 w)
    (Ra : α → Act → World → Prop) (hRa : ∀ x a1 W l r r', W.heap[l]? = some (.loop r) → Ra x a1 W → Ra x a1 (W.putObj l (.loop r')))
    (hassign : ∀ l x W, w.heap.size ≤ W.heap.size → assign.wpIn (Fence.wide.inRound l) 0 P (Exit.then (fun a1 W' => Below W.heap.size W W' ∧ Ra x a1 W') (fun _ _ _ => False)) { tmps := (ps.zip (encs x)).foldl (fun t (p, v) => t.setIfInBounds p v) a.tmps, defers := [] } W)
    (hbody : ∀ l p x q a1 W, I p W → w.heap.size ≤ W.heap.size → p < N → step p = some (x, q) → Ra x a1 W → body.wpIn (Fence.wide.inRound l) 0 P (bodyPostR w.heap.size (I q) Ix Ip W) a1 W)
    (hdone : ∀ W, I N W → w.heap.size ≤ W.heap.size → W.heap[w.heap.size]? = some (.deferred (some [])) → Q .normal { a with defers := { target := .collected w.heap.size, args := #[] } :: a.defers } W)
    (hstop : ∀ c W, Ix c W → w.heap.size ≤ W.heap.size → W.heap[w.heap.size]? = some (.deferred (some [])) → wpV P ff c Q { a with defers := { target := .collected w.heap.size, args := #[] } :: a.defers } W)
    (hpanic : ∀ ch W, (Ip ch W ∨ ∃ p, p < N ∧ step p = none ∧ ch = [{ v := bad p, recovered := false }] ∧ I p W) → w.heap.size ≤ W.heap.size → W.heap[w.heap.size]? = some (.deferred (some [])) →
      Q (.panic ch) { a with defers := { target := .collected w.heap.size, args := #[] } :: a.defers } W) :
    wpV P ff (.rangeFunc g ps assign body) Q a w := by
  refine wpV_rangeFunc ?_
  obtain ⟨rec, hrec⟩ : ∃ rec : LoopState → Option Code → Loop, rec = fun st pe => { state := st, pending := pe, fn := ff, tmps := a.tmps, params := ps, assign, body, defers := w.heap.size } := ⟨_, rfl⟩
  obtain ⟨W1, hW1⟩ : ∃ W1, (w.alloc (.deferred (some []))).alloc (.loop (rec .ready none)) = W1 := ⟨_, rfl⟩
  have hL1 : W1.heap[w.heap.size + 1]? = some (.loop (rec .ready none)) := by
    rw [← hW1]; have := World.alloc_heap_new (w.alloc (.deferred (some []))) (.loop (rec .ready none)); rwa [World.size_alloc] at this
  have hK1 : W1.heap[w.heap.size]? = some (.deferred (some [])) := by
    rw [← hW1]; exact (Below.heap_alloc _ _ _ (by simp)).trans (World.alloc_heap_new w _)
  have hb1 : Below w.heap.size w W1 := by
    rw [← hW1]; exact (((Below.refl _ w).alloc (Nat.le_refl _) _).alloc (by simp) _)
  have hs1 : W1.heap.size = w.heap.size + 2 := by rw [← hW1]; simp
  have hI1 : I 0 W1 := hI _ _ _ h0 (BelowS.of_below hb1 (Nat.le_refl _))
  refine ⟨w.heap.size + 1, [{ target := .collected w.heap.size, args := #[] }], W1, { target := .fn (.func gf) lb, args := #[.func (.yield (w.heap.size + 1)) #[] #[]] }, W1, gf,
    #[.func (.yield (w.heap.size + 1)) #[] #[]] ++ lb, W1, ?_, ?_, ?_, ?_⟩
  · rw [← hW1, hrec]; exact run_enterLoop_outer _ _ _ _ _
  · simp only [resolve, hg]
    simp [go_sem]
  · simp [invoke, go_sem, eg]
  · refine (hit (w.heap.size + 1)
      (fun p W => I p W ∧ W.heap[w.heap.size + 1]? = some (.loop (rec .ready none)) ∧ W.heap[w.heap.size]? = some (.deferred (some [])))
      (fun W => ∃ c, Ix c W ∧ W.heap[w.heap.size + 1]? = some (.loop (rec .done (some c))) ∧ W.heap[w.heap.size]? = some (.deferred (some [])))
      (fun ch W => Ip ch W ∧ W.heap[w.heap.size]? = some (.deferred (some [])))
      W1 (fun p V h => hcap p V h.1)
      (fun p A B h k => ⟨hI _ _ _ h.1 (k.mono (by omega)), (k.below.block _ (by omega)).trans h.2.1, (k.below.block _ (by omega)).trans h.2.2⟩)
      (fun A B h k => by obtain ⟨c, h1, h2, h3⟩ := h; exact ⟨c, hIx _ _ _ h1 (k.mono (by omega)), (k.below.block _ (by omega)).trans h2, (k.below.block _ (by omega)).trans h3⟩)
      (fun ch A B h k => ⟨hIp _ _ _ h.1 (k.mono (by omega)), (k.below.block _ (by omega)).trans h.2⟩)
      ?_ ⟨hI1, hL1, hK1⟩).mono ?_
    ·
      rintro p x q W ⟨hi, hl, hk⟩ hsz hp hst
      rw [hs1] at hsz ⊢
      have hlt : w.heap.size + 1 < W.heap.size := by omega
      have hy := run_yield (P := P) (args := encs x) hl (by rw [hrec]; exact hps x)
      rw [hrec] at hy
      refine ⟨ff, _, assign, body, hy, roundIn_P hff (wpIn_mono (hassign _ x W (by omega)) ?_)⟩
      rintro e a1 W2 hq
      cases e with
      | normal =>
        obtain ⟨hb2, hra⟩ := hq
        have hl2 : W2.heap[w.heap.size + 1]? = some (.loop (rec .ready none)) := (hb2.block _ (by omega)).trans hl
        have hk2 : W2.heap[w.heap.size]? = some (.deferred (some [])) := (hb2.block _ (by omega)).trans hk
        have hi2 : I p W2 := hI _ _ _ hi (BelowS.of_below hb2 (by omega))
        have hsz2 : w.heap.size + 2 ≤ W2.heap.size := by have := hb2.size; omega
        refine ⟨_, run_beginRound hl2 (by rw [hrec]), ?_⟩
        obtain ⟨W3, hW3⟩ : ∃ W3, W2.putObj (w.heap.size + 1) (.loop { rec .ready none with state := .busy }) = W3 := ⟨_, rfl⟩
        have hb3 : Below (w.heap.size + 1) W2 W3 := by rw [← hW3]; exact below_putObj (Nat.le_refl _)
        have hl3 : W3.heap[w.heap.size + 1]? = some (.loop { rec .ready none with state := .busy }) := by rw [← hW3]; exact World.putObj_heap_same (by omega)
        have hk3 : W3.heap[w.heap.size]? = some (.deferred (some [])) := (hb3.block _ (by omega)).trans hk2
        have hsz3 : W3.heap.size = W2.heap.size := by rw [← hW3]; simp
        have hra3 : Ra x a1 W3 := by rw [← hW3]; exact hRa _ _ _ _ _ _ hl2 hra
        have hs3 : BelowS w.heap.size W2 W3 := by rw [← hW3]; exact belowS_putObj (by omega) hl2
        have kh : KeepHi (w.heap.size + 2) W W3 := ⟨by rw [hsz3]; exact hb2.size, fun i h1 h2 _ => by
          rw [← hW3]; exact (World.putObj_heap_other (by omega)).trans (hb2.block i h2)⟩
        rw [hW3]
        refine wpIn_mono (hbody _ p x q a1 W3 (hI _ _ _ hi2 hs3) (by omega) hp hst hra3) ?_
        have fin : ∀ (jump : Option Code) (W4 : World), KeepHi w.heap.size W3 W4 →
            (Instr.endRound (w.heap.size + 1) jump).run P W4 = .ok (.bool jump.isNone) (W4.putObj (w.heap.size + 1) (.loop (rec (if jump.isNone then .ready else .done) jump))) ∧
            (W4.putObj (w.heap.size + 1) (.loop (rec (if jump.isNone then .ready else .done) jump))).heap[w.heap.size + 1]? = some (.loop (rec (if jump.isNone then .ready else .done) jump)) ∧
            (W4.putObj (w.heap.size + 1) (.loop (rec (if jump.isNone then .ready else .done) jump))).heap[w.heap.size]? = some (.deferred (some [])) ∧
            KeepHi (w.heap.size + 2) W (W4.putObj (w.heap.size + 1) (.loop (rec (if jump.isNone then .ready else .done) jump))) ∧
            BelowS w.heap.size W4 (W4.putObj (w.heap.size + 1) (.loop (rec (if jump.isNone then .ready else .done) jump))) := fun jump W4 k4 => by
          have hl4 := (k4.same _ (by omega) (by omega) (not_soft_loop hl3)).trans hl3
          have hk4 := (k4.same _ (by omega) (by omega) (not_soft_def hk3)).trans hk3
          have hz4 := k4.size
          have := run_endRound (P := P) jump hl4
          rw [hrec] at this ⊢
          refine ⟨this, World.putObj_heap_same (by omega), (World.putObj_heap_other (by omega)).trans hk4, ⟨?_, ?_⟩, belowS_putObj (by omega) hl4⟩
          · have := kh.size; simp; omega
          · intro i h1 h2 h3
            have := kh.size
            exact (World.putObj_heap_other (by omega)).trans ((k4.same i (by omega) (by omega) (fun s => h3 (s.of_eq (kh.same i h1 h2 h3)))).trans (kh.same i h1 h2 h3))
        rintro e a4 W4 hp4
        cases e with
        | normal =>
          obtain ⟨k4, hi4⟩ := hp4
          obtain ⟨f1, f2, f3, f4, f5⟩ := fin none W4 k4
          exact ⟨_, _, f1, f4, .inl ⟨rfl, hI _ _ _ hi4 f5, f2, f3⟩⟩
        | ret =>
          obtain ⟨k4, hi4⟩ := hp4
          obtain ⟨f1, f2, f3, f4, f5⟩ := fin (some .ret) W4 k4
          exact ⟨_, _, f1, f4, .inr (.inl ⟨rfl, .ret, hIx _ _ _ hi4 f5, f2, f3⟩)⟩
        | exit id =>
          obtain ⟨k4, hi4⟩ := hp4
          obtain ⟨f1, f2, f3, f4, f5⟩ := fin (some (.exit id)) W4 k4
          exact ⟨_, _, f1, f4, .inr (.inl ⟨rfl, .exit id, hIx _ _ _ hi4 f5, f2, f3⟩)⟩
        | goto t =>
          obtain ⟨k4, hi4⟩ := hp4
          obtain ⟨f1, f2, f3, f4, f5⟩ := fin (some (.goto t)) W4 k4
          exact ⟨_, _, f1, f4, .inr (.inl ⟨rfl, .goto t, hIx _ _ _ hi4 f5, f2, f3⟩)⟩
        | panic ch =>
          obtain ⟨hd, k4, hi4⟩ := hp4
          refine ⟨hd, ⟨Nat.le_trans kh.size k4.size, fun i h1 h2 h3 => (k4.same i (by omega) (by have := kh.size; omega) (fun s => h3 (s.of_eq (kh.same i h1 h2 h3)))).trans (kh.same i h1 h2 h3)⟩, .inr (.inr ⟨ch, rfl, hi4, (k4.same _ (by omega) (by omega) (not_soft_def hk3)).trans hk3⟩)⟩
        | outgrown => exact hp4.elim
      | exit id => exact hq.elim
      | goto t => exact hq.elim
      | ret => exact hq.elim
      | panic ch => exact hq.elim
      | outgrown => exact hq.elim
    ·
      rintro e W2 ⟨hsz, ⟨rfl, (⟨hi, hl, hk⟩ | ⟨c, hi, hl, hk⟩)⟩ | ⟨ch, rfl, hp⟩⟩
      · refine ⟨none, _, by have := run_endLoop (P := P) hl (by rw [hrec]; simp); rw [hrec] at this; exact this, ?_⟩
        exact hdone _ (hI _ _ _ hi (belowS_putObj (by omega) hl)) (by simp; omega) ((World.putObj_heap_other (by omega)).trans hk)
      · refine ⟨some c, _, by have := run_endLoop (P := P) hl (by rw [hrec]; simp); rw [hrec] at this; exact this, ?_⟩
        exact hstop c _ (hIx _ _ _ hi (belowS_putObj (by omega) hl)) (by simp; omega) ((World.putObj_heap_other (by omega)).trans hk)
      · refine hpanic ch W2 ?_ (by omega) ?_
        · rcases hp with ⟨h, _⟩ | ⟨p, h1, h2, h3, h4, _⟩
          · exact .inl h
          · exact .inr ⟨p, h1, h2, h3, h4⟩
        · rcases hp with ⟨_, h⟩ | ⟨p, h1, h2, h3, _, _, h⟩
          · exact h
          · exact h
end Go.Proofs.YtemogjpgkcbaiaaGreatDoor.Sp
end
section
namespace Go.Proofs.YtemogjpgkcbaiaaGreatDoor.Sp
open Go.RowKit Go.Proofs.YtemogjpgkcbaiaaGreatDoorW.PrintWords Go.Proofs.YtemogjpgkcbaiaaGreatDoorW.PrintLast Go.Proofs.YtemogjpgkcbaiaaGreatDoorW.PrintMore
set_option linter.unusedVariables false
set_option linter.unusedSimpArgs false
def txI (s : ByteArray) (p : Nat) : Int := ix (s.extract p s.size).data.toList 37
def txE (s : ByteArray) (p : Nat) : Int := if txI s p < 0 then s.size - p else txI s p
def pcv (s : ByteArray) (scan : Bool) (p : Nat) : Bool × Cv × Int := if scan then rdr s p (p + 1) else pwr s p (p + 1)
def pstep (s : ByteArray) (scan : Bool) (p : Nat) : Option (Cv × Nat) :=
  if txI s p = 0 then (if (pcv s scan p).1 then some ((pcv s scan p).2.1, (pcv s scan p).2.2.toNat) else none)
  else some ({ at_ := p, text := cut s p (p + txE s p) }, (p + txE s p).toNat)
def badV (p : Nat) : Value := .iface 58 (.agg #[.int .i64 p, .int .i64 2])
def encC (c : Cv) : Array Value := #[.agg c.cells.toArray]
def Caps (s : ByteArray) (scan : Bool) (Bs Bsc : Nat) (w : World) : Prop := w.cell? ⟨Bs, 0, none⟩ = some (.string s) ∧ w.cell? ⟨Bsc, 0, none⟩ = some (.bool scan)
theorem fin_pos {s : ByteArray} {c : Cv} {p : Int} (h : (fin s c p).1 = true) : p < s.size ∧ (fin s c p).2.2 = p + 1 := by
  simp only [fin, Bool.and_eq_true, bne_iff_ne] at h
  refine ⟨?_, rfl⟩
  have h1 := h.1
  unfold nx at h1
  by_cases hp : p < s.size
  · exact hp
  · rw [if_neg hp] at h1; exact absurd rfl h1
theorem flE_pos (s : ByteArray) (p : Int) : p ≤ flE s p ∧ (p ≤ s.size → flE s p ≤ s.size) := by
  unfold flE
  generalize (s.size - p).toNat = k
  induction k generalizing p with
  | zero => exact ⟨Int.le_refl _, fun h => h⟩
  | succ k ih =>
    by_cases h : p < s.size ∧ isFlag (bt s p) = true
    · rw [show flGo s (k + 1) p = flGo s k (p + 1) from if_pos h]
      have := ih (p + 1)
      exact ⟨by omega, fun _ => this.2 (by omega)⟩
    · rw [show flGo s (k + 1) p = p from if_neg h]; exact ⟨Int.le_refl _, fun h => h⟩
theorem plc_pos (s : ByteArray) (p : Int) : p ≤ (plc s p).2 ∧ (p ≤ s.size → (plc s p).2 ≤ s.size) := by
  have np := nm_pos s 2 p
  unfold plc
  by_cases hpl : plOk s p = true
  · rw [if_pos hpl]
    have : tk s (nm s 2 p).2 36 = true := by simp only [plOk, Bool.and_eq_true] at hpl; exact hpl.2
    have := tk_lt this
    exact ⟨by simp; omega, fun _ => by simp; omega⟩
  · rw [if_neg hpl]; exact ⟨Int.le_refl _, fun h => h⟩
theorem pwB_pos {s : ByteArray} {c : Cv} {p : Int} (h : (pwB s c p).1 = true) : p < (pwB s c p).2.2 ∧ (pwB s c p).2.2 ≤ s.size := by
  unfold pwB at h ⊢
  by_cases h1 : tk s p 46 = true
  · rw [if_pos h1] at h ⊢
    by_cases h2 : tk s (p + 1) 42 = true
    · rw [if_pos h2] at h ⊢; have := fin_pos h; rw [this.2]; omega
    · rw [if_neg h2] at h ⊢
      by_cases h3 : (nm s 3 (p + 1)).1 < 0
      · rw [if_pos h3] at h; cases h
      · rw [if_neg h3] at h ⊢; have := fin_pos h; have np := nm_pos s 3 (p + 1); rw [this.2]; omega
  · rw [if_neg h1] at h ⊢; have := fin_pos h; rw [this.2]; omega
theorem pwA_pos {s : ByteArray} {c : Cv} {p : Int} (h : (pwA s c p).1 = true) : p < (pwA s c p).2.2 ∧ (pwA s c p).2.2 ≤ s.size := by
  unfold pwA at h ⊢
  by_cases h1 : tk s p 42 = true
  · rw [if_pos h1] at h ⊢; have := pwB_pos h; omega
  · rw [if_neg h1] at h ⊢; have := pwB_pos h; have := wd_pos s p; omega
theorem pwr_pos {s : ByteArray} {a p : Int} (h : (pwr s a p).1 = true) : p < (pwr s a p).2.2 ∧ (pwr s a p).2.2 ≤ s.size := by
  unfold pwr at h ⊢
  by_cases h1 : tk s p 37 = true
  · rw [if_pos h1]; have := tk_lt h1; simp; omega
  · rw [if_neg h1] at h ⊢
    have := pwA_pos h
    have h2 := flE_pos s (plc s p).2
    have h3 := plc_pos s p
    omega
theorem nx_pos {s : ByteArray} {p : Int} (h : nx s p ≠ 0) : p < s.size := by
  unfold nx at h
  by_cases hp : p < s.size
  · exact hp
  · rw [if_neg hp] at h; exact absurd rfl h
theorem byE_pos {s : ByteArray} {p : Int} (hp0 : 0 ≤ p) (hp : p ≤ s.size) (h : 0 ≤ byE s p) : p ≤ byB s p ∧ byB s p + byE s p + 1 ≤ s.size := by
  have a := skp_pos (s := s) (p := p) (c := 94)
  have b := skp_pos (s := s) (p := skp s p 94) (c := 93)
  have hb : p ≤ byB s p ∧ byB s p ≤ s.size := by unfold byB; exact ⟨by omega, b.2.2 (a.2.2 hp)⟩
  have hle : byE s p < ((s.extract (byB s p).toNat s.size).data.toList.length : Int) ∨ byE s p < 0 := ix_lt (s.extract (byB s p).toNat s.size).data.toList 93
  rw [show (s.extract (byB s p).toNat s.size).data.toList.length = s.size - (byB s p).toNat from by simp] at hle
  omega
theorem rdr_pos {s : ByteArray} {a p : Int} (hp0 : 0 ≤ p) (h : (rdr s a p).1 = true) : p < (rdr s a p).2.2 ∧ (rdr s a p).2.2 ≤ s.size := by
  have w1 := wd_pos s (skp s p 42)
  have w2 := skp_pos (s := s) (p := p) (c := 42)
  unfold rdr at h ⊢
  simp only at h ⊢
  have hn : ∀ c : Int, c ≠ 0 → nx s (wd s (skp s p 42)).2 = c → (wd s (skp s p 42)).2 < s.size := fun c hc h => nx_pos (by rw [h]; exact hc)
  generalize nx s (wd s (skp s p 42)).2 = ch at *
  generalize hq : (wd s (skp s p 42)).2 = q at *
  by_cases h1 : ch = 100 ∨ ch = 120 ∨ ch = 111 ∨ ch = 98 ∨ ch = 115
  · rw [if_pos h1]; have := hn ch (by omega) rfl; simp; omega
  · rw [if_neg h1] at h ⊢
    by_cases h2 : ch = 99 ∨ ch = 110
    · rw [if_pos h2]; have := hn ch (by omega) rfl; simp; omega
    · rw [if_neg h2] at h ⊢
      by_cases h3 : ch = 37
      · rw [if_pos h3]; have := hn ch (by omega) rfl; simp; omega
      · rw [if_neg h3] at h ⊢
        by_cases h4 : ch = 91
        · rw [if_pos h4] at h ⊢
          have := hn ch (by omega) rfl
          have hE : 0 ≤ byE s (q + 1) := of_decide_eq_true h
          have := byE_pos (s := s) (p := q + 1) (by omega) (by omega) hE
          simp; omega
        · rw [if_neg h4] at h; cases h
theorem pcv_pos {s : ByteArray} {scan : Bool} {p : Nat} (hp : p < s.size) (h : (pcv s scan p).1 = true) : (p : Int) < (pcv s scan p).2.2 ∧ (pcv s scan p).2.2 ≤ s.size := by
  unfold pcv at h ⊢
  cases scan with
  | true => have := rdr_pos (by omega) h; exact ⟨by have := this.1; simp at this ⊢; omega, this.2⟩
  | false => have := pwr_pos h; exact ⟨by have := this.1; simp at this ⊢; omega, this.2⟩
theorem txI_le (s : ByteArray) (p : Nat) (hp : p < s.size) : txI s p < (s.size : Int) - p ∧ -1 ≤ txI s p := by
  unfold txI ix
  rcases indexByte_spec (Int.toNat 37).toUInt8 (s.extract p s.size).data.toList with ⟨h1, _⟩ | ⟨k, h1, h2, _⟩
  · omega
  · rw [show (s.extract p s.size).data.toList.length = s.size - p from by simp] at h2; omega
theorem ix_calls' (s : ByteArray) (c : Int) (w : World) : Calls Tryz.prog 48 #[.string s, .int .u8 c] w fun e w' => e = .returned (.int .i64 (ix s.data.toList c)) ∧ w = w' := (ix_calls s c w).mono fun _ _ h => ⟨h.1, h.2.symm⟩
theorem belowS_chg2 {B R C : Nat} {a b : World} (h : Chg (S2 R C) a b) (hB : B ≤ a.heap.size) (h1 : B ≤ R) (h2 : B ≤ C) (n1 : ¬ Soft a R) (n2 : ¬ Soft a C) : BelowS B a b :=
  ⟨h.below hB (fun i hi => by rcases hi with rfl | rfl <;> omega), fun i hs => h.block i hs.lt (by rintro (rfl | rfl); exact n1 hs; exact n2 hs)⟩
set_option maxHeartbeats 4000000 in
set_option maxRecDepth 100000 in
theorem conv_iter (s : ByteArray) (hs : s.size ≤ 100000) (scan : Bool) (Bs Bsc : Nat) :
    IterP Tryz.prog 47 #[.pointer (some ⟨Bs, 0, none⟩), .pointer (some ⟨Bsc, 0, none⟩)] s.size (pstep s scan) encC badV (Caps s scan Bs Bsc) := by
  intro l J Jx Jp W hcap hJ hJx hJp hround h0
  refine (callsIn_wide (n := 0)).2 ?_
  obtain ⟨hc0, hc1⟩ := hcap 0 W h0
  go_enter Tryz.func47, Tryz.ntmps47
  go_wp2_with fail
  obtain ⟨n1, hn1⟩ : ∃ n, n = W.heap.size := ⟨_, rfl⟩
  have hR0 : RD (W.alloc (Obj.cells #[Value.string s, Value.int IntKind.i64 0] 94)) n1 s 0 := by
    rw [hn1]; exact World.alloc_heap_new W _
  have hJ0 : J 0 (W.alloc (Obj.cells #[Value.string s, Value.int IntKind.i64 0] 94)) := hJ _ _ _ h0 (BelowS.of_below ((Below.refl _ _).alloc (Nat.le_refl _) _) (Nat.le_refl _))
  have hz0 : n1 < (W.alloc (Obj.cells #[Value.string s, Value.int IntKind.i64 0] 94)).heap.size := by rw [hn1]; simp
  rw [← hn1] at hJ hJx hJp hround ⊢
  have HN := Lib.hid hn1
  have HJ := Lib.hid hJ
  have HCAP := Lib.hid hcap
  have HRO := Lib.hid hround
  clear hc0 hc1 h0 hn1 hJ hJx hJp hcap hround
  go_loopg [] s.size (fun g wr => ∃ p : Nat, p ≤ s.size ∧ g = s.size - p ∧ RD wr n1 s p ∧ J p wr ∧ n1 < wr.heap.size)
  case atStart => exact ⟨0, by omega, by omega, hR0, hJ0, hz0⟩
  case round =>
    obtain ⟨p, hp, hg, hR, hJp1, hsz⟩ := hrel
    have HG := Lib.hid hg
    clear hg hR0 hJ0 hz0
    have hcp := HCAP.out p wr hJp1
    have r1 := hR.c1
    have k0 := hcp.1
    by_cases hlt : p < s.size
    · have g1 : decide (p < s.size) = true := by simpa using hlt
      go_upto_region 1 with fail
      go_quiet (fail)
      have hR2 : RD (wr.drewN nq) n1 s p := hR
      have hJ2 : J p (wr.drewN nq) := HJ.out _ _ _ hJp1 ((BelowS.refl _ _).drewN _)
      have hz2 : n1 < (wr.drewN nq).heap.size := hsz
      have hc2 : Caps s scan Bs Bsc (wr.drewN nq) := hcp
      clear r1 k0 hcp hR hJp1 hsz
      generalize wr.drewN nq = V at *
      have r1 := hR2.c1
      have k0 := hc2.1
      have k1 := hc2.2
      go_upto_region 4 with fail
      obtain ⟨C, hC⟩ : ∃ C, C = V.heap.size := ⟨_, rfl⟩
      rw [← hC]
      have hCV : CV (V.alloc (Obj.cells #[Value.int IntKind.i64 p, Value.string { data := #[] }, Value.int IntKind.i64 0, Value.string { data := #[] }, Value.int IntKind.i64 0, Value.int IntKind.i64 0, Value.bool false, Value.bool false, Value.int IntKind.u8 0, Value.bool false, Value.string { data := #[] }] 51)) C { at_ := p } := by
        rw [hC]; exact World.alloc_heap_new V _
      have hb3 : BelowS n1 V (V.alloc (Obj.cells #[Value.int IntKind.i64 p, Value.string { data := #[] }, Value.int IntKind.i64 0, Value.string { data := #[] }, Value.int IntKind.i64 0, Value.int IntKind.i64 0, Value.bool false, Value.bool false, Value.int IntKind.u8 0, Value.bool false, Value.string { data := #[] }] 51)) := BelowS.of_below ((Below.refl _ _).alloc (Nat.le_refl _) _) (Nat.le_of_lt hz2)
      have hR3 : RD (V.alloc (Obj.cells #[Value.int IntKind.i64 p, Value.string { data := #[] }, Value.int IntKind.i64 0, Value.string { data := #[] }, Value.int IntKind.i64 0, Value.int IntKind.i64 0, Value.bool false, Value.bool false, Value.int IntKind.u8 0, Value.bool false, Value.string { data := #[] }] 51)) n1 s p := (Below.heap_alloc V _ _ hR2.lt).trans hR2
      have hne : n1 ≠ C := by rw [hC]; omega
      have hCge : n1 ≤ C := by rw [hC]; omega
      have hJ3 := HJ.out _ _ _ hJ2 hb3
      have hz3 : n1 < (V.alloc (Obj.cells #[Value.int IntKind.i64 p, Value.string { data := #[] }, Value.int IntKind.i64 0, Value.string { data := #[] }, Value.int IntKind.i64 0, Value.int IntKind.i64 0, Value.bool false, Value.bool false, Value.int IntKind.u8 0, Value.bool false, Value.string { data := #[] }] 51)).heap.size := by have := hb3.below.size; omega
      clear r1 k0 k1 hc2 hJ2 hR2 hb3
      generalize V.alloc (Obj.cells #[Value.int IntKind.i64 p, Value.string { data := #[] }, Value.int IntKind.i64 0, Value.string { data := #[] }, Value.int IntKind.i64 0, Value.int IntKind.i64 0, Value.bool false, Value.bool false, Value.int IntKind.u8 0, Value.bool false, Value.string { data := #[] }] 51) = X at *
      have HC := Lib.hid hC
      clear hC hz2
      have hc3 := HCAP.out p X hJ3
      have k0 := hc3.1
      have k1 := hc3.2
      have hpn : (p : Int) ≤ s.size := by omega
      go_wp2_with fail
      refine (ix_calls' _ _ _).mono ?_
      rintro e w' ⟨rfl, rfl⟩
      rw [show ix (s.extract p s.size).data.toList 37 = txI s p from rfl]
      have htl := txI_le s p hlt
      have HPS := Lib.hid (show pstep s scan p = (if txI s p = 0 then (if (pcv s scan p).1 then some ((pcv s scan p).2.1, (pcv s scan p).2.2.toNat) else none) else some ({ at_ := p, text := cut s p (p + txE s p) }, (p + txE s p).toNat)) from rfl)
      have HTE := Lib.hid (show txE s p = (if txI s p < 0 then (s.size : Int) - p else txI s p) from rfl)
      generalize txI s p = t at *
      go_upto_if 30 with fail
      go_cut [] (fun wx => ∃ (q : Nat) (cv : Cv), pstep s scan p = some (cv, q) ∧ p < q ∧ q ≤ s.size ∧ RD wx n1 s q ∧ CV wx C cv ∧ J p wx ∧ n1 < wx.heap.size)
      case first =>
        by_cases hz : t = 0
        · have g2 : (t != 0) = false := by rw [hz]; rfl
          have HPS2 := Lib.hid (show pstep s scan p = (if (pcv s scan p).1 then some ((pcv s scan p).2.1, (pcv s scan p).2.2.toNat) else none) from by rw [HPS.out, if_pos hz])
          have hpp := fun h => pcv_pos (s := s) (scan := scan) hlt h
          have HPP := Lib.hid hpp
          clear hz htl hpp
          have r1 := hR3.c1
          have f1 := blk_frozen hR3 1
          have e1 : ((p : Int) + 1) = ((p + 1 : Nat) : Int) := by omega
          have HB : Lib.hid (rfl : (1 : Nat) = 1) = Lib.hid rfl := rfl
          have hR4 : RD (X.setCell ⟨n1, 1, none⟩ (.int .i64 ((p : Int) + 1))) n1 s ((p : Int) + 1) := hR3.set_pos
          have hC4 : CV (X.setCell ⟨n1, 1, none⟩ (.int .i64 ((p : Int) + 1))) C { at_ := p } := hCV.set_ne hne
          have hJ4 : J p (X.setCell ⟨n1, 1, none⟩ (.int .i64 ((p : Int) + 1))) := HJ.out _ _ _ hJ3 ((BelowS.refl n1 X).setCell ⟨n1, 1, none⟩ _ (Nat.le_refl _) (not_soft_cells hR3 (by decide) (by decide)))
          clear e1 HB
          cases scan with
          | true =>
            go_wp2_with fail
            refine (read_calls _ n1 C hne s ((p : Int) + 1) p hs (by omega) (by omega) hR4 hC4).mono ?_
            rintro e w5 ⟨rfl, K5, h5⟩
            rw [show rdr s p ((p : Int) + 1) = pcv s true p from rfl] at h5 ⊢
            have hJ5 : J p w5 := HJ.out _ _ _ hJ4 (belowS_chg2 K5 (by simp; omega) (Nat.le_refl _) hCge (not_soft_cells hR4 (by decide) (by decide)) (not_soft_cells hC4 (by decide) (by decide)))
            have hz5 : n1 < w5.heap.size := by have := K5.size; simp at this; omega
            have H5 := Lib.hid h5
            clear h5 K5
            cases hok : (pcv s true p).1 with
            | true =>
              have HOK := Lib.hid hok
              clear hok
              go_wp2_with fail
              go_meet
              obtain ⟨o1, o2⟩ := HPP.out HOK.out
              obtain ⟨o3, o4⟩ := H5.out HOK.out
              refine ⟨(pcv s true p).2.2.toNat, (pcv s true p).2.1, by rw [HPS2.out, if_pos HOK.out], by omega, by omega, ?_, o4, hJ5, hz5⟩
              rw [show (((pcv s true p).2.2.toNat : Nat) : Int) = (pcv s true p).2.2 from by omega]; exact o3
            | false =>
              have HOK := Lib.hid hok
              clear hok
              go_wp2_with fail
              exact ⟨rfl, by rw [← HN.out]; omega, .inr ⟨_, rfl, .inr ⟨p, hlt, by rw [HPS2.out, if_neg (by simp [HOK.out])], rfl, hJ5⟩⟩⟩
          | false =>
            go_wp2_with fail
            refine (written_calls _ n1 C hne s ((p : Int) + 1) p hs (by omega) (by omega) hR4 hC4).mono ?_
            rintro e w5 ⟨rfl, K5, h5⟩
            rw [show pwr s p ((p : Int) + 1) = pcv s false p from rfl] at h5 ⊢
            have hJ5 : J p w5 := HJ.out _ _ _ hJ4 (belowS_chg2 K5 (by simp; omega) (Nat.le_refl _) hCge (not_soft_cells hR4 (by decide) (by decide)) (not_soft_cells hC4 (by decide) (by decide)))
            have hz5 : n1 < w5.heap.size := by have := K5.size; simp at this; omega
            have H5 := Lib.hid h5
            clear h5 K5
            cases hok : (pcv s false p).1 with
            | true =>
              have HOK := Lib.hid hok
              clear hok
              go_wp2_with fail
              go_meet
              obtain ⟨o1, o2⟩ := HPP.out HOK.out
              obtain ⟨o3, o4⟩ := H5.out HOK.out
              refine ⟨(pcv s false p).2.2.toNat, (pcv s false p).2.1, by rw [HPS2.out, if_pos HOK.out], by omega, by omega, ?_, o4, hJ5, hz5⟩
              rw [show (((pcv s false p).2.2.toNat : Nat) : Int) = (pcv s false p).2.2 from by omega]; exact o3
            | false =>
              have HOK := Lib.hid hok
              clear hok
              go_wp2_with fail
              exact ⟨rfl, by rw [← HN.out]; omega, .inr ⟨_, rfl, .inr ⟨p, hlt, by rw [HPS2.out, if_neg (by simp [HOK.out])], rfl, hJ5⟩⟩⟩
        · have g2 : (t != 0) = true := by simpa using hz
          have HPS2 := Lib.hid (show pstep s scan p = some ({ at_ := p, text := cut s p (p + txE s p) }, (p + txE s p).toNat) from by rw [HPS.out, if_neg hz])
          have r1 := hR3.c1
          have f1 := blk_frozen hR3 1
          have c1 := hCV.c1
          have d1 := blk_frozen hCV 1
          have fin : ∀ E : Int, txE s p = E → 1 ≤ E → E ≤ (s.size : Int) - p → ∃ (q : Nat) (cv : Cv), pstep s scan p = some (cv, q) ∧ p < q ∧ q ≤ s.size ∧ RD ((X.setCell ⟨C, 1, none⟩ (.string (cut s p (p + E)))).setCell ⟨n1, 1, none⟩ (.int .i64 (p + E))) n1 s q ∧ CV ((X.setCell ⟨C, 1, none⟩ (.string (cut s p (p + E)))).setCell ⟨n1, 1, none⟩ (.int .i64 (p + E))) C cv ∧ J p ((X.setCell ⟨C, 1, none⟩ (.string (cut s p (p + E)))).setCell ⟨n1, 1, none⟩ (.int .i64 (p + E))) ∧ n1 < ((X.setCell ⟨C, 1, none⟩ (.string (cut s p (p + E)))).setCell ⟨n1, 1, none⟩ (.int .i64 (p + E))).heap.size := by
            intro E hE h1 h2
            refine ⟨(p + E).toNat, { at_ := p, text := cut s p (p + E) }, by rw [HPS2.out, hE], by omega, by omega, ?_, ?_, ?_, by simpa using hz3⟩
            · rw [show (((p + E : Int).toNat : Nat) : Int) = p + E from by omega]
              exact (hR3.set_ne hne.symm).set_pos
            · exact CV.set_ne (heap_setCell_same hCV) hne
            · exact HJ.out _ _ _ hJ3 (((BelowS.refl n1 X).setCell ⟨C, 1, none⟩ _ hCge (not_soft_cells hCV (by decide) (by decide))).setCell ⟨n1, 1, none⟩ _ (Nat.le_refl _) (not_soft_cells (hR3.set_ne hne.symm) (by decide) (by decide)))
          by_cases hneg : t < 0
          · have g3 : decide (t < 0) = true := by simpa using hneg
            have hE : txE s p = (s.size : Int) - p := by rw [HTE.out, if_pos hneg]
            have FIN := Lib.hid (fin _ hE (by omega) (by omega))
            clear fin hE hz hneg htl
            go_wp2_with fail
            go_meet
            have hf := FIN.out
            rw [show cut s p (p + ((s.size : Int) - p)) = s.extract p s.size from by unfold cut; rw [show ((p : Int) + ((s.size : Int) - p)).toNat = s.size from by omega, Int.toNat_natCast]] at hf
            exact hf
          · have g3 : decide (t < 0) = false := by simpa using hneg
            have hE : txE s p = t := by rw [HTE.out, if_neg hneg]
            have t0 : 0 ≤ t := by omega
            have t1 : t ≤ (s.size : Int) - p := by omega
            have t2 : (p : Int) + t ≤ s.size := by omega
            have FIN := Lib.hid (fin _ hE (by omega) (by omega))
            clear fin hE hz hneg htl
            go_wp2_with fail
            go_meet
            exact FIN.out
      case rest =>
        obtain ⟨q, cv, hps, hpq, hq, hR6, hC6, hJ6, hz6⟩ := hcut
        obtain ⟨fn, tmps, assign, body, hy, hRd⟩ := HRO.out p cv q wc hJ6 (by omega) hlt hps
        have HPS3 := Lib.hid hps
        clear hps hR3 hCV hJ3 hz3 hc3 k0 k1 HPS HTE htl
        have c0 := hC6.c0
        have c1 := hC6.c1
        have c2 := hC6.c2
        have c3 := hC6.c3
        have c4 := hC6.c4
        have c5 := hC6.c5
        have c6 := hC6.c6
        have c7 := hC6.c7
        have c8 := hC6.c8
        have c9 := hC6.c9
        have c10 := hC6.c10
        simp only [encC, Cv.cells] at hy
        go_upto_region 16 with fail
        refine (wpIn_wide (n := 0)).1 ?_
        gi_wp2
        refine ⟨rfl, hRd.mono ?_⟩
        rintro e w7 ⟨K7, h7⟩
        have hR7 : RD w7 n1 s q := (K7.same n1 (Nat.le_refl _) hz6 (not_soft_cells hR6 (by decide) (by decide))).trans hR6
        have hz7 : n1 < w7.heap.size := by have := K7.size; omega
        rcases h7 with ⟨rfl, hJ7⟩ | ⟨rfl, hx⟩ | ⟨ch, rfl, hp⟩
        · gi_wp2
          go_wp2_with fail
          go_roundg (s.size - q)
          case measure => have := HG.out; omega
          case rel => exact ⟨q, hq, rfl, hR7, hJ7, hz7⟩
        · gi_wp2
          go_wp2_with fail
          refine bodyPost_ret (results_none rfl _ _ _) rfl ?_
          exact ⟨by rw [← HN.out]; omega, .inl ⟨rfl, .inr hx⟩⟩
        · gi_wp2
          exact ⟨rfl, by rw [← HN.out]; omega, .inr ⟨ch, rfl, .inl hp⟩⟩
    · have g1 : decide (p < s.size) = false := by simpa using hlt
      have hps : p = s.size := by omega
      have HPS := Lib.hid hps
      clear hps
      go_upto_region 1 with fail
      go_quiet (fail)
      have hJ2 : J p (wr.drewN nq) := HJ.out _ _ _ hJp1 ((BelowS.refl _ _).drewN _)
      go_wp2_with fail
      go_end0
      refine ⟨by rw [← HN.out]; exact Nat.le_of_lt hsz, .inl ⟨rfl, .inl ?_⟩⟩
      rw [← HPS.out]
      exact hJ2
end Go.Proofs.YtemogjpgkcbaiaaGreatDoor.Sp
end
section
namespace Go.Proofs.YtemogjpgkcbaiaaGreatDoor.Sp
open Go.RowKit Go.Proofs.YtemogjpgkcbaiaaGreatDoorW.PrintWords Go.Proofs.YtemogjpgkcbaiaaGreatDoorW.PrintLast Go.Proofs.YtemogjpgkcbaiaaGreatDoorW.PrintMore
set_option linter.unusedVariables false
set_option linter.unusedSimpArgs false
def I1 (w : World) (b : Nat) (t : Nat) (x : Int) : Prop := w.heap[b]? = some (.cells #[.int .i64 x] t (0, 0))
theorem I1.c {w : World} {b t : Nat} {x : Int} (h : I1 w b t x) : w.cell? ⟨b, 0, none⟩ = some (.int .i64 x) := cell_of h 0 rfl
theorem I1.lt {w : World} {b t : Nat} {x : Int} (h : I1 w b t x) : b < w.heap.size := (Array.getElem?_eq_some_iff.1 h).1
theorem I1.set {w : World} {b t : Nat} {x y : Int} (h : I1 w b t x) : I1 (w.setCell ⟨b, 0, none⟩ (.int .i64 y)) b t y := heap_setCell_same h
theorem I1.set_ne {w : World} {b c i t : Nat} {x : Int} {v : Value} (h : I1 w b t x) (hne : c ≠ b) : I1 (w.setCell ⟨c, i, none⟩ v) b t x :=
  (Below.heap_setCell w ⟨c, i, none⟩ v b (fun e => hne e.symm)).trans h
theorem I1.chg {S : Nat → Prop} {w w' : World} {b t : Nat} {x : Int} (h : I1 w b t x) (c : Chg S w w') (hs : ¬ S b) : I1 w' b t x := (c.block b h.lt hs).trans h
theorem ta_yes (v : Value) (w : World) : (Instr.typeAssert (.iface 58 v) 20 58 true).run Tryz.prog w = .ok (.tuple #[v, .bool true]) w := by kernel_rfl
theorem ta_nil (w : World) : (Instr.typeAssert .nilIface 20 58 true).run Tryz.prog w = .ok (.tuple #[.agg #[.int .i64 0, .int .i64 0], .bool false]) w := by kernel_rfl
end Go.Proofs.YtemogjpgkcbaiaaGreatDoor.Sp
end
section
namespace Go.Proofs.YtemogjpgkcbaiaaGreatDoor.Sp
open Go Go.RowKit
set_option linter.unusedVariables false
set_option linter.unusedSimpArgs false
variable {P : Program} {ops : Array Oper} {Q : Exit → Act → World → Prop} {md : Region.Mode}
def notDefer (o : Oper) : Bool := match o.op with
  | .defer _ => false
  | _ => true
theorem notDefer_spec {o : Oper} (h : notDefer o = true) : ∀ c, o.op ≠ .defer c := by
  intro c hc; unfold notDefer at h; rw [hc] at h; cases h
theorem opIn_of_op {lp i : Nat} {K K' : Act → World → Prop} {a : Act} {w : World} (hQ : ¬ LetsOut Q) (hnd : ∀ o, ops[i]? = some o → notDefer o = true)
    (hK : ∀ a w, K a w → K' a w) (h : wpOp P ops Q i K a w) : wpOpIn (Fence.wide.inRound lp) 0 P ops Q i K' a w := by
  unfold wpOp at h
  unfold wpOpIn
  cases ho : ops[i]? with
  | none => rw [ho] at h; exact hK _ _ h
  | some o =>
    rw [ho] at h
    simp only at h ⊢
    by_cases hw : Region.wanted o (yielded ops a.tmps) = true
    · rw [if_pos hw] at h ⊢
      rcases h with h | ⟨_, h⟩
      · refine ⟨fun _ _ => trivial, ?_⟩
        rw [show (Fence.wide.inRound lp).round = some lp from rfl, Oper.semAt_some lp _ _ (notDefer_spec (hnd o ho))]
        simp only [Oper.wp, Oper.upon] at h
        simp only [Oper.uponIn]
        generalize Sem.run P (execOp a.eval o) w = r at h ⊢
        split at h
        · exact hK _ _ h
        · exact hK _ _ h
        · exact hK _ _ h
        · rename_i f args w'
          refine ⟨fun h => (by cases h), (callsIn_wide (n := 0)).2 (h.mono ?_)⟩
          intro e w2 he
          cases e with
          | returned v => exact hK _ _ he
          | panicked ch => exact he
          | outgrown => exact he
        · rename_i row args w'
          refine ⟨fun h => (by cases h), fun c cs _ => ?_⟩
          obtain ⟨v, w2, h1, h2⟩ := h c cs
          exact ⟨v, w2, hK _ _ h1, stepsIn_wide.2 h2⟩
        · exact h
        · exact h.elim
      · exact absurd h hQ
    · rw [if_neg hw] at h ⊢
      exact ⟨fun _ _ => trivial, hK _ _ h⟩
theorem anyIn_of_any {lp : Nat} (hQ : ¬ LetsOut Q) (hnd : ∀ (i : Nat) (o : Oper), ops[i]? = some o → notDefer o = true) : ∀ (fuel : Nat) (listed : Array Bool) (a : Act) (w : World),
    wpAny P md ops Q fuel listed a w → wpAnyIn (Fence.wide.inRound lp) 0 P md ops Q fuel listed a w
  | 0, listed, a, w, h => h
  | fuel + 1, listed, a, w, h => ⟨h.1, fun i hi => opIn_of_op hQ (hnd i) (fun a' w' => anyIn_of_any hQ hnd fuel _ a' w') (h.2 i hi)⟩
def noDefer (l : List Oper) : Bool := l.all notDefer
theorem noDefer_spec {l : List Oper} (h : noDefer l = true) : ∀ (i : Nat) (o : Oper), l.toArray[i]? = some o → notDefer o = true := by
  intro i o ho
  simp only [List.getElem?_toArray] at ho
  exact List.all_eq_true.1 h o (List.mem_of_getElem? ho)
end Go.Proofs.YtemogjpgkcbaiaaGreatDoor.Sp
end
section
namespace Go.Proofs.YtemogjpgkcbaiaaGreatDoor.Sp
open Go.RowKit Go.Proofs.YtemogjpgkcbaiaaGreatDoorW.PrintWords Go.Proofs.YtemogjpgkcbaiaaGreatDoorW.PrintLast Go.Proofs.YtemogjpgkcbaiaaGreatDoorW.PrintMore
set_option linter.unusedVariables false
set_option linter.unusedSimpArgs false
set_option maxRecDepth 100000
def cvF (Bs Bsc : Nat) : Value := .func (.func 47) #[] #[.pointer (some ⟨Bs, 0, none⟩), .pointer (some ⟨Bsc, 0, none⟩)]
theorem conversions_calls (s : ByteArray) (scan : Bool) (w : World) :
    Calls Tryz.prog 22 #[.string s, .bool scan] w fun e w' => e = .returned (cvF w.heap.size (w.heap.size + 1)) ∧ Caps s scan w.heap.size (w.heap.size + 1) w' ∧ Chg (fun _ => False) w w' ∧ w'.heap.size = w.heap.size + 2 := by
  go_enter Tryz.func22, Tryz.ntmps22
  go_wp2
  go_ret
  refine ⟨rfl, ⟨?_, ?_⟩, ((Chg.refl _ _).alloc _).alloc _, by simp⟩
  · have := World.alloc_heap_new w (.cells #[.string s] 9)
    exact cell_of ((Below.heap_alloc _ _ _ (by simp)).trans this) 0 rfl
  · have := World.alloc_heap_new (w.alloc (.cells #[.string s] 9)) (.cells #[.bool scan] 4)
    rw [World.size_alloc] at this
    exact cell_of this 0 rfl
def B1 (w : World) (b : Nat) (x : Bool) : Prop := w.heap[b]? = some (.cells #[.bool x] 4 (0, 0))
theorem B1.c {w : World} {b : Nat} {x : Bool} (h : B1 w b x) : w.cell? ⟨b, 0, none⟩ = some (.bool x) := cell_of h 0 rfl
theorem B1.lt {w : World} {b : Nat} {x : Bool} (h : B1 w b x) : b < w.heap.size := (Array.getElem?_eq_some_iff.1 h).1
theorem B1.set {w : World} {b : Nat} {x y : Bool} (h : B1 w b x) : B1 (w.setCell ⟨b, 0, none⟩ (.bool y)) b y := heap_setCell_same h
theorem B1.set_ne {w : World} {b c i : Nat} {x : Bool} {v : Value} (h : B1 w b x) (hne : c ≠ b) : B1 (w.setCell ⟨c, i, none⟩ v) b x :=
  (Below.heap_setCell w ⟨c, i, none⟩ v b (fun e => hne e.symm)).trans h
theorem B1.chg {S : Nat → Prop} {w w' : World} {b : Nat} {x : Bool} (h : B1 w b x) (c : Chg S w w') (hs : ¬ S b) : B1 w' b x := (c.block b h.lt hs).trans h
def ub : Nat → Int → Int
  | 0, n => n
  | m + 1, n => ub m (10 * n + 9)
theorem ub_mono : ∀ (m : Nat) (a b : Int), a ≤ b → ub m a ≤ ub m b
  | 0, a, b, h => h
  | m + 1, a, b, h => ub_mono m _ _ (by omega)
theorem ub_ge : ∀ (m : Nat) (a : Int), 0 ≤ a → a ≤ ub m a
  | 0, a, h => Int.le_refl _
  | m + 1, a, h => Int.le_trans (by omega) (ub_ge m (10 * a + 9) (by omega))
theorem nmGo_le (s : ByteArray) : ∀ (m : Nat) (n p : Int), 0 ≤ n → (nmGo s m n p).1 ≤ ub m n
  | 0, n, p, h => Int.le_refl _
  | m + 1, n, p, h => by
    by_cases hc : p < s.size ∧ isDig (bt s p) = true
    · rw [show nmGo s (m + 1) n p = nmGo s m (10 * n + (bt s p - 48)) (p + 1) from if_pos hc]
      have := isDig_iff.1 hc.2
      exact Int.le_trans (nmGo_le s m _ _ (by omega)) (ub_mono m _ _ (by omega))
    · rw [show nmGo s (m + 1) n p = (n, p) from if_neg hc]
      exact ub_ge (m + 1) n h
theorem nm_le2 (s : ByteArray) (p : Int) : -1 ≤ (nm s 2 p).1 ∧ (nm s 2 p).1 ≤ 99 := by
  have h := nmGo_le s 2 0 p (by omega)
  have h0 := (nmGo_pos s 2 0 p).2.2.2 (by omega)
  rw [show ub 2 0 = 99 from rfl] at h
  unfold nm
  split <;> simp <;> omega
theorem nm_le3 (s : ByteArray) (p : Int) : -1 ≤ (nm s 3 p).1 ∧ (nm s 3 p).1 ≤ 999 := by
  have h := nmGo_le s 3 0 p (by omega)
  have h0 := (nmGo_pos s 3 0 p).2.2.2 (by omega)
  rw [show ub 3 0 = 999 from rfl] at h
  unfold nm
  split <;> simp <;> omega
def plR (s : ByteArray) (p : Nat) (n : Int) (pl ot : Bool) : Except Nat Int :=
  if h : p < s.size then
    match pstep s false p with
    | none => .error p
    | some (c, q) =>
      if hq : p < q then
        if c.letter = 0 ∨ c.letter = 37 then plR s q n pl ot
        else if (pl || decide (c.place > 0)) && ((ot || c.place == 0) || c.wide || c.precise) then .error p
        else plR s q ((if (pl || decide (c.place > 0)) then max (n + 1 - 1) c.place else n + 1) + (if c.wide then 1 else 0) + (if c.precise then 1 else 0)) (pl || decide (c.place > 0)) (ot || c.place == 0)
      else .error p
  else .ok n
termination_by s.size - p
theorem plc_val (s : ByteArray) (p : Int) : 0 ≤ (plc s p).1 ∧ (plc s p).1 ≤ 99 := by
  have h := nm_le2 s p
  unfold plc
  by_cases hpl : plOk s p = true
  · rw [if_pos hpl]
    simp only [plOk, Bool.and_eq_true, decide_eq_true_eq] at hpl
    exact ⟨by simp; omega, h.2⟩
  · rw [if_neg hpl]; simp
theorem pwB_keeps (s : ByteArray) (c : Cv) (p : Int) : (pwB s c p).2.1.at_ = c.at_ ∧ (pwB s c p).2.1.place = c.place := by
  unfold pwB fin
  split
  · split
    · exact ⟨rfl, rfl⟩
    · split <;> exact ⟨rfl, rfl⟩
  · exact ⟨rfl, rfl⟩
theorem pwA_keeps (s : ByteArray) (c : Cv) (p : Int) : (pwA s c p).2.1.at_ = c.at_ ∧ (pwA s c p).2.1.place = c.place := by
  unfold pwA
  split <;> exact pwB_keeps _ _ _
theorem pwr_keeps (s : ByteArray) (a p : Int) : (pwr s a p).2.1.at_ = a ∧ 0 ≤ (pwr s a p).2.1.place ∧ (pwr s a p).2.1.place ≤ 99 := by
  unfold pwr
  split
  · simp
  · have := pwA_keeps s { at_ := a, place := (plc s p).1, flags := cut s (plc s p).2 (flE s (plc s p).2), width := -1, prec := -1 } (flE s (plc s p).2)
    rw [this.1, this.2]
    have := plc_val s p
    exact ⟨rfl, this.1, this.2⟩
theorem rdr_keeps (s : ByteArray) (a p : Int) : (rdr s a p).2.1.at_ = a ∧ (rdr s a p).2.1.place = 0 := by
  unfold rdr
  simp only
  split
  · exact ⟨rfl, rfl⟩
  · split
    · exact ⟨rfl, rfl⟩
    · split
      · exact ⟨rfl, rfl⟩
      · split <;> exact ⟨rfl, rfl⟩
theorem pstep_facts {s : ByteArray} {scan : Bool} {p q : Nat} {c : Cv} (h : p < s.size) (hst : pstep s scan p = some (c, q)) : p < q ∧ q ≤ s.size ∧ c.at_ = p ∧ 0 ≤ c.place ∧ c.place ≤ 99 := by
  unfold pstep at hst
  by_cases ht : txI s p = 0
  · rw [if_pos ht] at hst
    by_cases hok : (pcv s scan p).1 = true
    · rw [if_pos hok] at hst
      have hp := pcv_pos h hok
      simp only [Option.some.injEq, Prod.mk.injEq] at hst
      obtain ⟨rfl, rfl⟩ := hst
      refine ⟨by omega, by omega, ?_⟩
      unfold pcv
      cases scan with
      | true => have := rdr_keeps s p (p + 1); simp [this]
      | false => exact pwr_keeps s p (p + 1)
    · rw [if_neg hok] at hst; cases hst
  · rw [if_neg ht] at hst
    have hl := txI_le s p h
    have : 1 ≤ txE s p ∧ txE s p ≤ (s.size : Int) - p := by
      unfold txE; split <;> omega
    simp only [Option.some.injEq, Prod.mk.injEq] at hst
    obtain ⟨rfl, rfl⟩ := hst
    refine ⟨by omega, by omega, rfl, by simp, by simp⟩
theorem leave_mark {fn : Func} {tmps : Array Value} {R : Ending → World → Prop} {r : Nat} {u : FrameMode} {w : World} {ds : List Deferred} (hu : u ≠ .run) (hD : w.heap[r]? = some (.deferred (some [])))
    (h : LeavesInM Fence.wide 0 Tryz.prog fn tmps R ds u (w.putObj r (.deferred none))) : LeavesInM Fence.wide 0 Tryz.prog fn tmps R ({ target := .collected r, args := #[] } :: ds) u w :=
  ⟨hu, .inl ⟨r, _, rfl, run_takeDeferred hD, h⟩⟩
theorem chg_of_mark {w W : World} {r b : Nat} (h : Below b w W) (hb : b = w.heap.size) (hr : b ≤ r) (o : Obj) : Chg (fun _ => False) w (W.putObj r o) :=
  Chg.of_below (by rw [← hb]; exact h.trans (below_putObj hr))
attribute [local go_sem] Oper.semAt_some
end Go.Proofs.YtemogjpgkcbaiaaGreatDoor.Sp
end
section
namespace Go.Proofs.YtemogjpgkcbaiaaGreatDoor.Sp
open Go.RowKit Go.Proofs.YtemogjpgkcbaiaaGreatDoorW.PrintWords Go.Proofs.YtemogjpgkcbaiaaGreatDoorW.PrintLast Go.Proofs.YtemogjpgkcbaiaaGreatDoorW.PrintMore
set_option linter.unusedVariables false
set_option linter.unusedSimpArgs false
theorem leavesM_cons {fn : Func} {tmps : Array Value} {R : Ending → World → Prop} {fv : Fn} {cap dargs : Array Value} {ds : List Deferred} {u : FrameMode}
    {w : World} {f : FuncId} {args : Array Value} (hu : u ≠ .run) (hi : (invoke (.fn fv cap) dargs).run Tryz.prog w = .ok (.enter f args) w)
    (h : CallsDIn Fence.wide 0 Tryz.prog f args u w fun
      | .returned _, u', w' => LeavesInM Fence.wide 0 Tryz.prog fn tmps R ds (settle u') w'
      | .panicked chain, u', w' => LeavesInM Fence.wide 0 Tryz.prog fn tmps R ds (raised u' chain) w'
      | .outgrown, _, w' => R .outgrown w') :
    LeavesInM Fence.wide 0 Tryz.prog fn tmps R ({ target := .fn fv cap, args := dargs } :: ds) u w :=
  ⟨hu, .inr ⟨fun h => (by cases h), fv, cap, f, args, rfl, hi, fun g _ => trivial, h⟩⟩
set_option maxHeartbeats 2000000 in
set_option maxRecDepth 100000 in
theorem caughtIn_panicking (A E : Nat) (hAE : A ≠ E) (a0 e0 at_ e : Int) (older : List PanicEntry) (w : World) (hA : I1 w A 3 a0) (hE : I1 w E 25 e0) :
    CallsDIn Fence.wide 0 Tryz.prog 19 #[.pointer (some ⟨A, 0, none⟩), .pointer (some ⟨E, 0, none⟩)] (.panicking ({ v := .iface 58 (.agg #[.int .i64 at_, .int .i64 e]), recovered := false } :: older)) w fun en u' w' =>
      en = .returned (.tuple #[]) ∧ u' = .panicking ({ v := .iface 58 (.agg #[.int .i64 at_, .int .i64 e]), recovered := true } :: older) ∧ Chg (S2 A E) w w' ∧ I1 w' A 3 at_ ∧ I1 w' E 25 e := by
  have hEA : E ≠ A := hAE.symm
  refine callsDIn_of_wpSIn Tryz.func19 rfl trivial fun c₀ cs hu => ?_
  simp only [Tryz.ntmps19, List.size_toArray, List.length_cons, List.length_nil, Nat.reduceAdd, Nat.reduceSub, Array.replicate_succ, Array.replicate_zero, List.push_toArray, List.append_toArray, List.nil_append, List.cons_append]
  apply wpSIn_seq
  apply wpSIn_region
  have h1 := ta_yes (.agg #[.int .i64 at_, .int .i64 e])
  simp [wpOpsSIn, go_sem, recoverD, hu, Exit.thenS, h1]
  refine wpSIn_of_wpIn rfl ?_
  refine (wpIn_wide (n := 0)).2 ?_
  have hA1 : I1 (w.alloc (Obj.cells #[Value.int IntKind.i64 at_, Value.int IntKind.i64 e] 58)) A 3 a0 := (Below.heap_alloc w _ _ hA.lt).trans hA
  have hE1 : I1 (w.alloc (Obj.cells #[Value.int IntKind.i64 at_, Value.int IntKind.i64 e] 58)) E 25 e0 := (Below.heap_alloc w _ _ hE.lt).trans hE
  have hP1 : (w.alloc (Obj.cells #[Value.int IntKind.i64 at_, Value.int IntKind.i64 e] 58)).heap[w.heap.size]? = some (.cells #[Value.int IntKind.i64 at_, Value.int IntKind.i64 e] 58 (0, 0)) := World.alloc_heap_new w _
  have K1 : Chg (S2 A E) w (w.alloc (Obj.cells #[Value.int IntKind.i64 at_, Value.int IntKind.i64 e] 58)) := (Chg.refl _ _).alloc _
  have hPA : w.heap.size ≠ A := by have := hA.lt; omega
  have hPE : w.heap.size ≠ E := by have := hE.lt; omega
  obtain ⟨P, hP⟩ : ∃ P, P = w.heap.size := ⟨_, rfl⟩
  rw [← hP] at hP1 hPA hPE ⊢
  clear hP
  generalize w.alloc (Obj.cells #[Value.int IntKind.i64 at_, Value.int IntKind.i64 e] 58) = W at *
  have hAP := hPA.symm
  have hEP := hPE.symm
  have a1 := hA1.c
  have e1 := hE1.c
  have p0 := cell_of hP1 0 rfl
  have p1 := cell_of hP1 1 rfl
  have fa := blk_frozen hA1 0
  have fe := blk_frozen hE1 0
  clear h1
  go_wp2
  go_region
  all_goals
    refine ⟨rfl, _, rfl, _, by simp [results, Tryz.results19, go_sem], rfl, rfl, ?_, ?_, ?_⟩
    · exact ((K1.setCell ⟨A, 0, none⟩ _ (.inl (.inl rfl))).setCell ⟨E, 0, none⟩ _ (.inl (.inr rfl))).drew
    · exact (hA1.set).set_ne hEA
    · exact (hE1.set_ne hAE).set
set_option maxRecDepth 100000 in
theorem caughtIn_idle (A E : Nat) (w : World) :
    CallsDIn Fence.wide 0 Tryz.prog 19 #[.pointer (some ⟨A, 0, none⟩), .pointer (some ⟨E, 0, none⟩)] .returning w fun en u' w' =>
      en = .returned (.tuple #[]) ∧ u' = .returning ∧ Chg (fun _ => False) w w' := by
  refine callsDIn_of_wpSIn Tryz.func19 rfl trivial fun c₀ cs hu => ?_
  simp only [Tryz.ntmps19, List.size_toArray, List.length_cons, List.length_nil, Nat.reduceAdd, Nat.reduceSub, Array.replicate_succ, Array.replicate_zero, List.push_toArray, List.append_toArray, List.nil_append, List.cons_append]
  apply wpSIn_seq
  apply wpSIn_region
  have h1 := ta_nil
  simp [wpOpsSIn, go_sem, recoverD, hu, Exit.thenS, h1]
  refine wpSIn_of_wpIn rfl ?_
  refine (wpIn_wide (n := 0)).2 ?_
  go_wp2
  cases c₀
  simp only at hu
  subst hu
  refine ⟨rfl, _, rfl, _, by simp [results, Tryz.results19, go_sem], rfl, rfl, ?_⟩
  exact (Chg.refl _ _).alloc _
end Go.Proofs.YtemogjpgkcbaiaaGreatDoor.Sp
end
section
namespace Go.Proofs.YtemogjpgkcbaiaaGreatDoor.Sp
open Go.RowKit Go.Proofs.YtemogjpgkcbaiaaGreatDoorW.PrintWords Go.Proofs.YtemogjpgkcbaiaaGreatDoorW.PrintLast Go.Proofs.YtemogjpgkcbaiaaGreatDoorW.PrintMore
set_option linter.unusedVariables false
set_option linter.unusedSimpArgs false
set_option maxRecDepth 100000
def ckR (s : ByteArray) (p : Nat) : Option Nat :=
  if h : p < s.size then
    match pstep s true p with
    | none => some p
    | some (c, q) => if hq : p < q then ckR s q else some p
  else none
termination_by s.size - p
theorem ckR_step {s : ByteArray} {p : Nat} {c : Cv} {q : Nat} (h : p < s.size) (hst : pstep s true p = some (c, q)) (hq : p < q) : ckR s p = ckR s q := by
  rw [ckR, dif_pos h]
  simp only [hst, dif_pos hq]
theorem ckR_bad {s : ByteArray} {p : Nat} (h : p < s.size) (hst : pstep s true p = none) : ckR s p = some p := by
  rw [ckR, dif_pos h]
  simp only [hst]
theorem ckR_end {s : ByteArray} : ckR s s.size = none := by
  rw [ckR, dif_neg (by omega)]
def ck (s : ByteArray) (scan : Bool) : Int × Int :=
  if scan then match ckR s 0 with
    | none => (0, 0)
    | some p => (p, 2)
  else match plR s 0 0 false false with
    | .ok _ => (0, 0)
    | .error p => (p, 2)
def JC (s : ByteArray) (b : Nat) (w : World) (p : Nat) (W : World) : Prop :=
  I1 W b 3 0 ∧ I1 W (b + 1) 25 0 ∧ Caps s true (b + 1 + 1) (b + 1 + 1 + 1) W ∧ ckR s p = ckR s 0 ∧ Below b w W
theorem check_true (s : ByteArray) (hs : s.size ≤ 100000) (w : World) :
    Calls Tryz.prog 11 #[.string s, .bool true] w fun e w' => e = .returned (.tuple #[.int .i64 (ck s true).1, .int .i64 (ck s true).2]) ∧ Chg (fun _ => False) w w' := by
  refine calls_of_wpV Tryz.func11 rfl ?_
  simp only [Tryz.ntmps11, List.size_toArray, List.length_cons, List.length_nil, Nat.reduceAdd, Nat.reduceSub, Array.replicate_succ, Array.replicate_zero, List.push_toArray, List.append_toArray, List.nil_append, List.cons_append]
  refine wpV_seq_in fun K hK => ?_
  refine (wpIn_wide (n := 0)).2 ?_
  go_wp2_with fail
  refine wpV_seq_in fun K hK => ?_
  refine (wpIn_wide (n := 0)).2 ?_
  go_wp2_with fail
  refine wpV_seq ?_
  refine wpV_seq_in fun K hK => ?_
  refine (wpIn_wide (n := 0)).2 ?_
  go_wp2_with fail
  refine wpV_cond rfl ?_
  show wpV _ _ (Code.seq _ _) _ _ _
  refine wpV_seq ?_
  refine wpV_seq_in fun K hK => ?_
  refine (wpIn_wide (n := 0)).2 ?_
  go_wp2_with fail
  obtain ⟨W0, hW0⟩ : ∃ W0, W0 = ((w.alloc (Obj.cells #[Value.int IntKind.i64 0] 3)).alloc (Obj.cells #[Value.int IntKind.i64 0] 25)) := ⟨_, rfl⟩
  have h2 : I1 W0 w.heap.size 3 0 := by rw [hW0]; exact (Below.heap_alloc _ _ _ (by simp)).trans (World.alloc_heap_new w _)
  have h3 : I1 W0 (w.heap.size + 1) 25 0 := by
    rw [hW0]; have := World.alloc_heap_new (w.alloc (Obj.cells #[Value.int IntKind.i64 0] 3)) (.cells #[.int .i64 0] 25)
    rw [World.size_alloc] at this
    exact this
  have k0 : Chg (fun _ => False) w W0 := by rw [hW0]; exact (((Chg.refl _ w).alloc _).alloc _)
  have z0 : W0.heap.size = w.heap.size + 1 + 1 := by rw [hW0]; simp
  rw [← hW0]
  clear hW0
  obtain ⟨b, hb⟩ : ∃ b, b = w.heap.size := ⟨_, rfl⟩
  rw [← hb] at h2 h3 z0 ⊢
  have b3 : b ≠ b + 1 := by omega
  have HB := Lib.hid hb
  clear hb
  refine (conversions_calls _ _ _).mono ?_
  rintro e w1 ⟨rfl, hcap, hk, hz⟩
  have g2 := h2.chg hk (fun h => h)
  have g3 := h3.chg hk (fun h => h)
  have hb1 : Below b w w1 := (k0.below (by rw [HB.out]; exact Nat.le_refl _) (fun _ h => h.elim)).trans (hk.below (by omega) (fun _ h => h.elim))
  rw [z0] at hcap hz ⊢
  clear h2 h3 hk k0
  have HZ0 := Lib.hid z0
  have HZ := Lib.hid hz
  clear z0 hz
  go_wp2_with fail
  have hz := HZ.out
  refine wpV_block ?_
  refine range_P Tryz.func11 (gf := 47) rfl (enters_of Tryz.func47 (by kernel_rfl) rfl) (conv_iter s hs true (b + 1 + 1) (b + 1 + 1 + 1)) (by intro x; rfl)
    (JC s b w) (fun _ _ => False) (fun _ _ => False)
    ?_ (fun _ _ _ h => h.elim) (fun _ _ _ h => h.elim) ?_ ?_
    (fun c a1 W => a1.defers = []) (fun _ _ _ _ _ _ _ h => h) ?_ ?_ ?_ ?_ ?_
  · rintro p A B ⟨i2, i3, ⟨c0, c1⟩, hck, hbw⟩ hbb
    have e := fun i (hi : i < w1.heap.size) => hbb.below.block i hi
    refine ⟨(e _ (by omega)).trans i2, (e _ (by omega)).trans i3, ⟨?_, ?_⟩, hck, hbw.trans (hbb.below.mono (by omega))⟩
    · exact (World.cell?_of_block (e (b + 1 + 1) (by omega))).trans c0
    · exact (World.cell?_of_block (e (b + 1 + 1 + 1) (by omega))).trans c1
  · rintro p A ⟨i2, i3, hc, _⟩; exact hc
  · exact ⟨g2, g3, hcap, rfl, hb1⟩
  · intro l x W hle
    gi_wp2
    exact ⟨Below.refl _ _, trivial⟩
  · rintro l p c q a1 W ⟨i2, i3, hc, hck, hbw⟩ hle hp hst ha
    have hpq := (pstep_facts hp hst).1
    have HC := Lib.hid ((ckR_step hp hst hpq).symm.trans hck)
    clear hst hck
    gi_wp2
    exact ⟨KeepHi.refl _ _, i2, i3, hc, HC.out, hbw⟩
  · rintro W ⟨i2, i3, hc, hck, hbw⟩ hle hD
    rw [ckR_end] at hck
    have HN := Lib.hid (show ck s true = (0, 0) by simp only [ck, ← hck]; rfl)
    clear hck
    have c2 := i2.c
    have c3 := i3.c
    have f2 := blk_frozen i2 0
    have f3 := blk_frozen i3 0
    have HD := Lib.hid hD
    have hlt : w1.heap.size < W.heap.size := (Array.getElem?_eq_some_iff.1 hD).1
    clear hD
    show wpV _ _ _ _ _ _
    refine wpV_of_wpIn ?_
    refine (wpIn_wide (n := 0)).2 ?_
    clear hz
    go_wp2_with fail
    have hz := HZ.out
    obtain ⟨W3, hW3⟩ : ∃ W3, W3 = (W.setCell ⟨b, 0, none⟩ (.int .i64 0)).setCell ⟨b + 1, 0, none⟩ (.int .i64 0) := ⟨_, rfl⟩
    have l2 : I1 W3 b 3 0 := by rw [hW3]; exact I1.set_ne (I1.set i2) b3.symm
    have l3 : I1 W3 (b + 1) 25 0 := by rw [hW3]; exact I1.set (I1.set_ne i3 b3)
    have hb3 : Below b w W3 := by rw [hW3]; exact ((hbw.setCell (p := ⟨b, 0, none⟩) (Nat.le_refl _)) _).setCell (p := ⟨b + 1, 0, none⟩) (by simp) _
    have hD3 : W3.heap[w1.heap.size]? = some (.deferred (some [])) := by
      rw [hW3]; exact (Below.heap_setCell _ _ _ _ (by simp; omega)).trans ((Below.heap_setCell _ _ _ _ (by simp; omega)).trans HD.out)
    show LeavesInM _ _ _ _ _ _ _ _ _
    rw [← hW3]
    refine leave_mark (by intro h; cases h) hD3 ?_
    have hk3 := chg_of_mark (r := w1.heap.size) hb3 HB.out (by omega) (.deferred none)
    refine leavesM_cons (by intro h; cases h) (by simp [invoke, go_sem]) ((caughtIn_idle b (b + 1) _).mono ?_)
    rintro e u' w2 ⟨rfl, rfl, k2⟩
    have j2 : I1 w2 b 3 0 := I1.chg ((World.putObj_heap_other (by omega)).trans l2) k2 (fun h => h)
    have j3 : I1 w2 (b + 1) 25 0 := I1.chg ((World.putObj_heap_other (by omega)).trans l3) k2 (fun h => h)
    have d2 := j2.c
    have d3 := j3.c
    refine ⟨.tuple #[.int .i64 0, .int .i64 0], ?_, ?_, hk3.trans k2⟩
    · simp [results, Tryz.f11, Tryz.results11, go_sem, d2, d3]
    · rw [HN.out]
  · intro c W h; exact h.elim
  · rintro ch W (h | ⟨p, hp, hst, rfl, i2, i3, hc, hck, hbw⟩) hle hD
    · exact h.elim
    rw [ckR_bad hp hst] at hck
    have HN := Lib.hid (show ck s true = ((p : Int), 2) by simp only [ck, ← hck]; rfl)
    clear hck
    have hlt : w1.heap.size < W.heap.size := (Array.getElem?_eq_some_iff.1 hD).1
    show LeavesInM _ _ _ _ _ _ _ _ _
    refine leave_mark (by intro h; cases h) hD ?_
    have hk3 := chg_of_mark (r := w1.heap.size) hbw HB.out (by omega) (.deferred none)
    refine leavesM_cons (by intro h; cases h) (by simp [invoke, go_sem]) ((caughtIn_panicking b (b + 1) b3 0 0 p 2 [] _ ((World.putObj_heap_other (by omega)).trans i2) ((World.putObj_heap_other (by omega)).trans i3)).mono ?_)
    rintro e u' w2 ⟨rfl, rfl, k2, j2, j3⟩
    have k02 : Chg (fun _ => False) w w2 := hk3.trans' k2 (by rintro i (h | h) <;> exact .inr (by have := HB.out; omega))
    have d2 := j2.c
    have d3 := j3.c
    show LeavesInM _ _ _ _ _ _ _ .returning _
    refine ⟨.tuple #[.int .i64 p, .int .i64 2], ?_, ?_, k02⟩
    · simp [results, Tryz.f11, Tryz.results11, go_sem, d2, d3]
    · rw [HN.out]
end Go.Proofs.YtemogjpgkcbaiaaGreatDoor.Sp
end
section
namespace Go.Proofs.YtemogjpgkcbaiaaGreatDoor.Sp
open Go.RowKit Go.Proofs.YtemogjpgkcbaiaaGreatDoorW.PrintWords Go.Proofs.YtemogjpgkcbaiaaGreatDoorW.PrintLast Go.Proofs.YtemogjpgkcbaiaaGreatDoorW.PrintMore
set_option linter.unusedVariables false
set_option linter.unusedSimpArgs false
set_option maxRecDepth 100000
def tells (c : Cv) : Bool := (c.letter != 0) && (c.letter != 37) && !c.quiet
def rcR (s : ByteArray) (p : Nat) (n : Int) : Int :=
  if h : p < s.size then
    match pstep s true p with
    | none => n
    | some (c, q) => if hq : p < q then rcR s q (if tells c then n + 1 else n) else n
  else n
termination_by s.size - p
theorem rcR_step {s : ByteArray} {p : Nat} {c : Cv} {q : Nat} (h : p < s.size) (hst : pstep s true p = some (c, q)) (hq : p < q) (n : Int) : rcR s p n = rcR s q (if tells c then n + 1 else n) := by
  rw [rcR, dif_pos h]
  simp only [hst, dif_pos hq]
theorem rcR_end {s : ByteArray} (n : Int) : rcR s s.size n = n := by
  rw [rcR, dif_neg (by omega)]
def rds (s : ByteArray) : Int × Int := match ckR s 0 with
  | none => (rcR s 0 0, 0)
  | some _ => (0, 2)
def JR (s : ByteArray) (b m : Nat) (w : World) (p : Nat) (W : World) : Prop :=
  ∃ n : Int, I1 W b 3 n ∧ Caps s true m (m + 1) W ∧ 0 ≤ n ∧ n ≤ p ∧ rcR s p n = rcR s 0 0 ∧ ckR s p = none ∧ Below b w W
def fr15 (s : ByteArray) (b m b6 : Nat) (c : Cv) : Array Value := #[Value.string s, undef, Value.pointer (some ⟨b, 0, none⟩), Value.int IntKind.i64 0, Value.int IntKind.i64 0, Value.int IntKind.i64 0, Value.pointer (some ⟨b6, 0, none⟩), Value.tuple #[Value.int IntKind.i64 0, Value.int IntKind.i64 0], Value.string s, Value.tuple #[Value.int IntKind.i64 0, Value.int IntKind.i64 0], Value.int IntKind.i64 0, Value.int IntKind.i64 0, Value.int IntKind.i64 0, Value.bool false, undef, Value.string s, cvF m (m + 1), Value.agg c.cells.toArray, undef, undef, undef, undef, undef, undef, undef, undef, undef, undef, undef, undef, undef, undef, undef, undef]
attribute [local go_sem] Oper.semAt_some
theorem reads_bad (s : ByteArray) (hs : s.size ≤ 100000) (w : World) (p : Nat) (hck : ckR s 0 = some p) :
    Calls Tryz.prog 15 #[.string s] w fun e w' => e = .returned (.tuple #[.int .i64 (rds s).1, .int .i64 (rds s).2]) ∧ Chg (fun _ => False) w w' := by
  have HN := Lib.hid (show rds s = (0, 2) by simp only [rds, hck])
  have HK := Lib.hid (show ck s true = ((p : Int), 2) by simp only [ck, hck]; rfl)
  clear hck
  go_enter Tryz.func15, Tryz.ntmps15
  go_wp2_with fail
  obtain ⟨W0, hW0⟩ : ∃ W0, W0 = (w.alloc (Obj.cells #[Value.int IntKind.i64 0] 3)) := ⟨_, rfl⟩
  have h2 : I1 W0 w.heap.size 3 0 := by rw [hW0]; exact World.alloc_heap_new w _
  have k0 : Chg (fun _ => False) w W0 := by rw [hW0]; exact (Chg.refl _ w).alloc _
  have z0 : W0.heap.size = w.heap.size + 1 := by rw [hW0]; simp
  rw [← hW0]
  clear hW0
  obtain ⟨b, hb⟩ : ∃ b, b = w.heap.size := ⟨_, rfl⟩
  rw [← hb] at h2 z0 ⊢
  have HB := Lib.hid hb
  clear hb
  refine (check_true s hs _).mono ?_
  rintro e w1 ⟨rfl, k1⟩
  rw [HK.out]
  have i2 := h2.chg k1 (fun h => h)
  have k01 := k0.trans k1
  clear h2 k0 k1 z0
  have c2 := i2.c
  have f2 := blk_frozen i2 0
  go_wp2
  have d2 := (I1.set (y := 0) i2).c
  refine ⟨rfl, .tuple #[.int .i64 0, .int .i64 2], ?_, ?_, k01.setCell ⟨b, 0, none⟩ (.int .i64 0) (.inr (by rw [HB.out]; exact Nat.le_refl _))⟩
  · simp [results, Tryz.f15, Tryz.results15, go_sem, d2]
  · rw [HN.out]
theorem reads_good (s : ByteArray) (hs : s.size ≤ 100000) (w : World) (hck : ckR s 0 = none) :
    Calls Tryz.prog 15 #[.string s] w fun e w' => e = .returned (.tuple #[.int .i64 (rds s).1, .int .i64 (rds s).2]) ∧ Chg (fun _ => False) w w' := by
  have HN := Lib.hid (show rds s = (rcR s 0 0, 0) by simp only [rds, hck])
  have HK := Lib.hid (show ck s true = (0, 0) by simp only [ck, hck]; rfl)
  have HC := Lib.hid hck
  clear hck
  refine calls_of_wpV Tryz.func15 rfl ?_
  simp only [Tryz.ntmps15, List.size_toArray, List.length_cons, List.length_nil, Nat.reduceAdd, Nat.reduceSub, Array.replicate_succ, Array.replicate_zero, List.push_toArray, List.append_toArray, List.nil_append, List.cons_append]
  refine wpV_seq_in fun K hK => ?_
  refine (wpIn_wide (n := 0)).2 ?_
  go_wp2_with fail
  obtain ⟨W0, hW0⟩ : ∃ W0, W0 = (w.alloc (Obj.cells #[Value.int IntKind.i64 0] 3)) := ⟨_, rfl⟩
  have h2 : I1 W0 w.heap.size 3 0 := by rw [hW0]; exact World.alloc_heap_new w _
  have k0 : Chg (fun _ => False) w W0 := by rw [hW0]; exact (Chg.refl _ w).alloc _
  have z0 : W0.heap.size = w.heap.size + 1 := by rw [hW0]; simp
  rw [← hW0]
  clear hW0
  obtain ⟨b, hb⟩ : ∃ b, b = w.heap.size := ⟨_, rfl⟩
  rw [← hb] at h2 z0 ⊢
  have HB := Lib.hid hb
  clear hb
  refine wpV_seq_in fun K hK => ?_
  refine (wpIn_wide (n := 0)).2 ?_
  go_wp2_with fail
  refine (check_true s hs _).mono ?_
  rintro e w1 ⟨rfl, k1⟩
  rw [HK.out]
  have i2 := h2.chg k1 (fun h => h)
  have k01 := k0.trans k1
  have z1 : b + 1 ≤ w1.heap.size := by have := k1.size; omega
  clear h2 k0 k1 z0
  go_wp2_with fail
  refine wpV_seq ?_
  refine wpV_seq_in fun K hK => ?_
  refine (wpIn_wide (n := 0)).2 ?_
  go_wp2_with fail
  refine (conversions_calls _ _ _).mono ?_
  rintro e w2 ⟨rfl, hcap, hk, hz⟩
  have g2 := i2.chg hk (fun h => h)
  have hb1 : Below b w w2 := ((k01.trans hk).below (by rw [HB.out]; exact Nat.le_refl _) (fun _ h => h.elim))
  obtain ⟨m, hm⟩ : ∃ m, m = w1.heap.size := ⟨_, rfl⟩
  rw [← hm] at hcap hz z1 ⊢
  clear i2 hk k01 hm
  have HZ := Lib.hid hz
  clear hz
  go_wp2_with fail
  have hz := HZ.out
  refine wpV_block ?_
  refine range_P Tryz.func15 (gf := 47) rfl (enters_of Tryz.func47 (by kernel_rfl) rfl) (conv_iter s hs true m (m + 1)) (by intro x; rfl)
    (JR s b m w) (fun _ _ => False) (fun _ _ => False)
    ?_ (fun _ _ _ h => h.elim) (fun _ _ _ h => h.elim) ?_ ?_
    (fun c a1 W => ∃ b6, a1 = { tmps := fr15 s b m b6 c, defers := [] } ∧ CV W b6 c ∧ w2.heap.size ≤ b6) ?_ ?_ ?_ ?_ ?_ ?_
  · rintro p A B ⟨n, i2, ⟨c0, c1⟩, n0, n1, hr, hck, hbw⟩ hbb
    have e := fun i (hi : i < w2.heap.size) => hbb.below.block i hi
    refine ⟨n, (e _ (by omega)).trans i2, ⟨?_, ?_⟩, n0, n1, hr, hck, hbw.trans (hbb.below.mono (by omega))⟩
    · exact (World.cell?_of_block (e m (by omega))).trans c0
    · exact (World.cell?_of_block (e (m + 1) (by omega))).trans c1
  · rintro p A ⟨n, i2, hc, _⟩; exact hc
  · exact ⟨0, g2, hcap, by omega, by omega, rfl, HC.out, hb1⟩
  · rintro x a1 W l r r' hl ⟨b6, h1, h2, h3⟩
    refine ⟨b6, h1, (World.putObj_heap_other ?_).trans h2, h3⟩
    rintro rfl
    unfold CV at h2; rw [hl] at h2; cases h2
  · intro l x W hle
    simp only [encC, Cv.cells]
    gi_wp2
    refine ⟨(Below.refl _ _).alloc (Nat.le_refl _) _, W.heap.size, rfl, World.alloc_heap_new W _, hle⟩
  · rintro l p c q a1 W ⟨n, i2, hc, n0, n1, hr, hck, hbw⟩ hle hp hst ⟨b6, rfl, hcv, hb6⟩
    have hpq := (pstep_facts hp hst).1
    have HK2 := Lib.hid ((ckR_step hp hst hpq).symm.trans hck)
    have HR2 := Lib.hid ((rcR_step hp hst hpq n).symm.trans hr)
    clear hst hck hr
    unfold fr15
    have c8 := hcv.c8
    have c9 := hcv.c9
    have d2 := i2.c
    have f2 := blk_frozen i2 0
    have hn1 : IntKind.i64.wrap (n + 1) = n + 1 := i64_small (by omega) (by omega)
    by_cases ht : tells c = true
    · have HR3 := Lib.hid (show rcR s q (n + 1) = rcR s 0 0 by rw [← HR2.out, if_pos ht])
      simp only [tells, Bool.and_eq_true] at ht
      obtain ⟨⟨t1, t2⟩, t3⟩ := ht
      have t4 : c.quiet = false := by simpa using t3
      rw [t4] at c9
      clear t3 t4 HR2
      gi_wp2
      refine ⟨⟨by simp, fun i h1 h2 _ => Below.heap_setCell _ _ _ _ (by have := i2.lt; simp; omega)⟩, n + 1, i2.set, ?_, by omega, by omega, HR3.out, HK2.out, hbw.setCell (p := ⟨b, 0, none⟩) (Nat.le_refl _) _⟩
      exact ⟨(World.cell?_of_block (Below.heap_setCell _ _ _ _ (by simp; omega))).trans hc.1, (World.cell?_of_block (Below.heap_setCell _ _ _ _ (by simp; omega))).trans hc.2⟩
    · have HR3 := Lib.hid (show rcR s q n = rcR s 0 0 by rw [← HR2.out, if_neg ht])
      have fin : KeepHi w2.heap.size W W ∧ JR s b m w q W := ⟨KeepHi.refl _ _, n, i2, hc, n0, by omega, HR3.out, HK2.out, hbw⟩
      have HF := Lib.hid fin
      clear fin
      simp only [tells, Bool.and_eq_true, not_and] at ht
      by_cases t1 : (c.letter != 0) = true
      · by_cases t2 : (c.letter != 37) = true
        · have t3 : c.quiet = true := by have := ht ⟨t1, t2⟩; simpa using this
          rw [t3] at c9
          clear ht t3 HR2
          gi_wp2
          exact HF.out
        · have t2' : (c.letter != 37) = false := by simpa using t2
          clear ht t2 HR2
          gi_wp2
          exact HF.out
      · have t1' : (c.letter != 0) = false := by simpa using t1
        clear ht t1 HR2
        gi_wp2
        exact HF.out
  · rintro W ⟨n, i2, hc, n0, n1, hr, hck, hbw⟩ hle hD
    rw [rcR_end] at hr
    have HR := Lib.hid hr
    clear hr
    have c2 := i2.c
    have f2 := blk_frozen i2 0
    have HD := Lib.hid hD
    have hlt : w2.heap.size < W.heap.size := (Array.getElem?_eq_some_iff.1 hD).1
    clear hD
    show wpV _ _ _ _ _ _
    refine wpV_of_wpIn ?_
    refine (wpIn_wide (n := 0)).2 ?_
    clear hz
    go_wp2_with fail
    have hz := HZ.out
    obtain ⟨W3, hW3⟩ : ∃ W3, W3 = (W.setCell ⟨b, 0, none⟩ (.int .i64 n)) := ⟨_, rfl⟩
    have l2 : I1 W3 b 3 n := by rw [hW3]; exact I1.set i2
    have hb3 : Below b w W3 := by rw [hW3]; exact (hbw.setCell (p := ⟨b, 0, none⟩) (Nat.le_refl _)) _
    have hD3 : W3.heap[w2.heap.size]? = some (.deferred (some [])) := by
      rw [hW3]; exact (Below.heap_setCell _ _ _ _ (by simp; omega)).trans HD.out
    show LeavesInM _ _ _ _ _ _ _ _ _
    rw [← hW3]
    refine leave_mark (by intro h; cases h) hD3 ?_
    have hk3 := chg_of_mark (r := w2.heap.size) hb3 HB.out (by omega) (.deferred none)
    have d2 : (W3.putObj w2.heap.size (.deferred none)).cell? ⟨b, 0, none⟩ = some (.int .i64 n) := I1.c (t := 3) ((World.putObj_heap_other (by omega)).trans l2)
    refine ⟨.tuple #[.int .i64 n, .int .i64 0], ?_, ?_, hk3⟩
    · simp [results, Tryz.f15, Tryz.results15, go_sem, d2]
    · rw [HN.out, HR.out]
  · intro c W h; exact h.elim
  · rintro ch W (h | ⟨p, hp, hst, rfl, n, i2, hc, n0, n1, hr, hck, hbw⟩) hle hD
    · exact h.elim
    · rw [ckR_bad hp hst] at hck; cases hck
theorem reads_calls (s : ByteArray) (hs : s.size ≤ 100000) (w : World) :
    Calls Tryz.prog 15 #[.string s] w fun e w' => e = .returned (.tuple #[.int .i64 (rds s).1, .int .i64 (rds s).2]) ∧ Chg (fun _ => False) w w' := by
  cases h : ckR s 0 with
  | none => exact reads_good s hs w h
  | some p => exact reads_bad s hs w p h
end Go.Proofs.YtemogjpgkcbaiaaGreatDoor.Sp
end
section
namespace Go.Proofs.YtemogjpgkcbaiaaGreatDoor.Sp
open Go.RowKit Go.Proofs.YtemogjpgkcbaiaaGreatDoorW.PrintWords Go.Proofs.YtemogjpgkcbaiaaGreatDoorW.PrintLast Go.Proofs.YtemogjpgkcbaiaaGreatDoorW.PrintMore
open Go.Proofs.YtemogjpgkcbaiaaGreatDoor.Pplain
set_option linter.unusedVariables false
set_option linter.unusedSimpArgs false
set_option maxRecDepth 100000
def IN (w : World) (g : Nat) (s : ByteArray) (p : Int) : Prop := w.heap[g]? = some (.cells #[.string s, .int .i64 p] 79 (0, 0))
theorem IN.lt {w : World} {g : Nat} {s : ByteArray} {p : Int} (h : IN w g s p) : g < w.heap.size := (Array.getElem?_eq_some_iff.1 h).1
theorem IN.c0 {w : World} {g : Nat} {s : ByteArray} {p : Int} (h : IN w g s p) : w.cell? ⟨g, 0, none⟩ = some (.string s) := cell_of h 0 rfl
theorem IN.c1 {w : World} {g : Nat} {s : ByteArray} {p : Int} (h : IN w g s p) : w.cell? ⟨g, 1, none⟩ = some (.int .i64 p) := cell_of h 1 rfl
theorem IN.set_pos {w : World} {g : Nat} {s : ByteArray} {p q : Int} (h : IN w g s p) : IN (w.setCell ⟨g, 1, none⟩ (.int .i64 q)) g s q := heap_setCell_same h
theorem IN.chg {S : Nat → Prop} {w w' : World} {g : Nat} {s : ByteArray} {p : Int} (h : IN w g s p) (c : Chg S w w') (hs : ¬ S g) : IN w' g s p := (c.block g h.lt hs).trans h
def isWh (c : Int) : Bool := decide (9 ≤ c ∧ c ≤ 13) || c == 32
theorem White_f (c : Int) : text_White.f c = some (isWh c) := by
  unfold text_White.f isWh
  by_cases h1 : c ≥ 9 <;> by_cases h2 : c ≤ 13 <;> by_cases h3 : c = 32 <;> simp [h1, h2, h3] <;> omega
theorem white_b_calls (c : Int) (w : World) : Calls Tryz.prog 62 #[.int .u8 c] w fun e w' => e = .returned (.bool (isWh c)) ∧ Drawn0 w w' := text_White.calls c _ w (White_f c)
def rn (f : Int → Bool) (s : ByteArray) : Nat → Int → Int
  | 0, p => p
  | m + 1, p => if p < s.size ∧ f (bt s p) = true then rn f s m (p + 1) else p
theorem rn_pos (f : Int → Bool) (s : ByteArray) : ∀ (m : Nat) (p : Int), p ≤ rn f s m p ∧ rn f s m p ≤ p + m ∧ (p ≤ s.size → rn f s m p ≤ s.size)
  | 0, p => by simp [rn]
  | m + 1, p => by
    simp only [rn]
    split
    · rename_i h
      obtain ⟨a, b, c⟩ := rn_pos f s m (p + 1)
      exact ⟨by omega, by omega, fun _ => c (by omega)⟩
    · exact ⟨by omega, by omega, fun h => h⟩
def wh (s : ByteArray) (p : Int) : Int := rn isWh s s.size p
theorem wh_l0 (s : ByteArray) (hs : s.size ≤ 100000) : ∀ (m k : Nat) (p : Int), 0 ≤ p → (s.size : Int) - p ≤ m → m < k → spell_input_white.l0 k s p = some (s, rn isWh s m p)
  | 0, k, p, h0, h1, hk => by
    obtain ⟨k, rfl⟩ : ∃ q, k = q + 1 := ⟨k - 1, by omega⟩
    simp only [spell_input_white.l0, rn]
    rw [if_neg (by omega)]
  | m + 1, k, p, h0, h1, hk => by
    obtain ⟨k, rfl⟩ : ∃ q, k = q + 1 := ⟨k - 1, by omega⟩
    simp only [spell_input_white.l0, rn]
    by_cases h : p < s.size
    · rw [if_pos h, if_pos h0, White_f]
      simp only [Option.bind_some]
      by_cases hw : isWh (bt s p) = true
      · rw [if_pos hw, if_pos ⟨h, hw⟩, wrap_small (by omega) (by omega)]
        exact wh_l0 s hs m k (p + 1) (by omega) (by omega) (by omega)
      · rw [if_neg hw, if_neg (fun h => hw h.2)]
    · rw [if_neg h, if_neg (fun hh => h hh.1)]
theorem white_f (s : ByteArray) (hs : s.size ≤ 100000) (k : Nat) (hk : s.size < k) (p : Int) (h0 : 0 ≤ p) : spell_input_white.f k s p = some (s, wh s p) := by
  unfold spell_input_white.f wh
  exact wh_l0 s hs s.size k p h0 (by omega) hk
theorem white_calls (w : World) (g : Nat) (s : ByteArray) (p : Int) (h : IN w g s p) (h0 : 0 ≤ p) (hs : s.size ≤ 100000) :
    Calls Tryz.prog 63 #[.pointer (some ⟨g, 0, none⟩)] w fun e w' => e = .returned (.tuple #[]) ∧ IN w' g s (wh s p) ∧ Chg (fun k => k = g) w w' := by
  refine (spell_input_white.calls (s.size + 1) g s p _ _ (cutAt w g) w ⟨h, by rw [cutAt_size h.lt]; exact Nat.le_refl _⟩ (below_cutAt h.lt) (white_f s hs _ (by omega) p h0)).mono ?_
  rintro e w' ⟨rfl, hI, hb, hk⟩
  exact ⟨rfl, hI.1, chg_of_keep h.lt hb hk⟩
def pln (t s : ByteArray) : Nat → Int → Int → Bool × Int
  | 0, _, p => (true, p)
  | m + 1, i, p =>
    if isWh (bt t i) = true then pln t s m (i + 1) (wh s p)
    else if p < s.size ∧ bt s p = bt t i then pln t s m (i + 1) (p + 1)
    else (false, p)
theorem pln_pos (t s : ByteArray) : ∀ (m : Nat) (i p : Int), 0 ≤ p → p ≤ s.size → p ≤ (pln t s m i p).2 ∧ (pln t s m i p).2 ≤ s.size
  | 0, i, p, h0, h1 => by simp [pln]; exact h1
  | m + 1, i, p, h0, h1 => by
    simp only [pln]
    split
    · have a := rn_pos isWh s s.size p
      have b := pln_pos t s m (i + 1) (wh s p) (by unfold wh; omega) (a.2.2 h1)
      exact ⟨by unfold wh at *; omega, b.2⟩
    · split
      · have b := pln_pos t s m (i + 1) (p + 1) (by omega) (by omega)
        exact ⟨by omega, b.2⟩
      · exact ⟨by omega, h1⟩
theorem pln_l0 (t s : ByteArray) (ht : t.size ≤ 100000) (hs : s.size ≤ 100000) : ∀ (m k : Nat) (i p : Int), 0 ≤ i → i + m = t.size → 0 ≤ p → p ≤ s.size → m + s.size + 1 < k →
    spell_input_plain.l0 k t (t.size : Int) i s p = some ((pln t s m i p).1, s, (pln t s m i p).2)
  | 0, k, i, p, hi, him, h0, h1, hk => by
    obtain ⟨k, rfl⟩ : ∃ q, k = q + 1 := ⟨k - 1, by omega⟩
    simp only [spell_input_plain.l0, pln]
    rw [if_neg (by omega)]
  | m + 1, k, i, p, hi, him, h0, h1, hk => by
    obtain ⟨k, rfl⟩ : ∃ q, k = q + 1 := ⟨k - 1, by omega⟩
    simp only [spell_input_plain.l0, pln]
    rw [if_pos (by omega), if_pos hi, if_pos (by omega), White_f]
    simp only [Option.bind_some]
    by_cases hw : isWh (bt t i) = true
    · rw [if_pos hw, if_pos hw, white_f s hs k (by omega) p h0]
      simp only [Option.bind_some]
      rw [wrap_small (x := i + 1) (by omega) (by omega)]
      have a := rn_pos isWh s s.size p
      exact pln_l0 t s ht hs m k (i + 1) (wh s p) (by omega) (by omega) (by unfold wh; omega) (a.2.2 h1) (by omega)
    · rw [if_neg hw, if_neg hw]
      by_cases h : p < s.size
      · rw [if_pos h, if_pos h0]
        by_cases hb : bt s p = bt t i
        · rw [if_pos hb, if_pos ⟨h, hb⟩, wrap_small (x := i + 1) (by omega) (by omega), wrap_small (x := p + 1) (by omega) (by omega)]
          exact pln_l0 t s ht hs m k (i + 1) (p + 1) (by omega) (by omega) (by omega) (by omega) (by omega)
        · rw [if_neg hb, if_neg (fun hh => hb hh.2)]
      · rw [if_neg h, if_neg (fun hh => h hh.1)]
theorem plain_calls (w : World) (g : Nat) (s t : ByteArray) (p : Int) (h : IN w g s p) (h0 : 0 ≤ p) (h1 : p ≤ s.size) (hs : s.size ≤ 100000) (ht : t.size ≤ 100000) :
    Calls Tryz.prog 34 #[.pointer (some ⟨g, 0, none⟩), .string t] w fun e w' => e = .returned (.bool (pln t s t.size 0 p).1) ∧ IN w' g s (pln t s t.size 0 p).2 ∧ Chg (fun k => k = g) w w' := by
  have hf : spell_input_plain.f (t.size + s.size + 2) s p t = some ((pln t s t.size 0 p).1, s, (pln t s t.size 0 p).2) := by
    unfold spell_input_plain.f
    exact pln_l0 t s ht hs t.size _ 0 p (by omega) (by omega) h0 h1 (by omega)
  refine (spell_input_plain.calls _ g s p t _ _ _ (cutAt w g) w ⟨h, by rw [cutAt_size h.lt]; exact Nat.le_refl _⟩ (below_cutAt h.lt) hf).mono ?_
  rintro e w' ⟨rfl, hI, hb, hk⟩
  exact ⟨rfl, hI.1, chg_of_keep h.lt hb hk⟩
def FitsBy (F : FuncId) (lb : Array Value) (f : Int → Bool) (W : World → Prop) : Prop :=
  ∀ c w, 0 ≤ c → c ≤ 255 → W w → Calls Tryz.prog F (#[.int .u8 c] ++ lb) w fun e w' => e = .returned (.bool (f c)) ∧ ∃ n, w' = w.drewN n
set_option maxHeartbeats 2000000 in
theorem run_calls (w : World) (g : Nat) (s : ByteArray) (p most : Int) (h : IN w g s p) (h0 : 0 ≤ p) (h1 : p ≤ s.size) (hs : s.size ≤ 100000) (hm : most ≤ 100000) (hm0 : -1000 ≤ most) (F : FuncId) (lb : Array Value) (f : Int → Bool)
    (M : Nat) (hM : M = (if most < 0 then s.size else most.toNat))
    (hF : FitsBy F lb f (fun w' => Chg (fun k => k = g) w w')) (eF : ∀ args w, (callFunc F args).run Tryz.prog w = .ok (.enter F args) w) :
    Calls Tryz.prog 65 #[.pointer (some ⟨g, 0, none⟩), .int .i64 most, .func (.func F) #[] lb] w fun e w' =>
      ∃ q, q = rn f s M p ∧ e = .returned (.string (cut s p q)) ∧ IN w' g s q ∧ Chg (fun k => k = g) w w' := by
  go_enter Tryz.func65, Tryz.ntmps65
  have c1 := h.c1
  have hM1 : most < 0 → M = s.size := fun h => by rw [hM, if_pos h]
  have hM2 : ¬ most < 0 → M = most.toNat := fun h => by rw [hM, if_neg h]
  clear hM
  obtain ⟨E, hE⟩ : ∃ E, E = rn f s M p := ⟨_, rfl⟩
  have HE := Lib.hid hE
  have hEp := rn_pos f s M p
  rw [← hE] at hEp
  clear hE
  go_upto_block 0 with fail
  go_cut [7] (fun v7 wr => v7 = .int .i64 p ∧ IN wr g s E ∧ Chg (fun k => k = g) w wr)
  case first =>
    go_wp2_with fail
    clear c1
    go_loopg [] (s.size - p).toNat (fun gk wr => ∃ (q : Int) (m : Nat), IN wr g s q ∧ Chg (fun k => k = g) w wr ∧ p ≤ q ∧ q ≤ s.size ∧ (gk : Int) = s.size - q ∧ E = rn f s m q ∧ (m : Int) + q = M + p)
    case atStart =>
      exact ⟨p, M, h, Chg.refl _ _, Int.le_refl _, h1, by omega, HE.out, rfl⟩
    case round =>
      obtain ⟨q, m, hI, hC, hq1, hq2, hg, hr, hmq⟩ := hrel
      have r0 := hI.c0
      have r1 := hI.c1
      have f1 := blk_frozen hI 1
      have HG := Lib.hid hg
      have HR := Lib.hid hr
      have HM := Lib.hid hmq
      have hsub : IntKind.i64.wrap (q - p) = q - p := i64_small (by omega) (by omega)
      by_cases hlt : q < s.size
      · have hq0 : 0 ≤ q := by omega
        by_cases hneg : most < 0
        · have g1 : decide (q < (s.size : Int)) = true := by simpa using hlt
          have g2 : decide (most < 0) = true := by simpa using hneg
          obtain ⟨m, rfl⟩ : ∃ m', m = m' + 1 := ⟨m - 1, by have := hM1 hneg; omega⟩
          have hb := bt_at s q
          have hst : E = if f (bt s q) = true then rn f s m (q + 1) else q := by rw [hr, rn]; simp only [hlt, true_and]
          have hcall := fun n => hF (bt s q) (wr.drewN n) (bt_range s q).1 (bt_range s q).2 (hC.drewN n)
          have w1 : IntKind.i64.wrap (q + 1) = q + 1 := i64_small (by omega) (by omega)
          have p4 : (0 ≤ q) = True := eq_true hq0
          have p5 : (0 ≤ q + 1) = True := eq_true (by omega)
          have q4 : (q < (s.size : Int)) = True := eq_true hlt
          have HQ := Lib.hid (And.intro hq1 (And.intro hq0 (And.intro hlt hmq)))
          by_cases hft : f (bt s q) = true
          · rw [hft] at hcall hst
            have HC := Lib.hid hcall
            have HS := Lib.hid hst
            clear hcall hst hq1 hq2 hq0 hlt hmq hneg hEp hg hr hM1 hM2 hft HR HM
            go_wp2_with fail
            go_quiet ((exact Calls.quiet_of (HC.out _)))
            have hI2 : IN (wr.drewN nq) g s q := hI
            have hC2 := hC.drewN nq
            clear hI hC r0 r1 f1
            generalize wr.drewN nq = W at *
            have r0 := hI2.c0
            have r1 := hI2.c1
            have f1 := blk_frozen hI2 1
            go_wp2_with fail
            go_roundg (s.size - (q + 1)).toNat
            case measure => have := HG.out; have := HQ.out; omega
            case rel =>
              exact ⟨q + 1, m, hI2.set_pos, hC2.setCell ⟨g, 1, none⟩ _ (.inl rfl), by have := HQ.out; omega, by have := HQ.out; omega, by have := HQ.out; omega, by have := HS.out; simpa using this, by have := HQ.out; omega⟩
          · have hft : f (bt s q) = false := by simpa using hft
            rw [hft] at hcall hst
            have HC := Lib.hid hcall
            have HS := Lib.hid hst
            clear hcall hst hq1 hq2 hq0 hlt hmq hneg hEp hg hr hM1 hM2 hft HR HM
            go_wp2_with fail
            go_quiet ((exact Calls.quiet_of (HC.out _)))
            have hI2 : IN (wr.drewN nq) g s q := hI
            have hC2 := hC.drewN nq
            clear hI hC r0 r1 f1
            generalize wr.drewN nq = W at *
            have r0 := hI2.c0
            have r1 := hI2.c1
            have f1 := blk_frozen hI2 1
            go_wp2_with fail
            go_meet
            have hEq : E = q := by have := HS.out; simpa using this
            rw [hEq]
            exact ⟨rfl, hI2, hC2⟩
        · by_cases hmost : q - p < most
          · have g1 : decide (q < (s.size : Int)) = true := by simpa using hlt
            have g2 : decide (most < 0) = false := by simpa using hneg
            have g3 : decide (q - p < most) = true := by simpa using hmost
            obtain ⟨m, rfl⟩ : ∃ m', m = m' + 1 := ⟨m - 1, by have := hM2 (by omega); omega⟩
            have hb := bt_at s q
            have hst : E = if f (bt s q) = true then rn f s m (q + 1) else q := by rw [hr, rn]; simp only [hlt, true_and]
            have hcall := fun n => hF (bt s q) (wr.drewN n) (bt_range s q).1 (bt_range s q).2 (hC.drewN n)
            have w1 : IntKind.i64.wrap (q + 1) = q + 1 := i64_small (by omega) (by omega)
            have p4 : (0 ≤ q) = True := eq_true hq0
            have p5 : (0 ≤ q + 1) = True := eq_true (by omega)
            have q4 : (q < (s.size : Int)) = True := eq_true hlt
            have HQ := Lib.hid (And.intro hq1 (And.intro hq0 (And.intro hlt hmq)))
            by_cases hft : f (bt s q) = true
            · rw [hft] at hcall hst
              have HC := Lib.hid hcall
              have HS := Lib.hid hst
              clear hcall hst hq1 hq2 hq0 hlt hmq hneg hEp hg hr hM1 hM2 hft HR HM hmost
              go_wp2_with fail
              go_quiet ((exact Calls.quiet_of (HC.out _)))
              have hI2 : IN (wr.drewN nq) g s q := hI
              have hC2 := hC.drewN nq
              clear hI hC r0 r1 f1
              generalize wr.drewN nq = W at *
              have r0 := hI2.c0
              have r1 := hI2.c1
              have f1 := blk_frozen hI2 1
              go_wp2_with fail
              go_roundg (s.size - (q + 1)).toNat
              case measure => have := HG.out; have := HQ.out; omega
              case rel =>
                exact ⟨q + 1, m, hI2.set_pos, hC2.setCell ⟨g, 1, none⟩ _ (.inl rfl), by have := HQ.out; omega, by have := HQ.out; omega, by have := HQ.out; omega, by have := HS.out; simpa using this, by have := HQ.out; omega⟩
            · have hft : f (bt s q) = false := by simpa using hft
              rw [hft] at hcall hst
              have HC := Lib.hid hcall
              have HS := Lib.hid hst
              clear hcall hst hq1 hq2 hq0 hlt hmq hneg hEp hg hr hM1 hM2 hft HR HM hmost
              go_wp2_with fail
              go_quiet ((exact Calls.quiet_of (HC.out _)))
              have hI2 : IN (wr.drewN nq) g s q := hI
              have hC2 := hC.drewN nq
              clear hI hC r0 r1 f1
              generalize wr.drewN nq = W at *
              have r0 := hI2.c0
              have r1 := hI2.c1
              have f1 := blk_frozen hI2 1
              go_wp2_with fail
              go_meet
              have hEq : E = q := by have := HS.out; simpa using this
              rw [hEq]
              exact ⟨rfl, hI2, hC2⟩
          · have g1 : decide (q < (s.size : Int)) = true := by simpa using hlt
            have g2 : decide (most < 0) = false := by simpa using hneg
            have g3 : decide (q - p < most) = false := by simpa using hmost
            have hm0' : m = 0 := by have := hM2 (by omega); omega
            have hEq : E = q := by
              rw [hr]; cases m with
              | zero => rfl
              | succ m => cases hm0'
            have HEq := Lib.hid hEq
            clear hr hEq hg hmq hM1 hM2 hF HR HM hEp HG
            go_wp2_with fail
            go_quiet (fail)
            have hI2 : IN (wr.drewN nq) g s q := hI
            have hC2 := hC.drewN nq
            generalize wr.drewN nq = W at *
            go_wp2_with fail
            go_meet
            rw [HEq.out]
            exact ⟨rfl, hI2, hC2⟩
      · have g1 : decide (q < (s.size : Int)) = false := by simpa using hlt
        have hEq : E = q := by
          rw [hr]; cases m with
          | zero => rfl
          | succ m => rw [rn, if_neg (fun h => hlt h.1)]
        have HEq := Lib.hid hEq
        clear hr hEq hg hmq hM1 hM2 hF HR HM hEp HG
        go_wp2_with fail
        go_quiet (fail)
        have hI2 : IN (wr.drewN nq) g s q := hI
        have hC2 := hC.drewN nq
        generalize wr.drewN nq = W at *
        go_wp2_with fail
        go_meet
        rw [HEq.out]
        exact ⟨rfl, hI2, hC2⟩
  case rest =>
    obtain ⟨rfl, hI, hC⟩ := hcut
    have r0 := hI.c0
    have r1 := hI.c1
    have p0 : (0 ≤ p) = True := eq_true h0
    have p1 : (p ≤ E) = True := eq_true hEp.1
    have p2 : (E ≤ (s.size : Int)) = True := eq_true (hEp.2.2 h1)
    have p3 : (0 ≤ E) = True := eq_true (by omega)
    clear hF hEp hM1 hM2 c1
    go_wp2_with fail
    go_quiet (fail)
    have hI2 : IN (wc.drewN nq) g s E := hI
    have hC2 := hC.drewN nq
    generalize wc.drewN nq = W at *
    go_wp2_with fail
    go_ret
    exact ⟨E, HE.out, rfl, hI2, hC2⟩
end Go.Proofs.YtemogjpgkcbaiaaGreatDoor.Sp
end
section
namespace Go.Proofs.YtemogjpgkcbaiaaGreatDoor.Sp
open Go.RowKit Go.Proofs.YtemogjpgkcbaiaaGreatDoorW.PrintWords Go.Proofs.YtemogjpgkcbaiaaGreatDoorW.PrintLast Go.Proofs.YtemogjpgkcbaiaaGreatDoorW.PrintMore
set_option linter.unusedVariables false
set_option linter.unusedSimpArgs false
set_option maxRecDepth 100000
theorem fits66 (W : World → Prop) : FitsBy 66 #[] (fun c => !isWh c) W := by
  intro c w _ _ _
  show Calls Tryz.prog 66 #[.int .u8 c] w _
  go_enter Tryz.func66, Tryz.ntmps66
  go_wp2_with fail
  refine (white_b_calls c _).mono ?_
  rintro e w' ⟨rfl, ⟨n, rfl⟩⟩
  go_wp2_with fail
  go_ret
  exact ⟨rfl, n, rfl⟩
theorem fits67 (W : World → Prop) : FitsBy 67 #[] (fun c => true) W := by
  intro c w _ _ _
  show Calls Tryz.prog 67 #[.int .u8 c] w _
  go_enter Tryz.func67, Tryz.ntmps67
  go_wp2_with fail
  go_ret
  exact ⟨rfl, 0, rfl⟩
theorem fits71 (W : World → Prop) : FitsBy 71 #[] (fun c => c == 37) W := by
  intro c w _ _ _
  show Calls Tryz.prog 71 #[.int .u8 c] w _
  go_enter Tryz.func71, Tryz.ntmps71
  go_wp2_with fail
  go_ret
  exact ⟨rfl, 0, rfl⟩
theorem fits97 (W : World → Prop) : FitsBy 97 #[] (fun c => c == 45 || c == 43) W := by
  intro c w _ _ _
  show Calls Tryz.prog 97 #[.int .u8 c] w _
  go_enter Tryz.func97, Tryz.ntmps97
  by_cases h : (c == 45) = true
  · go_wp2
    go_ret
    exact ⟨by rw [h]; rfl, 0, rfl⟩
  · have h' : (c == 45) = false := by simpa using h
    clear h
    go_wp2
    go_ret
    exact ⟨by rw [h']; rfl, 0, rfl⟩
def vl (c : Int) : Int := if isDig c = true then c - 48 else if 97 ≤ c ∧ c ≤ 102 then c - 87 else if 65 ≤ c ∧ c ≤ 70 then c - 55 else 16
theorem value_f (c : Int) (h0 : 0 ≤ c) (h1 : c ≤ 255) : Pvalue.spell_value.f 4 c = some (vl c) := by
  have hd : Pvalue.spell_digit.f c = some (isDig c) := by
    unfold Pvalue.spell_digit.f isDig
    by_cases h : 48 ≤ c <;> simp [h]
  unfold Pvalue.spell_value.f vl
  rw [hd]
  simp only [Option.bind_some]
  by_cases h1 : isDig c = true
  · rw [if_pos h1, if_pos h1]
    have := isDig_iff.1 h1
    congr 1; omega
  · rw [if_neg h1, if_neg h1]
    have hj : ∀ t : Bool, Pvalue.spell_value.j0 4 c t = some (if t = true then (c - 97) % 256 + 10 else if 65 ≤ c ∧ c ≤ 70 then (c - 65) % 256 + 10 else 16) := by
      intro t
      simp only [Pvalue.spell_value.j0]
      by_cases ht : t = true
      · rw [if_pos ht, if_pos ht]
      · rw [if_neg ht, if_neg ht]
        by_cases h2 : c ≥ 65
        · rw [if_pos h2]
          by_cases h3 : c ≤ 70
          · rw [if_pos h3, if_pos ⟨h2, h3⟩]
          · rw [if_neg h3, if_neg (fun h => h3 h.2)]
        · rw [if_neg h2, if_neg (fun h => h2 h.1)]
    rw [hj, hj]
    simp only [decide_eq_true_eq, Bool.false_eq_true, if_false]
    by_cases h2 : 97 ≤ c <;> by_cases h3 : c ≤ 102 <;> by_cases h4 : 65 ≤ c <;> by_cases h5 : c ≤ 70 <;> simp [h2, h3, h4, h5] <;> omega
theorem value_calls (c : Int) (h0 : 0 ≤ c) (h1 : c ≤ 255) (w : World) : Calls Tryz.prog 99 #[.int .u8 c] w fun e w' => e = .returned (.int .i64 (vl c)) ∧ Drawn0 w w' :=
  Pvalue.spell_value.calls 4 c _ w (value_f c h0 h1)
theorem fits98 (B : Nat) (b : Int) (g : Nat) (w0 : World) (hB : I1 w0 B 3 b) (hg : B ≠ g) : FitsBy 98 #[.pointer (some ⟨B, 0, none⟩)] (fun c => decide (vl c < b)) (fun w => Chg (fun k => k = g) w0 w) := by
  intro c w h0 h1 hC
  show Calls Tryz.prog 98 #[.int .u8 c, .pointer (some ⟨B, 0, none⟩)] w _
  have d := (hB.chg hC hg).c
  have hv : ∀ n, Calls Tryz.prog 99 #[.int .u8 c] (w.drewN n) fun e w' => e = .returned (.int .i64 (vl c)) ∧ ∃ m, w' = (w.drewN n).drewN m := fun n => (value_calls c h0 h1 _).mono (by rintro e w' ⟨rfl, ⟨n, rfl⟩⟩; exact ⟨rfl, n, rfl⟩)
  have HV := Lib.hid hv
  clear hv
  clear hC h0 h1
  go_enter Tryz.func98, Tryz.ntmps98
  go_wp2_with fail
  go_quiet ((exact Calls.quiet_of (HV.out _)))
  go_wp2_with fail
  go_ret
  exact ⟨rfl, nq, rfl⟩
end Go.Proofs.YtemogjpgkcbaiaaGreatDoor.Sp
end
section
namespace Go.Proofs.YtemogjpgkcbaiaaGreatDoor.Sp
open Go.RowKit Go.Proofs.YtemogjpgkcbaiaaGreatDoorW.PrintWords Go.Proofs.YtemogjpgkcbaiaaGreatDoorW.PrintLast Go.Proofs.YtemogjpgkcbaiaaGreatDoorW.PrintMore
set_option linter.unusedVariables false
set_option linter.unusedSimpArgs false
set_option maxRecDepth 100000
def ft (s : ByteArray) (c : Int) (neg : Bool) : Nat → Int → Bool
  | 0, _ => neg
  | k + 1, i =>
    if i < s.size then
      if i + 2 < s.size ∧ bt s (i + 1) = 45 then
        if min (bt s i) (bt s (i + 2)) ≤ c ∧ c ≤ max (bt s i) (bt s (i + 2)) then !neg else ft s c neg k (i + 3)
      else if bt s i ≤ c ∧ c ≤ bt s i then !neg else ft s c neg k (i + 1)
    else neg
def hat (s : ByteArray) : Bool := decide (0 < s.size) && (bt s 0 == 94)
def unhat (s : ByteArray) : ByteArray := if hat s then s.extract 1 s.size else s
def fts (s : ByteArray) (c : Int) : Bool := ft (unhat s) c (hat s) (unhat s).size 0
theorem cut_f (s : ByteArray) : Pfits.strings_CutPrefix.f s (⟨#[94]⟩ : ByteArray) = some (unhat s, hat s) := by
  have hl : (⟨#[94]⟩ : ByteArray).size = 1 := rfl
  unfold Pfits.strings_CutPrefix.f Pfits.stringslite_CutPrefix.f Pfits.stringslite_HasPrefix.f
  simp only [hl]
  by_cases h : 0 < s.size
  · have hlen : (s.extract 0 1).data.toList.length = 1 := by simp; omega
    have hx : (s.extract 0 1).data.toList = [s[0]] := by
      refine List.ext_getElem (by simpa using hlen) fun i h1 h2 => ?_
      have hi : i = 0 := by rw [hlen] at h1; omega
      subst hi
      obtain ⟨dd⟩ := s
      simp
      rfl
    have hb : bt s 0 = (s[0].toNat : Int) := (bt_at s 0 h).symm
    have e1 : ((s.extract 0 (1 : Nat)).toList == (⟨#[94]⟩ : ByteArray).toList) = (bt s 0 == 94) := by
      rw [Lib.toList_data, Lib.toList_data, hx, hb]
      show ([s[0]] == [(94 : UInt8)]) = _
      by_cases h94 : s[0] = 94
      · rw [h94]; rfl
      · have : ¬ ((s[0].toNat : Int) = 94) := fun e => h94 (UInt8.toNat_inj.1 (by have : (94 : UInt8).toNat = 94 := rfl; omega))
        rw [show ((s[0].toNat : Int) == 94) = false by simpa using this]
        have h95 : (s[0] == (94 : UInt8)) = false := by simpa using h94
        simp [h95]
    have e2 : hat s = (bt s 0 == 94) := by simp [hat, h]
    rw [if_pos (by omega), if_pos (by omega), if_pos (by omega)]
    simp only [Option.bind_some, Int.toNat_natCast]
    rw [e1, ← e2]
    cases hh : hat s with
    | true => rw [if_pos rfl, if_pos (by omega), if_pos (by omega)]; simp only [unhat, hh, if_true, Option.bind_some]
    | false => rw [if_neg (by decide)]; simp only [unhat, hh, Option.bind_some]; rfl
  · have e2 : hat s = false := by simp [hat]; omega
    rw [if_neg (by omega)]
    simp only [Option.bind_some, unhat, e2]
    rfl
theorem fits_b_calls (s : ByteArray) (hs : s.size ≤ 100000) (c : Int) (h0 : 0 ≤ c) (h1 : c ≤ 255) (w : World) :
    Calls Tryz.prog 70 #[.string s, .int .u8 c] w fun e w' => e = .returned (.bool (fts s c)) ∧ ∃ n, w' = w.drewN n := by
  have hcut := Pfits.strings_CutPrefix.calls s ⟨#[94]⟩ (unhat s) (hat s) w (cut_f s)
  have hus : (unhat s).size ≤ 100000 := by
    unfold unhat
    split
    · simp; omega
    · exact hs
  have hft : fts s c = ft (unhat s) c (hat s) (unhat s).size 0 := rfl
  go_enter Tryz.func70, Tryz.ntmps70
  obtain ⟨t, ht⟩ : ∃ t, t = unhat s := ⟨_, rfl⟩
  obtain ⟨ng, hng⟩ : ∃ t, t = hat s := ⟨_, rfl⟩
  rw [← ht, ← hng] at hcut hft
  rw [← ht] at hus
  have HFT := Lib.hid hft
  have HC := Lib.hid hcut
  clear ht hng hft hcut
  go_wp2_with fail
  refine HC.out.mono ?_
  rintro e w' ⟨rfl, ⟨n0, rfl⟩⟩
  go_wp2_with fail
  go_loopg [6] t.size (fun gk v6 wr => ∃ (i : Int) (m : Nat), v6 = .int .i64 i ∧ 0 ≤ i ∧ i ≤ t.size + 3 ∧ (m : Int) + i ≥ t.size ∧ (gk : Int) + i ≥ t.size ∧ fts s c = ft t c ng m i ∧ ∃ n, wr = w.drewN n)
  case atStart =>
    exact ⟨0, t.size, rfl, by omega, by omega, by omega, by omega, HFT.out, n0, rfl⟩
  case round =>
    obtain ⟨i, m, rfl, hi0, hi3, hm, hg, hr, n1, rfl⟩ := hrel
    have HR := Lib.hid hr
    have HM := Lib.hid (And.intro hm hg)
    by_cases hlt : i < t.size
    · obtain ⟨m, rfl⟩ : ∃ m', m = m' + 1 := ⟨m - 1, by omega⟩
      have HLT := Lib.hid hlt
      have g1 : decide (i < (t.size : Int)) = true := by simpa using hlt
      have w1 : IntKind.i64.wrap (i + 1) = i + 1 := i64_small (by omega) (by omega)
      have w2 : IntKind.i64.wrap (i + 2) = i + 2 := i64_small (by omega) (by omega)
      have w3 : IntKind.i64.wrap (i + 3) = i + 3 := i64_small (by omega) (by omega)
      have p0 : (0 ≤ i) = True := eq_true hi0
      have p1 : (0 ≤ i + 1) = True := eq_true (by omega)
      have p2 : (0 ≤ i + 2) = True := eq_true (by omega)
      have q0 : (i < (t.size : Int)) = True := eq_true hlt
      have b0 := bt_at t i
      have b1 := bt_at t (i + 1)
      have b2 := bt_at t (i + 2)
      by_cases hd : i + 2 < t.size ∧ bt t (i + 1) = 45
      · have q1 : (i + 1 < (t.size : Int)) = True := eq_true (by omega)
        have q2 : (i + 2 < (t.size : Int)) = True := eq_true hd.1
        have d1 : decide (i + 2 < (t.size : Int)) = true := by simpa using hd.1
        have d2 : (bt t (i + 1) == 45) = true := by simpa using hd.2
        by_cases hin : (min (bt t i) (bt t (i + 2))) ≤ c ∧ c ≤ (max (bt t i) (bt t (i + 2)))
        · have HS := Lib.hid (show fts s c = (!ng) by rw [hr, ft, if_pos hlt, if_pos hd, if_pos hin])
          have k1 : decide ((min (bt t i) (bt t (i + 2))) ≤ c) = true := by simpa using hin.1
          have k2 : decide (c ≤ (max (bt t i) (bt t (i + 2)))) = true := by simpa using hin.2
          clear hr hm hg hin hlt hd
          go_wp2_with fail
          go_quiet (fail)
          go_wp2_with fail
          go_quiet (fail)
          go_wp2_with fail
          go_wp2_with fail
          go_ret
          exact ⟨by rw [HS.out]; rfl, _, by first | rfl | rw [World.drewN_drewN] | skip⟩
        · have HS := Lib.hid (show fts s c = ft t c ng m (i + 3) by rw [hr, ft, if_pos hlt, if_pos hd, if_neg hin])
          by_cases k1 : (min (bt t i) (bt t (i + 2))) ≤ c
          · have k1' : decide ((min (bt t i) (bt t (i + 2))) ≤ c) = true := by simpa using k1
            have k2' : decide (c ≤ (max (bt t i) (bt t (i + 2)))) = false := by have : ¬ c ≤ (max (bt t i) (bt t (i + 2))) := fun h => hin ⟨k1, h⟩; simpa using this
            clear hr hm hg hin hlt hd k1
            go_wp2_with fail
            go_quiet (fail)
            go_wp2_with fail
            go_quiet (fail)
            go_wp2_with fail
            go_wp2_with fail
            go_roundg (t.size - (i + 3)).toNat
            case measure => have := HM.out; have := HLT.out; omega
            case rel => exact ⟨i + 3, m, rfl, by omega, by have := HLT.out; omega, by have := HM.out; omega, by omega, HS.out, _, by first | rfl | rw [World.drewN_drewN] | skip⟩
          · have k1' : decide ((min (bt t i) (bt t (i + 2))) ≤ c) = false := by simpa using k1
            clear hr hm hg hin hlt hd k1
            go_wp2_with fail
            go_quiet (fail)
            go_wp2_with fail
            go_quiet (fail)
            go_wp2_with fail
            go_wp2_with fail
            go_roundg (t.size - (i + 3)).toNat
            case measure => have := HM.out; have := HLT.out; omega
            case rel => exact ⟨i + 3, m, rfl, by omega, by have := HLT.out; omega, by have := HM.out; omega, by omega, HS.out, _, by first | rfl | rw [World.drewN_drewN] | skip⟩
      · by_cases hd1 : i + 2 < t.size
        · have q1 : (i + 1 < (t.size : Int)) = True := eq_true (by omega)
          have q2 : (i + 2 < (t.size : Int)) = True := eq_true hd1
          have d1 : decide (i + 2 < (t.size : Int)) = true := by simpa using hd1
          have d2 : (bt t (i + 1) == 45) = false := by have : ¬ bt t (i + 1) = 45 := fun h => hd ⟨hd1, h⟩; simpa using this
          clear hd1
          by_cases hin : bt t i ≤ c ∧ c ≤ bt t i
          · have HS := Lib.hid (show fts s c = (!ng) by rw [hr, ft, if_pos hlt, if_neg hd, if_pos hin])
            have k1 : decide (bt t i ≤ c) = true := by simpa using hin.1
            have k2 : decide (c ≤ bt t i) = true := by simpa using hin.2
            clear hr hm hg hin hlt hd
            go_wp2_with fail
            go_quiet (fail)
            go_wp2_with fail
            go_wp2_with fail
            go_ret
            exact ⟨by rw [HS.out]; rfl, _, by first | rfl | rw [World.drewN_drewN] | skip⟩
          · have HS := Lib.hid (show fts s c = ft t c ng m (i + 1) by rw [hr, ft, if_pos hlt, if_neg hd, if_neg hin])
            by_cases k1 : bt t i ≤ c
            · have k1' : decide (bt t i ≤ c) = true := by simpa using k1
              have k2' : decide (c ≤ bt t i) = false := by have : ¬ c ≤ bt t i := fun h => hin ⟨k1, h⟩; simpa using this
              clear hr hm hg hin hlt hd k1
              go_wp2_with fail
              go_quiet (fail)
              go_wp2_with fail
              go_wp2_with fail
              go_roundg (t.size - (i + 1)).toNat
              case measure => have := HM.out; have := HLT.out; omega
              case rel => exact ⟨i + 1, m, rfl, by omega, by have := HLT.out; omega, by have := HM.out; omega, by omega, HS.out, _, by first | rfl | rw [World.drewN_drewN] | skip⟩
            · have k1' : decide (bt t i ≤ c) = false := by simpa using k1
              clear hr hm hg hin hlt hd k1
              go_wp2_with fail
              go_quiet (fail)
              go_wp2_with fail
              go_wp2_with fail
              go_roundg (t.size - (i + 1)).toNat
              case measure => have := HM.out; have := HLT.out; omega
              case rel => exact ⟨i + 1, m, rfl, by omega, by have := HLT.out; omega, by have := HM.out; omega, by omega, HS.out, _, by first | rfl | rw [World.drewN_drewN] | skip⟩
        · have d1 : decide (i + 2 < (t.size : Int)) = false := by simpa using hd1
          clear hd1
          by_cases hin : bt t i ≤ c ∧ c ≤ bt t i
          · have HS := Lib.hid (show fts s c = (!ng) by rw [hr, ft, if_pos hlt, if_neg hd, if_pos hin])
            have k1 : decide (bt t i ≤ c) = true := by simpa using hin.1
            have k2 : decide (c ≤ bt t i) = true := by simpa using hin.2
            clear hr hm hg hin hlt hd
            go_wp2_with fail
            go_quiet (fail)
            go_wp2_with fail
            go_wp2_with fail
            go_ret
            exact ⟨by rw [HS.out]; rfl, _, by first | rfl | rw [World.drewN_drewN] | skip⟩
          · have HS := Lib.hid (show fts s c = ft t c ng m (i + 1) by rw [hr, ft, if_pos hlt, if_neg hd, if_neg hin])
            by_cases k1 : bt t i ≤ c
            · have k1' : decide (bt t i ≤ c) = true := by simpa using k1
              have k2' : decide (c ≤ bt t i) = false := by have : ¬ c ≤ bt t i := fun h => hin ⟨k1, h⟩; simpa using this
              clear hr hm hg hin hlt hd k1
              go_wp2_with fail
              go_quiet (fail)
              go_wp2_with fail
              go_wp2_with fail
              go_roundg (t.size - (i + 1)).toNat
              case measure => have := HM.out; have := HLT.out; omega
              case rel => exact ⟨i + 1, m, rfl, by omega, by have := HLT.out; omega, by have := HM.out; omega, by omega, HS.out, _, by first | rfl | rw [World.drewN_drewN] | skip⟩
            · have k1' : decide (bt t i ≤ c) = false := by simpa using k1
              clear hr hm hg hin hlt hd k1
              go_wp2_with fail
              go_quiet (fail)
              go_wp2_with fail
              go_wp2_with fail
              go_roundg (t.size - (i + 1)).toNat
              case measure => have := HM.out; have := HLT.out; omega
              case rel => exact ⟨i + 1, m, rfl, by omega, by have := HLT.out; omega, by have := HM.out; omega, by omega, HS.out, _, by first | rfl | rw [World.drewN_drewN] | skip⟩
    · have g1 : decide (i < (t.size : Int)) = false := by simpa using hlt
      have HS := Lib.hid (show fts s c = ng by
        rw [hr]; cases m with
        | zero => rfl
        | succ m => rw [ft, if_neg hlt])
      clear hr hm hg
      go_wp2_with fail
      go_ret
      exact ⟨by rw [HS.out]; rfl, n1, rfl⟩
theorem fits69 (C : Nat) (cv : Cv) (g : Nat) (w0 : World) (hC0 : CV w0 C cv) (hg : C ≠ g) (hs : cv.set.size ≤ 100000) : FitsBy 69 #[.pointer (some ⟨C, 0, none⟩)] (fun c => fts cv.set c) (fun w => Chg (fun k => k = g) w0 w) := by
  intro c w h0 h1 hC
  show Calls Tryz.prog 69 #[.int .u8 c, .pointer (some ⟨C, 0, none⟩)] w _
  have d := (hC0.chg hC hg).c10
  have HV := Lib.hid (fun w => fits_b_calls cv.set hs c h0 h1 w)
  clear hC h0 h1
  go_enter Tryz.func69, Tryz.ntmps69
  go_wp2_with fail
  refine (HV.out _).mono ?_
  rintro e w' ⟨rfl, n, rfl⟩
  go_wp2_with fail
  go_ret
  exact ⟨rfl, n, rfl⟩
end Go.Proofs.YtemogjpgkcbaiaaGreatDoor.Sp
end
section
namespace Go.Proofs.YtemogjpgkcbaiaaGreatDoor.Sp
open Go.RowKit Go.Proofs.YtemogjpgkcbaiaaGreatDoorW.PrintWords Go.Proofs.YtemogjpgkcbaiaaGreatDoorW.PrintLast Go.Proofs.YtemogjpgkcbaiaaGreatDoorW.PrintMore
set_option linter.unusedVariables false
set_option linter.unusedSimpArgs false
set_option maxRecDepth 100000
def bsN (c : Int) : Int := if c = 120 ∨ c = 88 then 16 else if c = 111 then 8 else if c = 98 then 2 else 10
def bsP (c : Int) : ByteArray := if c = 120 then ⟨#[48, 120]⟩ else if c = 88 then ⟨#[48, 88]⟩ else if c = 111 then ⟨#[48, 111]⟩ else if c = 98 then ⟨#[48, 98]⟩ else ⟨#[]⟩
theorem base_f (c : Int) : Pbase.spell_base.f c = some (bsN c, bsP c) := by
  unfold Pbase.spell_base.f bsN bsP
  by_cases h1 : c = 120
  · simp [h1]
  · by_cases h2 : c = 88
    · simp [h2]
    · by_cases h3 : c = 111
      · simp [h3]
      · by_cases h4 : c = 98
        · simp [h4]
        · simp [h1, h2, h3, h4]
theorem base_calls (c : Int) (w : World) : Calls Tryz.prog 77 #[.int .u8 c] w fun e w' => e = .returned (.tuple #[.int .i64 (bsN c), .string (bsP c)]) ∧ Drawn0 w w' :=
  Pbase.spell_base.calls c _ _ w (base_f c)
end Go.Proofs.YtemogjpgkcbaiaaGreatDoor.Sp
end
section
namespace Go.Proofs.YtemogjpgkcbaiaaGreatDoor.Sp
open Go.RowKit Go.Proofs.YtemogjpgkcbaiaaGreatDoorW.PrintWords Go.Proofs.YtemogjpgkcbaiaaGreatDoorW.PrintLast Go.Proofs.YtemogjpgkcbaiaaGreatDoorW.PrintMore
set_option linter.unusedVariables false
set_option linter.unusedSimpArgs false
set_option maxRecDepth 100000
theorem empty_false {x : ByteArray} (h : ¬ x = ⟨#[]⟩) : x.toList.isEmpty = false := by
  rw [Lib.toList_data]
  obtain ⟨⟨l⟩⟩ := x
  cases l with
  | nil => exact absurd rfl h
  | cons a l => rfl
theorem list_false {x y : ByteArray} (h : ¬ x = y) : (x.toList == y.toList) = false := by
  rw [Lib.toList_data, Lib.toList_data]
  simp only [beq_eq_false_iff_ne, ne_eq]
  intro e
  obtain ⟨⟨a⟩⟩ := x
  obtain ⟨⟨b⟩⟩ := y
  simp only at e
  exact h (by rw [e])
def sgnB (c : Int) : Bool := c == 45 || c == 43
def mst (s : ByteArray) (most : Int) : Nat := if most < 0 then s.size else most.toNat
def sgE (s : ByteArray) (p : Int) : Int := rn sgnB s 1 (wh s p)
def dgM (s : ByteArray) (wid p : Int) : Int := if 0 ≤ wid then wid - (cut s (wh s p) (sgE s p)).size else wid
def dgE (s : ByteArray) (b wid p : Int) : Int := rn (fun c => decide (vl c < b)) s (mst s (dgM s wid p)) (sgE s p)
def sgT (s : ByteArray) (p : Int) : ByteArray := cut s (wh s p) (sgE s p)
def dgT (s : ByteArray) (b wid p : Int) : ByteArray := cut s (sgE s p) (dgE s b wid p)
def nbr (BR : ByteArray → Int → ByteArray × Int) (NG : ByteArray → ByteArray × Int) (s : ByteArray) (b wid p : Int) : Option (ByteArray × Bool) :=
  if dgT s b wid p = ⟨#[]⟩ then some (⟨#[]⟩, false)
  else if (BR (dgT s b wid p) b).2 = 0 then
    if sgT s p = ⟨#[45]⟩ then
      if (NG (BR (dgT s b wid p) b).1).2 = 0 then some ((NG (BR (dgT s b wid p) b).1).1, true) else none
    else some ((BR (dgT s b wid p) b).1, true)
  else none
def limitV : Value := .iface 58 (.agg #[.int .i64 0, .int .i64 4])
set_option maxHeartbeats 2000000 in
theorem number_in_calls (BR : ByteArray → Int → ByteArray × Int) (NG : ByteArray → ByteArray × Int)
    (hBR : ∀ s b w, s.size ≤ 100000 → 2 ≤ b → b ≤ 16 → Calls Tryz.prog 100 #[.string s, .int .i64 b] w fun e w' => e = .returned (.tuple #[.string (BR s b).1, .int .i64 (BR s b).2]) ∧ Chg (fun _ => False) w w')
    (hNG : ∀ s b w, s.size ≤ 100000 → 2 ≤ b → b ≤ 16 → (BR s b).2 = 0 → Calls Tryz.prog 101 #[.string (BR s b).1] w fun e w' => e = .returned (.tuple #[.string (NG (BR s b).1).1, .int .i64 (NG (BR s b).1).2]) ∧ Chg (fun _ => False) w w')
    (w : World) (g : Nat) (s : ByteArray) (p : Int) (cv : Cv) (h : IN w g s p) (h0 : 0 ≤ p) (h1 : p ≤ s.size) (hs : s.size ≤ 100000) (hw : -1 ≤ cv.width) (hw2 : cv.width ≤ 999) :
    Calls Tryz.prog 64 #[.pointer (some ⟨g, 0, none⟩), .agg cv.cells.toArray] w fun e w' => IN w' g s (dgE s (bsN cv.letter) cv.width p) ∧ Chg (fun k => k = g) w w' ∧
      ((∃ r, nbr BR NG s (bsN cv.letter) cv.width p = some r ∧ e = .returned (.tuple #[.string r.1, .bool r.2])) ∨
       (nbr BR NG s (bsN cv.letter) cv.width p = none ∧ e = .panicked [{ v := limitV, recovered := false }])) := by
  have HBR := Lib.hid hBR
  have HNG := Lib.hid hNG
  clear hBR hNG
  go_enter Tryz.func64, Tryz.ntmps64
  simp only [Cv.cells]
  go_wp2_with fail
  obtain ⟨W0, hW0⟩ : ∃ W0, W0 = w.alloc (Obj.cells cv.cells.toArray 51) := ⟨_, rfl⟩
  have hC0 : CV W0 w.heap.size cv := by rw [hW0]; exact World.alloc_heap_new w _
  have hI0 : IN W0 g s p := by rw [hW0]; exact (Below.heap_alloc _ _ _ h.lt).trans h
  have k0 : Chg (fun k => k = g) w W0 := by rw [hW0]; exact (Chg.refl _ w).alloc _
  have z0 : W0.heap.size = w.heap.size + 1 := by rw [hW0]; simp
  simp only [Cv.cells] at hW0
  rw [← hW0]
  clear hW0
  obtain ⟨b, hb⟩ : ∃ b, b = w.heap.size := ⟨_, rfl⟩
  have hbg : b ≠ g := by have := h.lt; omega
  rw [← hb] at hC0 z0 ⊢
  have HB := Lib.hid hb
  clear hb
  refine (white_calls W0 g s p hI0 h0 hs).mono ?_
  rintro e w1 ⟨rfl, hI1, k1⟩
  have hC1 := hC0.chg k1 hbg
  have k01 := k0.trans k1
  have z1 : b < w1.heap.size := hC1.lt
  have hp1 := rn_pos isWh s s.size p
  have c8 := hC1.c8
  clear hC0 hI0 k0 k1 z0
  go_wp2_with fail
  refine (base_calls _ _).mono ?_
  rintro e w2 ⟨rfl, ⟨n, rfl⟩⟩
  have hI2 : IN (w1.drewN n) g s (wh s p) := hI1
  have hC2 : CV (w1.drewN n) b cv := hC1
  have k02 := k01.drewN n
  have z2 : b < (w1.drewN n).heap.size := z1
  clear hI1 hC1 k01 z1 c8
  generalize w1.drewN n = w2 at *
  go_wp2_with fail
  obtain ⟨W3, hW3⟩ : ∃ W3, W3 = w2.alloc (Obj.cells #[Value.int IntKind.i64 (bsN cv.letter)] 3) := ⟨_, rfl⟩
  have hB3 : I1 W3 w2.heap.size 3 (bsN cv.letter) := by rw [hW3]; exact World.alloc_heap_new w2 _
  have hI3 : IN W3 g s (wh s p) := by rw [hW3]; exact (Below.heap_alloc _ _ _ hI2.lt).trans hI2
  have hC3 : CV W3 b cv := by rw [hW3]; exact (Below.heap_alloc _ _ _ hC2.lt).trans hC2
  have k03 : Chg (fun k => k = g) w W3 := by rw [hW3]; exact k02.alloc _
  rw [← hW3]
  clear hW3 k02
  obtain ⟨B, hB⟩ : ∃ B, B = w2.heap.size := ⟨_, rfl⟩
  have hBg : B ≠ g := by have := hI2.lt; omega
  have hBb : B ≠ b := by omega
  rw [← hB] at hB3 ⊢
  clear hI2 hC2 z2 hB
  have hwp : 0 ≤ wh s p ∧ wh s p ≤ s.size := by unfold wh; exact ⟨by omega, hp1.2.2 h1⟩
  refine (run_calls W3 g s (wh s p) 1 hI3 hwp.1 hwp.2 hs (by omega) (by omega) 97 #[] sgnB 1 rfl (fits97 _) (fun args w => rfl)).mono ?_
  rintro e w4 ⟨q, hq, rfl, hI4, k4⟩
  have hB4 := hB3.chg k4 hBg
  have hC4 := hC3.chg k4 (by omega)
  have k04 := k03.trans k4
  have hqe : q = sgE s p := hq
  have hqp := rn_pos sgnB s 1 (wh s p)
  have hq2 : wh s p ≤ q ∧ q ≤ wh s p + 1 ∧ q ≤ s.size := ⟨by rw [hq]; exact hqp.1, by rw [hq]; exact hqp.2.1, by rw [hq]; exact hqp.2.2 hwp.2⟩
  have hsz : (cut s (wh s p) q).size ≤ 1 := by unfold cut; simp; omega
  have HQ := Lib.hid hqe
  clear hB3 hC3 k03 k4 hI3 hqe hq hqp
  have c4 := hC4.c4
  obtain ⟨wid, hwid⟩ : ∃ x, x = cv.width := ⟨_, rfl⟩
  rw [← hwid] at c4 hw hw2
  have HW := Lib.hid hwid
  clear hwid
  obtain ⟨M, hM⟩ : ∃ M : Int, M = dgM s wid p := ⟨_, rfl⟩
  have hMM : M = if 0 ≤ wid then wid - (cut s (wh s p) q).size else wid := by rw [hM, dgM, HQ.out]
  have HM := Lib.hid hM
  clear hM
  have HMM := Lib.hid hMM
  have hMr : -1 ≤ M ∧ M ≤ 999 := by rw [hMM]; split <;> omega
  clear hMM
  go_upto_if 26 with fail
  go_cut [9] (fun v9 wx => v9 = .int .i64 M ∧ wx = w4)
  case first =>
    by_cases hw0 : 0 ≤ wid
    · have g1 : decide (0 ≤ wid) = true := by simpa using hw0
      have e1 : IntKind.i64.wrap (wid - (cut s (wh s p) q).size) = wid - (cut s (wh s p) q).size := i64_small (by omega) (by omega)
      have HE := Lib.hid (show M = wid - (cut s (wh s p) q).size by rw [HMM.out, if_pos hw0])
      clear hw0
      simp only [g1]
      go_wp2_with fail
      go_meet
      exact ⟨by rw [HE.out], rfl⟩
    · have g1 : decide (0 ≤ wid) = false := by simpa using hw0
      have HE := Lib.hid (show M = wid by rw [HMM.out, if_neg hw0])
      clear hw0
      simp only [g1]
      go_wp2_with fail
      go_meet
      exact ⟨by rw [HE.out], rfl⟩
  case rest =>
    obtain ⟨rfl, rfl⟩ := hcut
    go_upto_region 8 with fail
    have hq0 : 0 ≤ q := by omega
    refine (run_calls wc g s q M hI4 hq0 hq2.2.2 hs (by omega) (by omega) 98 #[.pointer (some ⟨B, 0, none⟩)] (fun c => decide (vl c < bsN cv.letter)) (mst s M) rfl (fits98 B _ g wc hB4 hBg) (fun args w => rfl)).mono ?_
    rintro e w5 ⟨r, hr, rfl, hI5, k5⟩
    have hB5 := hB4.chg k5 hBg
    have k05 := k04.trans k5
    have hre : r = dgE s (bsN cv.letter) cv.width p := by rw [hr]; unfold dgE; rw [← HQ.out, ← HW.out, ← HM.out]
    have hrp := rn_pos (fun c => decide (vl c < bsN cv.letter)) s (mst s M) q
    rw [← hr] at hrp
    have hd : dgT s (bsN cv.letter) cv.width p = cut s q r := by unfold dgT; rw [← hre, ← HQ.out]
    have hds : (cut s q r).size ≤ 100000 := by unfold cut; simp; omega
    have HR := Lib.hid hre
    have HD := Lib.hid hd
    have hg2 : sgT s p = cut s (wh s p) q := by unfold sgT; rw [← HQ.out]
    have HG := Lib.hid hg2
    clear hre hd hg2 hB4 hC4 k04 k5 hI4 hr
    have cB := hB5.c
    by_cases hemp : cut s q r = ⟨#[]⟩
    · have hv : nbr BR NG s (bsN cv.letter) cv.width p = some (⟨#[]⟩, false) := by unfold nbr; rw [HD.out, if_pos hemp]
      have HV := Lib.hid hv
      rw [hemp]
      clear hemp hv
      go_wp2_with fail
      go_ret2
      exact ⟨HR.out ▸ hI5, k05, .inl ⟨_, HV.out, rfl⟩⟩
    · have g1 := empty_false hemp
      have HE := Lib.hid hemp
      have hb2 : 2 ≤ bsN cv.letter ∧ bsN cv.letter ≤ 16 := by unfold bsN; split <;> (try split) <;> (try split) <;> omega
      have hcB := fun w => HBR.out (cut s q r) (bsN cv.letter) w hds hb2.1 hb2.2
      have HCB := Lib.hid hcB
      clear hemp hcB
      go_wp2_with fail
      refine (HCB.out _).mono ?_
      rintro e w6 ⟨rfl, k6⟩
      have hI6 := hI5.chg k6 (fun h => h)
      have k06 := k05.trans (k6.mono (fun _ h => h.elim))
      have hI6' := hI6
      obtain ⟨bn, hbn⟩ : ∃ x, x = (BR (cut s q r) (bsN cv.letter)).1 := ⟨_, rfl⟩
      obtain ⟨be, hbe⟩ : ∃ x, x = (BR (cut s q r) (bsN cv.letter)).2 := ⟨_, rfl⟩
      have hN := fun w => HNG.out (cut s q r) (bsN cv.letter) w hds hb2.1 hb2.2
      rw [← hbn, ← hbe] at hN
      have hnv : nbr BR NG s (bsN cv.letter) cv.width p = if be = 0 then (if cut s (wh s p) q = ⟨#[45]⟩ then (if (NG bn).2 = 0 then some ((NG bn).1, true) else none) else some (bn, true)) else none := by
        unfold nbr; rw [HD.out, if_neg HE.out, ← hbn, ← hbe, HG.out]
      rw [← hbn, ← hbe]
      have HN := Lib.hid hN
      clear hN hbn hbe hI5 hB5 k05 cB
      by_cases hbe0 : be = 0
      · have e1 : (be == 0) = true := by simpa using hbe0
        have e2 : (be != 0) = false := by simpa using hbe0
        rw [if_pos hbe0] at hnv
        by_cases hsg : cut s (wh s p) q = ⟨#[45]⟩
        · rw [if_pos hsg] at hnv
          rw [hsg]
          have HV := Lib.hid hnv
          have hN0 := fun w => HN.out w hbe0
          have HN0 := Lib.hid hN0
          clear hnv hsg hN0 hbe0
          go_wp2_with fail
          refine (HN0.out _).mono ?_
          rintro e w7 ⟨rfl, k7⟩
          have hI7 := hI6.chg k7 (fun h => h)
          have k07 := k06.trans (k7.mono (fun _ h => h.elim))
          by_cases hz : (NG bn).2 = 0
          · have e3 : ((NG bn).2 != 0) = false := by simpa using hz
            have HZ := Lib.hid hz
            clear hz
            go_wp2_with fail
            go_ret2
            exact ⟨HR.out ▸ hI7, k07, .inl ⟨_, by rw [HV.out, if_pos HZ.out], rfl⟩⟩
          · have e3 : ((NG bn).2 != 0) = true := by simpa using hz
            have HZ := Lib.hid hz
            clear hz
            go_wp2_with fail
            exact ⟨rfl, HR.out ▸ hI7, k07, .inr ⟨by rw [HV.out, if_neg HZ.out], rfl⟩⟩
        · have e4 : ((cut s (wh s p) q).toList == [45]) = false := by
            have := list_false hsg
            rwa [Lib.toList_data (⟨#[45]⟩ : ByteArray)] at this
          rw [if_neg hsg] at hnv
          have HV := Lib.hid hnv
          clear hnv hsg hbe0
          go_wp2_with fail
          go_ret2
          exact ⟨HR.out ▸ hI6, k06, .inl ⟨_, HV.out, rfl⟩⟩
      · have e1 : (be == 0) = false := by simpa using hbe0
        have e2 : (be != 0) = true := by simpa using hbe0
        rw [if_neg hbe0] at hnv
        have HV := Lib.hid hnv
        clear hnv hbe0
        go_wp2_with fail
        exact ⟨rfl, HR.out ▸ hI6, k06, .inr ⟨HV.out, rfl⟩⟩
end Go.Proofs.YtemogjpgkcbaiaaGreatDoor.Sp
end
