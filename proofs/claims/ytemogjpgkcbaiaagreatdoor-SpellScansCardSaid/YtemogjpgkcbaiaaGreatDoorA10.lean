/- Part 10 of 11 of the proof of SpellScans: contracts of functions that its law calls; no condition. -/
import Derived.Test.YtemogjpgkcbaiaaGreatDoorA9
import Derived.BigQuiet
import Derived.Maps.AppendAt
import Derived.RangeFuncBox
import Derived.RangeFuncCalls
section
namespace Go.Proofs.YtemogjpgkcbaiaaGreatDoor.Sp
open Go.RowKit Go.Proofs.YtemogjpgkcbaiaaGreatDoorW.PrintWords Go.Proofs.YtemogjpgkcbaiaaGreatDoorW.PrintLast Go.Proofs.YtemogjpgkcbaiaaGreatDoorW.PrintMore
set_option linter.unusedVariables false
set_option linter.unusedSimpArgs false
set_option maxRecDepth 100000
attribute [local go_sem] Oper.semAt_some max2_int min2_int max_two min_two
def nStop (s : ByteArray) (W a : Int) : Int := if 0 ≤ W then min (s.size : Int) (a + W) else s.size
def nSg (s : ByteArray) (W a : Int) : Bool := decide (a < nStop s W a) && (bt s a == 45 || bt s a == 43)
def nBeg (s : ByteArray) (W a : Int) : Int := if nSg s W a = true then a + 1 else a
def nEnd (s : ByteArray) (b W a : Int) : Int := rn (fun c => decide (vlb c < b)) s (nStop s W a - nBeg s W a).toNat (nBeg s W a)
def nTx (s : ByteArray) (b W a : Int) : ByteArray := (if nSg s W a = true ∧ bt s a = 45 then ⟨#[45]⟩ else ⟨#[]⟩) ++ cut s (nBeg s W a) (nEnd s b W a)
theorem dgR_vlb (b : Nat) (c : UInt8) : decide (0 ≤ dgR b c) = decide (vlb (c.toNat : Int) < b) := by
  unfold dgR dv
  have := vlb_range (c.toNat : Int)
  by_cases h : vlb (c.toNat : Int) < b
  · rw [if_pos (by omega), decide_eq_true h, decide_eq_true (by omega)]
  · rw [if_neg (by omega), decide_eq_false h, decide_eq_false (by omega)]
set_option maxHeartbeats 2000000 in
theorem number40 (s : ByteArray) (hs : s.size ≤ 100000) (g : Nat → Value) (hO : One g) (W L : Int) (hL : L ≠ 88) (h6 : g 6 = .int .i64 W) (h11 : g 11 = .int .u8 L) (hW0 : -1 ≤ W) (hW1 : W ≤ 999) (a : Int) (h0 : 0 ≤ a) (h1 : a ≤ s.size) (w : World) :
    Calls Tryz.prog 40 #[.agg (gL g).toArray, .string s, .int .i64 a] w fun e w' => e = .returned (.tuple #[.string (nTx s (bsN L) W a), .int .i64 (nEnd s (bsN L) W a), .bool (decide (nBeg s W a < nEnd s (bsN L) W a))]) ∧ Chg (fun _ => False) w w' := by
  have hbN : 2 ≤ bsN L ∧ bsN L ≤ 16 := bsN_range L
  have HS := Lib.hid (show nStop s W a = if 0 ≤ W then min (s.size : Int) (a + W) else s.size from rfl)
  have HG := Lib.hid (show nSg s W a = (decide (a < nStop s W a) && (bt s a == 45 || bt s a == 43)) from rfl)
  have HBG := Lib.hid (show nBeg s W a = if nSg s W a = true then a + 1 else a from rfl)
  have HEN := Lib.hid (show nEnd s (bsN L) W a = rn (fun c => decide (vlb c < bsN L)) s (nStop s W a - nBeg s W a).toNat (nBeg s W a) from rfl)
  have HTX := Lib.hid (show nTx s (bsN L) W a = (if nSg s W a = true ∧ bt s a = 45 then ⟨#[45]⟩ else ⟨#[]⟩) ++ cut s (nBeg s W a) (nEnd s (bsN L) W a) from rfl)
  obtain ⟨TX, hTX⟩ : ∃ TX, TX = nTx s (bsN L) W a := ⟨_, rfl⟩
  obtain ⟨E, hE⟩ : ∃ E, E = nEnd s (bsN L) W a := ⟨_, rfl⟩
  obtain ⟨Bg, hB⟩ : ∃ Bg, Bg = nBeg s W a := ⟨_, rfl⟩
  obtain ⟨S, hS⟩ : ∃ S, S = nStop s W a := ⟨_, rfl⟩
  obtain ⟨G, hG⟩ : ∃ G, G = nSg s W a := ⟨_, rfl⟩
  rw [← hS] at HS
  rw [← hS, ← hG] at HG
  rw [← hB, ← hG] at HBG
  rw [← hE, ← hS, ← hB] at HEN
  rw [← hTX, ← hG, ← hB, ← hE] at HTX
  rw [← hTX, ← hE, ← hB]
  clear hTX hE hB hS hG
  have hSr : a ≤ S ∧ S ≤ s.size ∧ 0 ≤ S := by have := HS.out; split at this <;> omega
  go_enter Tryz.func40, Tryz.ntmps40
  go_upto_region 2 with fail
  obtain ⟨W0, hW0'⟩ : ∃ W0, W0 = w.alloc (Obj.cells (gL g).toArray 72) := ⟨_, rfl⟩
  obtain ⟨C, hC⟩ : ∃ C, C = w.heap.size := ⟨_, rfl⟩
  have hF0 : FB W0 C g := by rw [hW0', hC]; exact World.alloc_heap_new w _
  have k0 : Chg (fun _ => False) w W0 := by rw [hW0']; exact (Chg.refl _ w).alloc _
  rw [← hW0', ← hC]
  clear hW0' hC
  have c6 : W0.cell? ⟨C, 6, none⟩ = some (.int .i64 W) := by rw [hF0.c 6 (by decide), h6]
  have c11 : W0.cell? ⟨C, 11, none⟩ = some (.int .u8 L) := by rw [hF0.c 11 (by decide), h11]
  have w2 : IntKind.i64.wrap (a + W) = a + W := i64_small (by omega) (by omega)
  have HC11 := Lib.hid c11
  clear c11
  go_upto_if 16 with fail
  go_cut [9] (fun v9 wx => v9 = .int .i64 S ∧ wx = W0)
  case first =>
    by_cases hw : 0 ≤ W
    · have g1 : decide (0 ≤ W) = true := decide_eq_true hw
      have g1' : (0 ≤ W) = True := eq_true hw
      have hs2 := HS.out
      rw [if_pos hw] at hs2
      have HS2 := Lib.hid hs2
      clear hs2 hw
      simp only [g1]
      go_wp2_with fail
      all_goals
        go_meet
        have := HS2.out
        refine ⟨?_, rfl⟩
        congr 1
        omega
    · have g1 : decide (0 ≤ W) = false := decide_eq_false hw
      have g1' : (0 ≤ W) = False := eq_false hw
      have hs2 := HS.out
      rw [if_neg hw] at hs2
      have HS2 := Lib.hid hs2
      clear hs2 hw
      simp only [g1]
      go_wp2_with fail
      go_meet
      exact ⟨by rw [HS2.out], rfl⟩
  case rest =>
  obtain ⟨rfl, rfl⟩ := hcut
  have hb := bt_at s a
  have p0 : (0 ≤ a) = True := eq_true h0
  go_upto_region 5 with fail
  go_cut [37] (fun v37 wx => v37 = .bool G ∧ wx = wc)
  case first =>
    have hg := HG.out
    by_cases hl : a < S
    · have q4 : (a < S) = True := eq_true hl
      have g1 : decide (a < S) = true := decide_eq_true hl
      have q5 : (a < (s.size : Int)) = True := eq_true (by omega)
      rw [g1, Bool.true_and] at hg
      by_cases h45 : bt s a = 45
      · have g2 : (bt s a == 45) = true := by simpa using h45
        rw [g2, Bool.true_or] at hg
        subst hg
        clear h45 hl
        go_wp2_with fail
        go_meet
        exact ⟨rfl, rfl⟩
      · have g2 : (bt s a == 45) = false := by simpa using h45
        rw [g2, Bool.false_or] at hg
        have HG2 := Lib.hid hg
        clear h45 hl hg
        go_wp2_with fail
        go_meet
        exact ⟨by rw [HG2.out], rfl⟩
    · have q4 : (a < S) = False := eq_false hl
      have g1 : decide (a < S) = false := decide_eq_false hl
      rw [g1, Bool.false_and] at hg
      subst hg
      clear hl
      go_wp2_with fail
      go_meet
      exact ⟨rfl, rfl⟩
  case rest =>
  obtain ⟨rfl, rfl⟩ := hcut
  go_upto_if 37 with fail
  go_cut [2, 10] (fun v2 v10 wx => v2 = .int .i64 Bg ∧ v10 = .string (if G = true ∧ bt s a = 45 then ⟨#[45]⟩ else ⟨#[]⟩) ∧ wx = wc)
  case first =>
    have hbg := HBG.out
    cases G
    · rw [if_neg (by simp)] at hbg
      have HB2 := Lib.hid hbg
      clear hbg
      go_wp2_with fail
      go_meet
      exact ⟨by rw [HB2.out], by rw [if_neg (fun h => by cases h.1)], rfl⟩
    · rw [if_pos rfl] at hbg
      have HB2 := Lib.hid hbg
      have hg := HG.out
      have hl : a < S := by simpa using (Bool.and_eq_true_iff.1 hg.symm).1
      have q5 : (a < (s.size : Int)) = True := eq_true (by omega)
      have w1 : IntKind.i64.wrap (a + 1) = a + 1 := i64_small (by omega) (by omega)
      clear hbg hg hl
      by_cases h45 : bt s a = 45
      · have g2 : (bt s a == 45) = true := by simpa using h45
        have H45 := Lib.hid h45
        clear h45
        go_wp2_with fail
        go_meet
        exact ⟨by rw [HB2.out], (by first | rw [if_pos ⟨trivial, H45.out⟩] | rw [if_pos ⟨rfl, H45.out⟩]), rfl⟩
      · have g2 : (bt s a == 45) = false := by simpa using h45
        have H45 := Lib.hid h45
        clear h45
        go_wp2_with fail
        go_meet
        exact ⟨by rw [HB2.out], by rw [if_neg (fun h => H45.out h.2)], rfl⟩
  case rest =>
  obtain ⟨rfl, rfl, rfl⟩ := hcut
  have hBr : a ≤ Bg ∧ Bg ≤ S := by
    have h := HBG.out
    have hg := HG.out
    cases G
    · rw [if_neg (by simp)] at h; omega
    · rw [if_pos rfl] at h
      have : a < S := by simpa using (Bool.and_eq_true_iff.1 hg.symm).1
      omega
  obtain ⟨SG, hSG⟩ : ∃ SG : ByteArray, SG = (if G = true ∧ bt s a = 45 then ⟨#[45]⟩ else ⟨#[]⟩) := ⟨_, rfl⟩
  have hSGs : SG.size ≤ 1 := by rw [hSG]; split <;> decide
  have HTX2 := Lib.hid (show TX = SG ++ cut s Bg E by rw [HTX.out, hSG])
  rw [← hSG]
  clear hSG hb p0 c6
  have hbs := fun W => base42 L hL W
  have HBS := Lib.hid hbs
  obtain ⟨b, hbb⟩ : ∃ b : Nat, bsN L = b := ⟨(bsN L).toNat, by omega⟩
  rw [hbb] at HEN HBS
  have hb36 : b ≤ 36 := by omega
  clear hbs hL h6 h11 hO
  obtain ⟨f, hf⟩ : ∃ f : Int → Bool, f = fun c => decide (vlb c < (b : Int)) := ⟨_, rfl⟩
  rw [← hf] at HEN
  have HFD := Lib.hid hf
  clear hf hbb hbN
  go_wp2_with fail
  go_loopg [11] (S - Bg).toNat (fun gk v11 wr => ∃ (i : Int) (m : Nat), v11 = .int .i64 i ∧ (gk : Int) = S - i ∧ Bg ≤ i ∧ i ≤ S ∧ (m : Int) + i = S ∧ E = rn f s m i ∧ FB wr C g ∧ Chg (fun _ => False) w wr)
  case atStart => exact ⟨Bg, (S - Bg).toNat, rfl, by omega, Int.le_refl _, hBr.2, by omega, HEN.out, hF0, k0⟩
  case round =>
    obtain ⟨i, m, rfl, hgk, hi0, hi1, hm, hEi, hF, kR⟩ := hrel
    have HGG := Lib.hid (And.intro hgk (And.intro hi0 (And.intro hi1 hm)))
    have hc11 : g 11 = .int .u8 L := by
      have := HC11.out
      rw [hF0.c 11 (by decide)] at this
      exact Option.some.inj this
    have c11 := hF.c 11 (by decide)
    rw [hc11] at c11
    have w1 : IntKind.i64.wrap (i + 1) = i + 1 := i64_small (by omega) (by omega)
    have z1 : (0 ≤ Bg) = True := eq_true (by omega)
    have z2 : (Bg ≤ i) = True := eq_true hi0
    have z3 : (i ≤ (s.size : Int)) = True := eq_true (by omega)
    have hex : (s.extract Bg.toNat i.toNat).size ≤ 100000 := by rw [ByteArray.size_extract]; omega
    have hsum : (9223372036854775807 < SG.size + (s.extract Bg.toNat i.toNat).size) = False := by simp; omega
    have hsum2 : (9223372036854775807 < SG.size + (min i.toNat s.size - Bg.toNat)) = False := by simp; omega
    have hsum3 : (9223372036854775807 < SG.size + (i.toNat - Bg.toNat)) = False := by simp; omega
    clear hex
    by_cases hlt : i < S
    · have q4 : (i < S) = True := eq_true hlt
      have g1 : decide (i < S) = true := decide_eq_true hlt
      have hls : i < s.size := by omega
      have q5 : (i < (s.size : Int)) = True := eq_true hls
      have p4 : (0 ≤ i) = True := eq_true (by omega)
      have hb := bt_at s i
      obtain ⟨m, rfl⟩ : ∃ m', m = m' + 1 := ⟨m - 1, by omega⟩
      have hst : E = if f (bt s i) = true then rn f s m (i + 1) else i := by rw [hEi, rn]; simp only [hls, true_and]
      obtain ⟨c, hc1, hc2, hc3⟩ := dv_bt s i.toNat (by omega)
      rw [Int.toNat_of_nonneg (by omega)] at hc2 hc3
      rw [hc2] at hb hst
      have hfd : f (c.toNat : Int) = decide (0 ≤ dgR b c) := by rw [HFD.out, dgR_vlb]
      rw [hfd] at hst
      have hdg : ∀ n, Calls Tryz.prog 73 #[.int .u8 (c.toNat : Int), .int .i64 (b : Int)] (wr.drewN n) fun e w' => e = .returned (.int .i64 (dgR b c)) ∧ ∃ m, w' = (wr.drewN n).drewN m := fun n =>
        (PDigit.threadbareref01_Digit.calls _ _ _ (wr.drewN n) (digit_ref b hb36 c)).mono fun e w' h => ⟨h.1, h.2.out⟩
      have HDG := Lib.hid hdg
      have HST := Lib.hid hst
      obtain ⟨dd, hdd⟩ : ∃ dd, dd = dgR b c := ⟨_, rfl⟩
      rw [← hdd] at HDG HST
      have HLT := Lib.hid hlt
      clear hgk hi0 hi1 hm hEi hst hc1 hc2 hc3 hfd hdg hdd hlt hls hF0 k0 hc11
      go_wp2_with fail
      go_quiet ((first | (exact Calls.quiet_of_same (HBS.out _)) | (exact Calls.quiet_of (HDG.out _))))
      have hF2 : FB (wr.drewN nq) C g := hF
      have kR2 := kR.drewN nq
      clear hF kR c11
      generalize wr.drewN nq = W2 at *
      by_cases hd : 0 ≤ dd
      · have HEE := Lib.hid (show E = rn f s m (i + 1) by have := HST.out; rw [decide_eq_true hd, if_pos rfl] at this; exact this)
        have g3 : decide (0 ≤ dd) = true := decide_eq_true hd
        have g4 : (0 ≤ dd) = True := eq_true hd
        clear hd
        simp only [g3, g4]
        go_wp2_with fail
        go_roundg (S - (i + 1)).toNat
        case measure => have := HGG.out; have := HLT.out; omega
        case rel => have := HGG.out; have := HLT.out; exact ⟨i + 1, m, rfl, by omega, by omega, by omega, by omega, HEE.out, hF2, kR2⟩
      · have HEE := Lib.hid (show E = i by have := HST.out; rw [decide_eq_false hd, if_neg (by simp)] at this; exact this)
        have g3 : decide (0 ≤ dd) = false := decide_eq_false hd
        have g4 : (0 ≤ dd) = False := eq_false hd
        clear hd
        simp only [g3, g4]
        go_wp2_with fail
        refine bodyPost_ret (v := .tuple #[.string (SG ++ s.extract Bg.toNat i.toNat), .int .i64 i, .bool (decide (Bg < i))]) (by simp [results, Tryz.results40, go_sem]) rfl ⟨?_, kR2⟩
        rw [HTX2.out, HEE.out]; rfl
    · have q4 : (i < S) = False := eq_false hlt
      have g1 : decide (i < S) = false := decide_eq_false hlt
      have HEE := Lib.hid (show E = i by
        rw [hEi]
        have : m = 0 := by omega
        rw [this]; rfl)
      clear hgk hm hEi hF0 k0 hlt hc11 c11
      go_wp2_with fail
      go_quiet (fail)
      have kR2 := kR.drewN nq
      clear hF kR
      generalize wr.drewN nq = W2 at *
      go_wp2_with fail
      refine bodyPost_ret (v := .tuple #[.string (SG ++ s.extract Bg.toNat i.toNat), .int .i64 i, .bool (decide (Bg < i))]) (by simp [results, Tryz.results40, go_sem]) rfl ⟨?_, kR2⟩
      rw [HTX2.out, HEE.out]; rfl
end Go.Proofs.YtemogjpgkcbaiaaGreatDoor.Sp
end
section
namespace Go.Proofs.YtemogjpgkcbaiaaGreatDoor.Sp
open Go.RowKit Go.Proofs.YtemogjpgkcbaiaaGreatDoorW.PrintWords Go.Proofs.YtemogjpgkcbaiaaGreatDoorW.PrintLast Go.Proofs.YtemogjpgkcbaiaaGreatDoorW.PrintMore
set_option linter.unusedVariables false
set_option linter.unusedSimpArgs false
set_option maxRecDepth 100000
attribute [local go_sem] Oper.semAt_some
theorem pow_1200 : 10 ^ M600 ≤ 10 ^ K1200 := by decide +kernel
theorem told_num (neg : Bool) (V : Nat) (m : List Nat) (h : DG V m) : toldR (neg && decide (0 < m.length)) m = numRes neg V := by
  obtain ⟨U, h1, h2, h3⟩ := h
  by_cases hk : K1200 < m.length
  · have hU : 10 ^ K1200 ≤ U := by
      rw [h1] at hk
      exact Nat.not_lt.1 (fun hh => by have := (leN_length ten2 K1200 U).2 hh; omega)
    have hUV : U ≤ V := by rcases h3 with h | h <;> omega
    have hf : fitsN V = false := decide_eq_false (fun hh => by have := pow_1200; omega)
    unfold toldR numRes
    rw [if_pos (by unfold K1200 at hk; omega), hf]
    rfl
  · have hUV : U = V := h3.resolve_right (fun h => hk h.1)
    subst hUV
    have hlen := leN_length ten2 M600 U
    rw [← h1] at hlen
    unfold toldR numRes
    by_cases hf : U < 10 ^ M600
    · have : m.length ≤ M600 := hlen.2 hf
      rw [if_neg (by unfold M600 at this; omega), show fitsN U = true from decide_eq_true hf, if_pos rfl]
      congr 1
      unfold txR ntx
      by_cases h0 : U = 0
      · rw [if_pos (by rw [h1, h0, leN_zero]), if_pos h0]
      · have hne : m ≠ [] := by rw [h1]; exact fun h => h0 ((leN_nil ten2).1 h)
        have hpos : 0 < m.length := List.length_pos_iff.2 hne
        rw [if_neg hne, if_neg h0, decide_eq_true hpos, Bool.and_true, h1]
        rfl
    · have : ¬ m.length ≤ M600 := fun h => hf (hlen.1 h)
      rw [if_pos (by unfold M600 at this; omega), show fitsN U = false from decide_eq_false hf]
      rfl
def rfRead (s : ByteArray) (b : Nat) : ByteArray × Int :=
  let t := if Lib.hasPrefix s.data.toList [45] = true then s.data.toList.tail else s.data.toList
  if rdok b t = true then numRes (Lib.hasPrefix s.data.toList [45]) (foV b t 0) else (⟨#[]⟩, 2)
set_option maxHeartbeats 1000000 in
theorem read41 (s : ByteArray) (hs : s.size ≤ 100000) (b : Nat) (hb : 2 ≤ b) (hb2 : b ≤ 36) (w : World) (hT : T10 w) : Calls Tryz.prog 41 #[.string s, .int .i64 (b : Int)] w fun e w' => e = .returned (.tuple #[.string (rfRead s b).1, .int .i64 (rfRead s b).2]) ∧ Chg (fun _ => False) w w' := by
  have e1 : decide ((b : Int) < 2) = false := by simp; omega
  have e2 : decide ((36 : Int) < (b : Int)) = false := by simp; omega
  obtain ⟨P, hP⟩ : ∃ P, P = Lib.hasPrefix s.data.toList [45] := ⟨_, rfl⟩
  obtain ⟨t, ht⟩ : ∃ t : ByteArray, t = if P = true then ⟨s.data.toList.tail.toArray⟩ else s := ⟨_, rfl⟩
  have hts : t.size ≤ 100000 := by
    rw [ht]; split
    · rw [ba_size, List.length_tail]; have : s.data.toList.length = s.size := Array.length_toList; omega
    · exact hs
  have hRR : rfRead s b = if rdok b t.data.toList = true then numRes P (foV b t.data.toList 0) else (⟨#[]⟩, 2) := by
    unfold rfRead
    rw [← hP, ht]
    cases P <;> rfl
  have HRR := Lib.hid hRR
  have HT := Lib.hid hT
  have hdig := fun W => digits74 t hts b hb hb2 W
  have HDIG := Lib.hid hdig
  have hcase : (s.data.toList = [] ∧ P = false ∧ t = s) ∨ (∃ c l, s.data.toList = c :: l ∧ c = 45 ∧ P = true ∧ t = ⟨l.toArray⟩) ∨ (∃ c l, s.data.toList = c :: l ∧ c ≠ 45 ∧ P = false ∧ t = s) := by
    cases hl : s.data.toList with
    | nil => rw [hl] at hP ht; exact .inl ⟨rfl, by rw [hP]; rfl, by rw [ht, hP]; rfl⟩
    | cons c l =>
      rw [hl] at hP ht
      by_cases h : c = 45
      · refine .inr (.inl ⟨c, l, rfl, h, ?_, ?_⟩)
        · rw [hP, h]; rfl
        · rw [ht, hP, h]; rfl
      · have hp : P = false := by
          rw [hP]
          simp [Lib.hasPrefix, List.isPrefixOf, h]
          try (intro e; exact h e.symm)
        refine .inr (.inr ⟨c, l, rfl, h, hp, ?_⟩)
        rw [ht, hp]; rfl
  clear hdig hRR hP ht hts
  have hsd : s = ⟨s.data.toList.toArray⟩ := ba_ext rfl
  go_enter Tryz.func41, Tryz.ntmps41
  go_upto_region 3 with fail
  have HCASE := Lib.hid hcase
  go_cut [6] (fun v6 wx => v6 = .bool P ∧ wx = w)
  case first =>
    rcases hcase with ⟨h1, rfl, h3⟩ | ⟨c, l, h1, rfl, rfl, h3⟩ | ⟨c, l, h1, h2, rfl, h3⟩
    · have q1 : s.toList = [] := by rw [Lib.toList_data]; exact h1
      have q2 : s.toList.isEmpty = true := by rw [q1]; rfl
      clear h1 hsd h3
      go_wp2_with fail
      go_meet
      exact ⟨rfl, rfl⟩
    · rw [h1] at hsd
      obtain ⟨a1, a2, a3, a4, a5⟩ := bt0_cons s 45 l hsd
      have q3 := ix_run0 s a1 w
      rw [a2] at q3
      have q5 : (s.toList = []) = False := by simp; intro h; rw [h] at a4; cases a4
      clear h1 hsd a3 a5 h3
      go_wp2_with fail
      go_meet
      exact ⟨rfl, rfl⟩
    · rw [h1] at hsd
      obtain ⟨a1, a2, a3, a4, a5⟩ := bt0_cons s c l hsd
      have q3 := ix_run0 s a1 w
      rw [a2] at q3
      have q5 : (s.toList = []) = False := by simp; intro h; rw [h] at a4; cases a4
      have q6 : ((c.toNat : Int) == 45) = false := by
        simp; intro h
        exact h2 (UInt8.toNat_inj.1 (by have : (45 : UInt8).toNat = 45 := rfl; omega))
      clear h1 hsd a3 a5 h3
      go_wp2_with fail
      go_meet
      exact ⟨rfl, rfl⟩
  case rest =>
  obtain ⟨rfl, rfl⟩ := hcut
  go_upto_if 22 with fail
  go_cut [0] (fun v0 wx => v0 = .string t ∧ wx = wc)
  case first =>
    rcases hcase with ⟨h1, rfl, h3⟩ | ⟨c, l, h1, rfl, rfl, h3⟩ | ⟨c, l, h1, h2, rfl, h3⟩
    · have H3 := Lib.hid h3
      clear h3 hsd h1
      go_wp2_with fail
      go_meet
      exact ⟨by rw [H3.out], rfl⟩
    · rw [h1] at hsd
      obtain ⟨a1, a2, a3, a4, a5⟩ := bt0_cons s 45 l hsd
      have q4 := sl_run1 s a1 wc
      rw [a3, ← h3] at q4
      clear h1 hsd a3 a5 h3
      go_wp2_with fail
      go_meet
      exact ⟨rfl, rfl⟩
    · have H3 := Lib.hid h3
      clear h3 hsd h1
      go_wp2_with fail
      go_meet
      exact ⟨by rw [H3.out], rfl⟩
  case rest =>
  obtain ⟨rfl, rfl⟩ := hcut
  clear hcase hsd
  go_wp2_with fail
  refine (HDIG.out _).mono ?_
  rintro e w2 ⟨v, m, rfl, k2, hok⟩
  have hT2 := HT.out.chg k2 (fun h => h)
  obtain ⟨ok, hokd⟩ : ∃ ok, ok = rdok b t.data.toList := ⟨_, rfl⟩
  have hRR := HRR.out
  rw [← hokd] at hok hRR ⊢
  have HRR2 := Lib.hid hRR
  clear hRR hokd
  cases ok
  · clear hok
    go_wp2_with fail
    go_ret2
    exact ⟨by rw [HRR2.out]; rfl, k2⟩
  · obtain ⟨hN, hD⟩ := hok rfl
    have hmd : ∀ d ∈ m, d < 10 := by obtain ⟨U, h1, _⟩ := hD; rw [h1]; exact leN_dg ten2 U
    have hml : m.length ≤ 2000 := by obtain ⟨U, _, h1, _⟩ := hD; omega
    have htn := told_num P _ m hD
    have HR3 := Lib.hid (show rfRead s b = toldR (P && decide (0 < m.length)) m by rw [HRR2.out, if_pos rfl, htn])
    have HML := Lib.hid hml
    clear hD htn hok hml
    go_wp2_with fail
    refine (num76 P v m w2 hN).mono ?_
    rintro e w3 ⟨rfl, k3⟩
    have hN3 := hN.chg k3
    go_wp2_with fail
    refine (told75 _ v m HML.out hmd w3 hN3 (hT2.chg k3 (fun h => h))).mono ?_
    rintro e w4 ⟨rfl, k4⟩
    go_wp2_with fail
    go_ret2
    exact ⟨by rw [HR3.out]; rfl, (k2.trans k3).trans k4⟩
end Go.Proofs.YtemogjpgkcbaiaaGreatDoor.Sp
end
section
namespace Go.Proofs.YtemogjpgkcbaiaaGreatDoor.Sp
open Go.RowKit Go.Proofs.YtemogjpgkcbaiaaGreatDoorW.PrintWords Go.Proofs.YtemogjpgkcbaiaaGreatDoorW.PrintLast Go.Proofs.YtemogjpgkcbaiaaGreatDoorW.PrintMore
set_option linter.unusedVariables false
set_option linter.unusedSimpArgs false
def ch10 (d : Nat) : UInt8 := UInt8.ofNat (48 + d)
theorem ch10_facts : ∀ d : Fin 10, dv (ch10 d.val) = d.val ∧ wb (ch10 d.val) = false ∧ ch10 d.val ≠ 45 ∧ ch10 d.val ≠ 43 ∧ ch10 d.val ≠ 120 ∧ ch10 d.val ≠ 111 ∧ ch10 d.val ≠ 98 ∧ UInt8.ofNat (ltr d.val).toNat = ch10 d.val := by decide +kernel
theorem ch10_f {d : Nat} (h : d < 10) : dv (ch10 d) = d ∧ wb (ch10 d) = false ∧ ch10 d ≠ 45 ∧ ch10 d ≠ 43 ∧ ch10 d ≠ 120 ∧ ch10 d ≠ 111 ∧ ch10 d ≠ 98 ∧ UInt8.ofNat (ltr d).toNat = ch10 d := ch10_facts ⟨d, h⟩
theorem dtx_list (V : Nat) : (dtx 10 V).data.toList = (leN 10 V).reverse.map ch10 := by
  show (((leN 10 V).map ltr).reverse.map fun n => UInt8.ofNat n.toNat) = _
  rw [← List.map_reverse, List.map_map]
  refine List.map_congr_left fun d hd => ?_
  have h10 : d < 10 := leN_dg ten2 V d (List.mem_reverse.1 hd)
  exact (ch10_f h10).2.2.2.2.2.2.2
theorem foV_rev (l : List Nat) (hd : ∀ d ∈ l, d < 10) : foV 10 (l.reverse.map ch10) 0 = vN 10 l := by
  induction l with
  | nil => rfl
  | cons d l ih =>
    rw [List.reverse_cons, List.map_append, foV_append, ih (fun x hx => hd x (by simp [hx]))]
    have := (ch10_f (hd d (by simp))).1
    show dv (ch10 d) + 10 * vN 10 l = _
    rw [this]; rfl
theorem prs_plain (l : List UInt8) (h0 : l ≠ []) (hc : ∀ c ∈ l, wb c = false ∧ c ≠ 45 ∧ c ≠ 43 ∧ c ≠ 120 ∧ c ≠ 111 ∧ c ≠ 98 ∧ dOk 10 c = true) : prs l = some (false, foV 10 l 0) := by
  have hstrip : stripW l = l := by
    have hd : ∀ m : List UInt8, (∀ c ∈ m, wb c = false) → m.dropWhile wb = m := fun m hm => by
      cases m with
      | nil => rfl
      | cons c m => rw [List.dropWhile_cons, hm c (by simp)]; rfl
    unfold stripW
    rw [hd l (fun c h => (hc c h).1), hd l.reverse (fun c h => (hc c (List.mem_reverse.1 h)).1), List.reverse_reverse]
  have hp : ∀ x : UInt8, (∀ c ∈ l, c ≠ x) → Lib.hasPrefix l [x] = false := fun x hx => by
    cases l with
    | nil => rfl
    | cons c m =>
      have : c ≠ x := hx c (by simp)
      simp [Lib.hasPrefix, List.isPrefixOf, this.symm]
  have hp2 : ∀ x : UInt8, (∀ c ∈ l, c ≠ x) → Lib.hasPrefix l [48, x] = false := fun x hx => by
    match l, hx with
    | [], _ => rfl
    | [c], _ => simp [Lib.hasPrefix, List.isPrefixOf]
    | c :: d :: m, hx =>
      have : d ≠ x := hx d (by simp)
      simp [Lib.hasPrefix, List.isPrefixOf, this.symm]
  have hu : uns l = (false, l) := by
    unfold uns
    rw [hp 45 (fun c h => (hc c h).2.1), hp 43 (fun c h => (hc c h).2.2.1)]; rfl
  have hb : unb l = (10, l) := by
    unfold unb
    rw [hp2 120 (fun c h => (hc c h).2.2.2.1), hp2 111 (fun c h => (hc c h).2.2.2.2.1), hp2 98 (fun c h => (hc c h).2.2.2.2.2.1)]; rfl
  have hr : rdok 10 l = true := by
    unfold rdok
    rw [Bool.and_eq_true]
    refine ⟨?_, List.all_eq_true.2 fun c h => (hc c h).2.2.2.2.2.2⟩
    cases l with
    | nil => exact absurd rfl h0
    | cons c m => rfl
  unfold prs
  rw [hstrip, hu, hb, if_pos hr]
theorem prs_ntx (V : Nat) : prs (ntx false 10 V).data.toList = some (false, V) := by
  by_cases h : V = 0
  · subst h; decide +kernel
  · have he : (ntx false 10 V).data.toList = (leN 10 V).reverse.map ch10 := by
      unfold ntx; rw [if_neg h, if_neg (by simp)]; exact dtx_list V
    rw [he, prs_plain]
    · rw [foV_rev _ (leN_dg ten2 V), vN_leN ten2]
    · intro e
      have := congrArg List.length e
      simp at this
      exact h ((leN_nil ten2).1 this)
    · intro c hc
      obtain ⟨d, hd, rfl⟩ := List.mem_map.1 hc
      have h10 := leN_dg ten2 V d (List.mem_reverse.1 hd)
      have := ch10_f h10
      refine ⟨this.2.1, this.2.2.1, this.2.2.2.1, this.2.2.2.2.1, this.2.2.2.2.2.1, this.2.2.2.2.2.2.1, ?_⟩
      unfold dOk
      rw [this.1]
      exact decide_eq_true h10
theorem rn_one (f : Int → Bool) (s : ByteArray) (p : Int) : rn f s 1 p = if p < s.size ∧ f (bt s p) = true then p + 1 else p := rfl
theorem rn_min (f : Int → Bool) (s : ByteArray) : ∀ (m : Nat) (p : Int), rn f s m p = rn f s (min m (s.size - p).toNat) p
  | 0, p => by rw [Nat.zero_min]
  | m + 1, p => by
    by_cases h : p < s.size
    · obtain ⟨q, hq⟩ : ∃ q, ((s.size : Int) - p).toNat = q + 1 := ⟨((s.size : Int) - p).toNat - 1, by omega⟩
      rw [hq, Nat.add_min_add_right]
      have ih := rn_min f s m (p + 1)
      rw [show ((s.size : Int) - (p + 1)).toNat = q from by omega] at ih
      simp only [rn, ih]
    · have e : ((s.size : Int) - p).toNat = 0 := by omega
      rw [e, Nat.min_zero]
      show (if p < s.size ∧ f (bt s p) = true then rn f s m (p + 1) else p) = p
      rw [if_neg (fun hh => h hh.1)]
theorem rn_all (f : Int → Bool) (s : ByteArray) : ∀ (m : Nat) (p j : Int), p ≤ j → j < rn f s m p → f (bt s j) = true
  | 0, p, j, h1, h2 => by simp only [rn] at h2; omega
  | m + 1, p, j, h1, h2 => by
    simp only [rn] at h2
    split at h2
    · rename_i hh
      by_cases e : j = p
      · rw [e]; exact hh.2
      · exact rn_all f s m (p + 1) j (by omega) h2
    · omega
theorem rn_congr (f g : Int → Bool) (s : ByteArray) (h : ∀ c, 0 ≤ c → c ≤ 255 → f c = g c) : ∀ (m : Nat) (p : Int), rn f s m p = rn g s m p
  | 0, p => rfl
  | m + 1, p => by
    have hb := bt_range s p
    simp only [rn, h _ hb.1 hb.2, rn_congr f g s h m (p + 1)]
theorem cut_nil (s : ByteArray) (p q : Int) (h0 : 0 ≤ p) (h1 : p ≤ q) (h2 : q ≤ s.size) : cut s p q = ⟨#[]⟩ ↔ q = p := by
  have hl := cut_len s p q h0 h1 h2
  constructor
  · intro h
    rw [h] at hl
    have : (⟨#[]⟩ : ByteArray).size = 0 := rfl
    omega
  · intro h
    apply ba_ext
    have : (cut s p q).data.toList.length = 0 := by
      have : (cut s p q).data.toList.length = (cut s p q).size := Array.length_toList
      omega
    exact List.length_eq_zero_iff.1 this
theorem vl_vlb (c : Int) (b : Int) (hb : b ≤ 16) : decide (vl c < b) = decide (vlb c < b) := by
  unfold vl vlb
  by_cases h1 : 48 ≤ c ∧ c ≤ 57
  · rw [if_pos (isDig_iff.2 h1), if_pos h1]
  · rw [if_neg (fun h => h1 (isDig_iff.1 h)), if_neg h1]
    by_cases h2 : 97 ≤ c ∧ c ≤ 102
    · rw [if_pos h2, if_pos (by omega)]
    · rw [if_neg h2]
      by_cases h3 : 65 ≤ c ∧ c ≤ 70
      · rw [if_pos h3, if_neg (by omega), if_pos (by omega)]
      · rw [if_neg h3]
        rw [decide_eq_false (show ¬ (16 : Int) < b by omega)]
        symm
        apply decide_eq_false
        split
        · omega
        · split <;> omega
end Go.Proofs.YtemogjpgkcbaiaaGreatDoor.Sp
end
section
namespace Go.Proofs.YtemogjpgkcbaiaaGreatDoor.Sp
open Go.RowKit Go.Proofs.YtemogjpgkcbaiaaGreatDoorW.PrintWords Go.Proofs.YtemogjpgkcbaiaaGreatDoorW.PrintLast Go.Proofs.YtemogjpgkcbaiaaGreatDoorW.PrintMore
set_option linter.unusedVariables false
set_option linter.unusedSimpArgs false
set_option maxRecDepth 100000
theorem cut_mem (s : ByteArray) (p q : Int) (h0 : 0 ≤ p) (h1 : p ≤ q) (h2 : q ≤ s.size) (c : UInt8) (hc : c ∈ (cut s p q).data.toList) : ∃ j : Int, p ≤ j ∧ j < q ∧ bt s j = (c.toNat : Int) := by
  obtain ⟨k, hk, rfl⟩ := List.mem_iff_getElem.1 hc
  have hl := cut_len s p q h0 h1 h2
  have hk2 : k < (cut s p q).size := by rwa [Array.length_toList] at hk
  refine ⟨p + k, by omega, by omega, ?_⟩
  have hb := bt_data (cut s p q) k hk2
  have he := bt_ext s p.toNat q.toNat k (by omega) (by omega)
  rw [show (p + (k : Int)) = ((p.toNat + k : Nat) : Int) from by omega, ← he]
  exact hb
theorem nbr_ref (s : ByteArray) (b W ip : Int) (hb : 2 ≤ b) (hb2 : b ≤ 16) (hW : W = -1 ∨ 1 ≤ W) (h0 : 0 ≤ ip) (h1 : ip ≤ s.size) :
    dgE s b W ip = nEnd s b W (wh s ip) ∧ nbr BRd ngRes s b W ip = if nBeg s W (wh s ip) < nEnd s b W (wh s ip) then (if (rfRead (nTx s b W (wh s ip)) b.toNat).2 = 0 then some ((rfRead (nTx s b W (wh s ip)) b.toNat).1, true) else none) else some (⟨#[]⟩, false) := by
  obtain ⟨a, ha⟩ : ∃ a, a = wh s ip := ⟨_, rfl⟩
  have hwa : 0 ≤ a ∧ a ≤ s.size := by rw [ha]; exact rn_in _ s _ ip h0 h1
  have hsg : nSg s W a = (decide (a < s.size) && sgnB (bt s a)) := by
    unfold nSg nStop sgnB
    congr 1
    rw [decide_eq_decide]
    split <;> omega
  have hbg : nBeg s W a = sgE s ip := by
    unfold nBeg sgE
    rw [← ha, rn_one, hsg]
    by_cases h : a < s.size ∧ sgnB (bt s a) = true
    · rw [if_pos h, if_pos (by simp [h.1, h.2])]
    · rw [if_neg h, if_neg (by simpa using h)]
  obtain ⟨B, hB⟩ : ∃ B, B = nBeg s W a := ⟨_, rfl⟩
  have hBr : a ≤ B ∧ B ≤ a + 1 ∧ B ≤ s.size := by
    rw [hB]; unfold nBeg; rw [hsg]
    split
    · rename_i h; simp at h; omega
    · omega
  have hcl := cut_len s a B hwa.1 hBr.1 hBr.2.2
  have hen : dgE s b W ip = nEnd s b W a := by
    unfold dgE nEnd
    rw [← hbg, ← hB, rn_congr (fun c => decide (vl c < b)) (fun c => decide (vlb c < b)) s (fun c _ _ => vl_vlb c b hb2), rn_min, rn_min _ s (nStop s W a - B).toNat]
    congr 1
    have hdm : dgM s W ip = if 0 ≤ W then W - (B - a) else W := by
      unfold dgM; rw [← hbg, ← ha, ← hB, hcl]
    unfold mst nStop
    rw [hdm]
    rcases hW with rfl | hW
    · rw [if_neg (show ¬ (0 : Int) ≤ -1 by omega), if_neg (show ¬ (0 : Int) ≤ -1 by omega), if_pos (by omega)]
      omega
    · rw [if_pos (show (0 : Int) ≤ W by omega), if_pos (show (0 : Int) ≤ W by omega), if_neg (by omega)]
      omega
  obtain ⟨E, hE⟩ : ∃ E, E = nEnd s b W a := ⟨_, rfl⟩
  have hEr := rn_pos (fun c => decide (vlb c < b)) s (nStop s W a - B).toNat B
  have hall := rn_all (fun c => decide (vlb c < b)) s (nStop s W a - B).toNat B
  have hE2 : rn (fun c => decide (vlb c < b)) s (nStop s W a - B).toNat B = E := by rw [hE, hB]; rfl
  rw [hE2] at hEr hall
  have hE3 := hEr.2.2 hBr.2.2
  rw [← ha]
  refine ⟨hen, ?_⟩
  have hdt : dgT s b W ip = cut s B E := by unfold dgT; rw [hen, ← hbg, ← hB, ← hE]
  have hst : sgT s ip = cut s a B := by unfold sgT; rw [← ha, ← hbg, ← hB]
  unfold nbr
  rw [hdt, hst, ← hB, ← hE]
  have hn := cut_nil s B E (by omega) (by omega) hE3
  by_cases hne : B < E
  · rw [if_neg (fun h => by have := hn.1 h; omega), if_pos hne]
    obtain ⟨l, hl⟩ : ∃ l, l = (cut s B E).data.toList := ⟨_, rfl⟩
    have hmem : ∀ c ∈ l, vlb (c.toNat : Int) < b := fun c hc => by
      rw [hl] at hc
      obtain ⟨j, j1, j2, j3⟩ := cut_mem s B E (by omega) (by omega) hE3 c hc
      have := hall j j1 j2
      rw [j3] at this
      exact of_decide_eq_true this
    have hl0 : l ≠ [] := fun h => by
      have h3 := cut_len s B E (by omega) (by omega) hE3
      have : l.length = (cut s B E).size := by rw [hl]; exact Array.length_toList
      rw [h] at this; simp at this; omega
    have hrd : rdok b.toNat l = true := by
      unfold rdok
      rw [Bool.and_eq_true]
      refine ⟨?_, List.all_eq_true.2 fun c hc => ?_⟩
      · cases l with
        | nil => exact absurd rfl hl0
        | cons c m => rfl
      · have h1 := hmem c hc
        have h2 := vlb_range (c.toNat : Int)
        unfold dOk dv
        exact decide_eq_true (by omega)
    have hp : Lib.hasPrefix l [45] = false := by
      cases l with
      | nil => rfl
      | cons c m =>
        have h1 := hmem c (by simp)
        have : c ≠ 45 := fun e => by
          subst e
          have : vlb ((45 : UInt8).toNat : Int) = 36 := by decide
          omega
        simp [Lib.hasPrefix, List.isPrefixOf, this.symm]
    have hBR : BRd (cut s B E) b = numRes false (foV b.toNat l 0) := by
      unfold BRd bRead Lib.trimPrefix
      rw [← hl]
      simp only [hp, Bool.false_eq_true, if_false, hrd, if_true]
    have hng : ∀ V, fitsN V = true → ngRes (ntx false 10 V) = numRes true V := fun V hV => by
      unfold ngRes; rw [prs_ntx]; rfl
    obtain ⟨V, hV⟩ : ∃ V, V = foV b.toNat l 0 := ⟨_, rfl⟩
    rw [hBR, ← hV]
    by_cases hm : sgT s ip = ⟨#[45]⟩
    · have hsg1 : B = a + 1 ∧ bt s a = 45 ∧ nSg s W a = true := by
        have h1 : (cut s a B).size = 1 := by rw [← hst, hm]; rfl
        have hBa : B = a + 1 := by omega
        have hns : nSg s W a = true := by
          by_cases h : nSg s W a = true
          · exact h
          · have : B = a := by rw [hB]; unfold nBeg; rw [if_neg h]
            omega
        refine ⟨hBa, ?_, hns⟩
        have he := bt_ext s a.toNat B.toNat 0 (by omega) (by omega)
        rw [show (((a.toNat + 0 : Nat)) : Int) = a from by omega] at he
        rw [← he]
        have : s.extract a.toNat B.toNat = ⟨#[45]⟩ := by have := hst.symm.trans hm; exact this
        rw [this]; rfl
      have htx : nTx s b W a = ⟨#[45]⟩ ++ cut s B E := by
        unfold nTx; rw [if_pos ⟨hsg1.2.2, hsg1.2.1⟩, ← hB, ← hE]
      have hdl : (nTx s b W a).data.toList = 45 :: l := by
        rw [htx, hl, ByteArray.data_append, Array.toList_append]; rfl
      have hrf : rfRead (nTx s b W a) b.toNat = numRes true V := by
        unfold rfRead
        rw [hdl, show Lib.hasPrefix (45 :: l) [45] = true from by simp [Lib.hasPrefix, List.isPrefixOf], if_pos rfl, List.tail_cons]
        simp only [hrd, if_true, hV]
      rw [hrf, ← hst, if_pos hm]
      by_cases hf : fitsN V = true
      · have e1 : numRes false V = (ntx false 10 V, 0) := by unfold numRes; rw [if_pos hf]
        rw [e1, if_pos rfl, hng V hf]
      · have e1 : ∀ n, numRes n V = (⟨#[]⟩, 4) := fun n => by unfold numRes; rw [if_neg hf]
        rw [e1, e1, if_neg (by simp), if_neg (by simp)]
    · have htx : nTx s b W a = cut s B E := by
        have hno : ¬ (nSg s W a = true ∧ bt s a = 45) := fun h => hm (by
          have hBa : B = a + 1 := by rw [hB]; unfold nBeg; rw [if_pos h.1]
          obtain ⟨c, hc, he⟩ := ext_one s a hwa.1 (by omega)
          rw [hst]
          unfold cut
          rw [hBa, he]
          have : c = 45 := UInt8.toNat_inj.1 (by have := hc.trans h.2; have h2 : (45 : UInt8).toNat = 45 := rfl; omega)
          rw [this])
        unfold nTx; rw [if_neg hno, ← hB, ← hE]
        apply ba_ext
        rw [ByteArray.data_append, Array.toList_append]; rfl
      have hrf : rfRead (nTx s b W a) b.toNat = numRes false V := by
        unfold rfRead
        rw [htx, ← hl, hp]
        simp only [Bool.false_eq_true, if_false, hrd, if_true, hV]
      have hm2 : ¬ cut s a B = ⟨#[45]⟩ := fun h => hm (hst.trans h)
      rw [hrf]
      by_cases hf : (numRes false V).2 = 0
      · rw [if_pos hf, if_pos hf, if_neg hm2]
      · rw [if_neg hf, if_neg hf]
  · rw [if_pos (hn.2 (by omega)), if_neg hne]
theorem rdr_let (s : ByteArray) (p : Int) (hok : (rdr s p (p + 1)).1 = true) :
    (((rdr s p (p + 1)).2.1.letter = 100 ∨ (rdr s p (p + 1)).2.1.letter = 120 ∨ (rdr s p (p + 1)).2.1.letter = 111 ∨ (rdr s p (p + 1)).2.1.letter = 98) ∨ (rdr s p (p + 1)).2.1.letter = 115 ∨ (rdr s p (p + 1)).2.1.letter = 99 ∨ (rdr s p (p + 1)).2.1.letter = 91 ∨ (rdr s p (p + 1)).2.1.letter = 110 ∨ (rdr s p (p + 1)).2.1.letter = 37) ∧
    ((rdr s p (p + 1)).2.1.width = -1 ∨ 1 ≤ (rdr s p (p + 1)).2.1.width) := by
  have hw : ∀ q, (wd s q).1 = -1 ∨ 1 ≤ (wd s q).1 := fun q => by
    rw [wd_ref]
    split
    · rename_i h; exact .inr h.1
    · exact .inl rfl
  rw [rdr_C] at hok ⊢
  have hw2 := hw (skp s (p + 1) 42)
  obtain ⟨L, hL⟩ : ∃ L, nx s (wd s (skp s (p + 1) 42)).2 = L := ⟨_, rfl⟩
  rw [rdC_at hL] at hok ⊢
  by_cases a1 : L = 100 ∨ L = 120 ∨ L = 111 ∨ L = 98 ∨ L = 115
  · rw [if_pos a1]; exact ⟨by simp only; omega, hw2⟩
  · by_cases a2 : L = 99 ∨ L = 110
    · rw [if_neg a1, if_pos a2]; exact ⟨by simp only; omega, hw2⟩
    · by_cases a3 : L = 37
      · rw [if_neg a1, if_neg a2, if_pos a3]; exact ⟨by simp only; omega, hw2⟩
      · by_cases a4 : L = 91
        · rw [if_neg a1, if_neg a2, if_neg a3, if_pos a4]; exact ⟨by simp only; omega, hw2⟩
        · rw [if_neg a1, if_neg a2, if_neg a3, if_neg a4] at hok; cases hok
theorem rdIn_s (s : ByteArray) (cv : Cv) (p : Int) (hl : cv.letter = 115) (h0 : 0 ≤ p) (h1 : p ≤ s.size) : ∃ q, q = rn (fun c => !isWh c) s (mst s cv.width) (wh s p) ∧ rdIn s cv p = (some (cut s (wh s p) q, decide (wh s p < q)), q) := by
  refine ⟨_, rfl, ?_⟩
  have hwa : 0 ≤ wh s p ∧ wh s p ≤ s.size := rn_in _ s _ p h0 h1
  have hr := rn_pos (fun c => !isWh c) s (mst s cv.width) (wh s p)
  have hn := cut_nil s (wh s p) _ hwa.1 hr.1 (hr.2.2 hwa.2)
  unfold rdIn
  rw [if_neg (by omega), if_pos hl]
  simp only
  congr 3
  rw [decide_eq_decide]
  constructor
  · intro h; rcases Int.lt_or_eq_of_le hr.1 with h2 | h2
    · exact h2
    · exact absurd (hn.2 h2.symm) h
  · intro h h2; have := hn.1 h2; omega
theorem rdIn_l (s : ByteArray) (cv : Cv) (p : Int) (hl : cv.letter = 91) (h0 : 0 ≤ p) (h1 : p ≤ s.size) : ∃ q, q = rn (fun c => fts cv.set c) s (mst s cv.width) p ∧ rdIn s cv p = (some (cut s p q, decide (p < q)), q) := by
  refine ⟨_, rfl, ?_⟩
  have hr := rn_pos (fun c => fts cv.set c) s (mst s cv.width) p
  have hn := cut_nil s p _ h0 hr.1 (hr.2.2 h1)
  unfold rdIn
  rw [if_neg (by omega), if_neg (by omega), if_neg (by omega), if_pos hl]
  simp only
  congr 3
  rw [decide_eq_decide]
  constructor
  · intro h; rcases Int.lt_or_eq_of_le hr.1 with h2 | h2
    · exact h2
    · exact absurd (hn.2 h2.symm) h
  · intro h h2; have := hn.1 h2; omega
theorem cut_one (s : ByteArray) (p : Int) (h0 : 0 ≤ p) (h1 : p < s.size) : bt (cut s p (p + 1)) 0 = bt s p := by
  have he := bt_ext s p.toNat (p + 1).toNat 0 (by omega) (by omega)
  rw [show (((p.toNat + 0 : Nat)) : Int) = p from by omega] at he
  exact he
theorem rdIn_c (s : ByteArray) (cv : Cv) (p : Int) (hl : cv.letter = 99) (h0 : 0 ≤ p) (h1 : p ≤ s.size) : rdIn s cv p = if p < s.size then (some (itB (bt s p), true), p + 1) else (some (⟨#[]⟩, false), p) := by
  unfold rdIn
  rw [if_neg (by omega), if_neg (by omega), if_pos hl, rn_one]
  simp only [and_true]
  by_cases h : p < s.size
  · rw [if_pos h, if_pos h, if_neg (fun e => by have := (cut_nil s p (p + 1) h0 (by omega) (by omega)).1 e; omega), cut_one s p h0 h]
  · rw [if_neg h, if_neg h, if_pos ((cut_nil s p p h0 (by omega) h1).2 rfl)]
theorem rdIn_n (s : ByteArray) (cv : Cv) (p : Int) (hl : cv.letter = 110) : rdIn s cv p = (some (itB p, true), p) := by
  unfold rdIn
  rw [if_neg (by omega), if_neg (by omega), if_neg (by omega), if_neg (by omega), if_pos hl]
theorem rdIn_p (s : ByteArray) (cv : Cv) (p : Int) (hl : cv.letter = 37) (h0 : 0 ≤ p) (h1 : p ≤ s.size) : rdIn s cv p = if wh s p < s.size ∧ bt s (wh s p) = 37 then (some (⟨#[]⟩, true), wh s p + 1) else (some (⟨#[]⟩, false), wh s p) := by
  have hwa : 0 ≤ wh s p ∧ wh s p ≤ s.size := rn_in _ s _ p h0 h1
  unfold rdIn
  rw [if_neg (by omega), if_neg (by omega), if_neg (by omega), if_neg (by omega), if_neg (by omega), rn_one]
  simp only [beq_iff_eq]
  by_cases h : wh s p < s.size ∧ bt s (wh s p) = 37
  · have hc : cut s (wh s p) (wh s p + 1) ≠ ⟨#[]⟩ := fun e => by have := (cut_nil s (wh s p) (wh s p + 1) hwa.1 (by omega) (by omega)).1 e; omega
    rw [if_pos h, if_pos h]; simp [hc]
  · have hc : cut s (wh s p) (wh s p) = ⟨#[]⟩ := (cut_nil s _ _ hwa.1 (by omega) hwa.2).2 rfl
    rw [if_neg h, if_neg h, hc]; simp
theorem rdIn_d (s : ByteArray) (cv : Cv) (p : Int) (hl : cv.letter = 100 ∨ cv.letter = 120 ∨ cv.letter = 111 ∨ cv.letter = 98) (hW : cv.width = -1 ∨ 1 ≤ cv.width) (h0 : 0 ≤ p) (h1 : p ≤ s.size) :
    rdIn s cv p = (if nBeg s cv.width (wh s p) < nEnd s (bsN cv.letter) cv.width (wh s p) then (if (rfRead (nTx s (bsN cv.letter) cv.width (wh s p)) (bsN cv.letter).toNat).2 = 0 then some ((rfRead (nTx s (bsN cv.letter) cv.width (wh s p)) (bsN cv.letter).toNat).1, true) else none) else some (⟨#[]⟩, false), nEnd s (bsN cv.letter) cv.width (wh s p)) := by
  have hb := bsN_range cv.letter
  have h := nbr_ref s (bsN cv.letter) cv.width p hb.1 hb.2 hW h0 h1
  rw [rd_number hl, h.1, h.2]
end Go.Proofs.YtemogjpgkcbaiaaGreatDoor.Sp
end
section
namespace Go.Proofs.YtemogjpgkcbaiaaGreatDoor.Sp
open Go.RowKit Go.Proofs.YtemogjpgkcbaiaaGreatDoorW.PrintWords Go.Proofs.YtemogjpgkcbaiaaGreatDoorW.PrintLast Go.Proofs.YtemogjpgkcbaiaaGreatDoorW.PrintMore
set_option linter.unusedVariables false
set_option linter.unusedSimpArgs false
set_option maxRecDepth 100000
attribute [local go_sem] Oper.semAt_some
def ScPost (s t : ByteArray) (w : World) (e : Ending) (w' : World) : Prop :=
  Chg (fun _ => False) w w' ∧ ∃ v, e = .returned (.tuple #[v, .int .i64 (scn s t).2.1, .int .i64 (scn s t).2.2]) ∧ SR w' w.heap.size (fun k => w.heap.size ≤ k) v (scn s t).1
def J13 (s t : ByteArray) (b a m B : Nat) (w : World) (p : Nat) (W : World) : Prop :=
  ∃ (ip n : Int) (xs : List ByteArray) (v : Value), LB W b v ∧ SR W B (fun k => B ≤ k) v xs ∧ I1 W (b + 1) 3 n ∧ I1 W (b + 1 + 1) 25 0 ∧ I1 W a 3 0 ∧ IN W (a + 1) s ip ∧ PB W (a + 1 + 1) (a + 1) ∧
    Caps t true m (m + 1) W ∧ T10 W ∧ 0 ≤ ip ∧ ip ≤ s.size ∧ 0 ≤ n ∧ n ≤ p ∧ (xs.length : Int) ≤ n ∧ scR t s p ip n xs = scR t s 0 0 0 [] ∧ ckR t p = none ∧ Below b w W
def fr13 (s t : ByteArray) (b a m b6 : Nat) (c : Cv) : Array Value := #[.string s, .string t, undef, undef, .pointer (some ⟨b, 0, none⟩), .pointer (some ⟨b + 1, 0, none⟩), .pointer (some ⟨b + 1 + 1, 0, none⟩), .int .i64 0, .int .i64 0, .pointer (some ⟨a, 0, none⟩), .pointer (some ⟨a + 1 + 1, 0, none⟩), .pointer (some ⟨b6, 0, none⟩), undef, undef, .tuple #[.int .i64 0, .int .i64 0], .string t, .tuple #[.int .i64 0, .int .i64 0], .int .i64 0, .int .i64 0, .int .i64 0, .bool false, undef, .func (.func 33) #[] #[.pointer (some ⟨b + 1 + 1, 0, none⟩), .pointer (some ⟨b, 0, none⟩), .pointer (some ⟨b + 1, 0, none⟩)], .string s, .agg #[.string s, .int .i64 0], .pointer (some ⟨a + 1, 0, none⟩), .string t, cvF m (m + 1), .agg c.cells.toArray, undef, undef, undef, undef, undef, undef, undef, undef, undef, undef, undef, undef, undef, undef, undef, undef, undef, undef, undef, undef, undef, undef, undef, undef, undef, undef, undef, undef, undef, undef]
def Jx13 (s t : ByteArray) (b a m B : Nat) (w : World) (c : Code) (W : World) : Prop :=
  c = .exit 0 ∧ ∃ (n : Int) (xs : List ByteArray) (v : Value), LB W b v ∧ SR W B (fun k => B ≤ k) v xs ∧ I1 W (b + 1) 3 n ∧ I1 W (b + 1 + 1) 25 0 ∧ I1 W a 3 0 ∧ 0 ≤ n ∧ scR t s 0 0 0 [] = some (xs, n) ∧ Below b w W
def Jp13 (s t : ByteArray) (b a m B : Nat) (w : World) (ch : List PanicEntry) (W : World) : Prop :=
  ch = [{ v := limitV, recovered := false }] ∧ ∃ (n : Int) (v : Value), LB W b v ∧ I1 W (b + 1) 3 n ∧ I1 W (b + 1 + 1) 25 0 ∧ I1 W a 3 0 ∧ scR t s 0 0 0 [] = none ∧ Below b w W
theorem grown_block {W w1 : World} {o : Obj} {v : Value} {B n : Nat} {e : TypeId} {xs : List Value} (hrow : W.ownsRow B e 1 v n xs) (hg : (W.alloc o).grownBy w1 v.ownBlock) {i : Nat} (hi : i < W.heap.size) (hb : i < B) : w1.heap[i]? = W.heap[i]? :=
  (hg.block i (by rw [World.size_alloc]; omega) (fun h => by have := own_base hrow i h.symm; omega)).trans (Below.heap_alloc W o i hi)
theorem grown_keep {W w1 : World} {o : Obj} {v : Value} {B n : Nat} {xs : List Value} (hrow : W.ownsRow B 9 1 v n xs) (hg : (W.alloc o).grownBy w1 v.ownBlock) : KeepHi B W w1 :=
  ⟨Nat.le_trans (by rw [World.size_alloc]; omega) hg.size, fun i h1 h2 h3 => (hg.block i (by rw [World.size_alloc]; omega) (fun h => by
    obtain ⟨cells, hc⟩ := own_typed hrow i h.symm
    exact h3 ⟨cells, 9, (0, 0), hc, .inl rfl⟩)).trans (Below.heap_alloc W o i h2)⟩
theorem grown_below {W w1 : World} {o : Obj} {v : Value} {B n b : Nat} {e : TypeId} {xs : List Value} (hrow : W.ownsRow B e 1 v n xs) (hg : (W.alloc o).grownBy w1 v.ownBlock) (hb : b ≤ B) (hB : B ≤ W.heap.size) : Below b W w1 :=
  ⟨hg.os, hg.tape, hg.output, Nat.le_trans (by rw [World.size_alloc]; omega) hg.size, fun k hk => grown_block hrow hg (by omega) (by omega)⟩
theorem grown_L {W w1 : World} {o : Obj} {v : Value} {B n b : Nat} {e : TypeId} {xs : List Value} (hrow : W.ownsRow B e 1 v n xs) (hg : (W.alloc o).grownBy w1 v.ownBlock) (h : LB W b v) (hB : B ≤ W.heap.size) (hb : b < B) : LB w1 b v :=
  (grown_block hrow hg (by omega) hb).trans h
theorem SR.mark {W : World} {base r : Nat} {ok : Nat → Prop} {v : Value} {xs : List ByteArray} {d : Option (List Deferred)} {o : Obj} (h : SR W base ok v xs) (hD : W.heap[r]? = some (.deferred d)) : SR (W.putObj r o) base ok v xs := by
  refine Kd.R_mono (Kd.R_step (Kd.R_bound h) ?_) (fun _ hk => hk.1)
  rintro i ⟨_, _, _, q, hq, cells, hc⟩ hi
  exact World.putObj_heap_other (by rintro rfl; rw [hD] at hc; cases hc)
theorem info9 : (Tryz.prog.info? 9).map (fun i => (i.zero, i.size, i.bytes)) = some (some (.string ⟨#[]⟩), 1, 16) := by kernel_rfl
theorem keepHi_chg {S : Nat → Prop} {B : Nat} {W W' : World} (k : Chg S W W') (hs : ∀ i, S i → i < B) : KeepHi B W W' := ⟨k.size, fun i h1 h2 _ => k.block i h2 (fun h => by have := hs i h; omega)⟩
set_option maxHeartbeats 1000000 in
theorem zeroed33 (L D E : Nat) (v : Value) (n e : Int) (u : FrameMode) (w : World) (hLD : L ≠ D) (hL : LB w L v) (hD : I1 w D 3 n) (hE : I1 w E 25 e) :
    CallsDIn Fence.wide 0 Tryz.prog 33 #[.pointer (some ⟨E, 0, none⟩), .pointer (some ⟨L, 0, none⟩), .pointer (some ⟨D, 0, none⟩)] u w fun en u' w' =>
      en = .returned (.tuple #[]) ∧ u' = u ∧ Chg (S2 L D) w w' ∧ LB w' L (if e = 0 then v else .slice none 0 0) ∧ I1 w' D 3 (if e = 0 then n else 0) := by
  have h1 := hL.c
  have h2 := hE.c
  have h3 := blk_frozen hL 0
  have h4 := blk_frozen hD 0
  have h5 := hD.c
  have hDL := hLD.symm
  refine callsDIn_of_wpSIn Tryz.func33 rfl trivial fun c₀ cs hu => ?_
  simp only [Tryz.ntmps33, List.size_toArray, List.length_cons, List.length_nil, Nat.reduceAdd, Nat.reduceSub, Array.replicate_succ, Array.replicate_zero, List.push_toArray, List.append_toArray, List.nil_append, List.cons_append]
  refine wpSIn_of_wpIn rfl ?_
  refine (wpIn_wide (n := 0)).2 ?_
  by_cases h : e = 0
  · have g : (e != 0) = false := by simpa using h
    rw [if_pos h, if_pos h]
    have H := Lib.hid h
    clear h
    go_wp2
    cases c₀
    simp only at hu
    subst hu
    exact ⟨rfl, _, rfl, _, by simp [results, Tryz.results33, go_sem], rfl, rfl, Chg.refl _ _, hL, hD⟩
  · have g : (e != 0) = true := by simpa using h
    rw [if_neg h, if_neg h]
    have H := Lib.hid h
    clear h
    go_wp2
    cases c₀
    simp only at hu
    subst hu
    refine ⟨rfl, _, rfl, _, by simp [results, Tryz.results33, go_sem], rfl, rfl, ((Chg.refl _ _).setCell ⟨L, 0, none⟩ _ (.inl (.inl rfl))).setCell ⟨D, 0, none⟩ _ (.inl (.inr rfl)), ?_, I1.set (I1.set_ne hD hLD)⟩
    exact (Below.heap_setCell _ ⟨D, 0, none⟩ _ L (by simpa using hLD)).trans hL.set
set_option maxHeartbeats 8000000 in
theorem scan_good (s t : ByteArray) (hs : s.size ≤ 100000) (ht : t.size ≤ 100000) (w : World) (hT : T10 w) (hck : ckR t 0 = none) :
    Calls Tryz.prog 13 #[.string s, .string t] w (ScPost s t w) := by
  have HK := Lib.hid (show ck t true = (0, 0) by simp only [ck, hck]; rfl)
  have HC := Lib.hid hck
  have HN := Lib.hid (show scn s t = match scR t s 0 0 0 [] with | none => ([], 0, 4) | some (xs, n) => (xs, n, 0) by unfold scn; rw [hck]; rfl)
  clear hck
  refine calls_of_wpV Tryz.func13 rfl ?_
  simp only [Tryz.ntmps13, List.size_toArray, List.length_cons, List.length_nil, Nat.reduceAdd, Nat.reduceSub, Array.replicate_succ, Array.replicate_zero, List.push_toArray, List.append_toArray, List.nil_append, List.cons_append]
  refine wpV_seq_in fun K hK => ?_
  refine (wpIn_wide (n := 0)).2 ?_
  go_wp2_with fail
  obtain ⟨W0, hW0⟩ : ∃ W0, W0 = (((w.alloc (Obj.cells #[Value.slice none 0 0] 22)).alloc (Obj.cells #[Value.int IntKind.i64 0] 3)).alloc (Obj.cells #[Value.int IntKind.i64 0] 25)) := ⟨_, rfl⟩
  have h4 : LB W0 w.heap.size (.slice none 0 0) := by rw [hW0]; exact (Below.heap_alloc _ _ _ (by simp; omega)).trans ((Below.heap_alloc _ _ _ (by simp)).trans (World.alloc_heap_new w _))
  have h5 : I1 W0 (w.heap.size + 1) 3 0 := by
    rw [hW0]; have := World.alloc_heap_new (w.alloc (Obj.cells #[Value.slice none 0 0] 22)) (.cells #[.int .i64 0] 3)
    rw [World.size_alloc] at this
    exact (Below.heap_alloc _ _ _ (by simp)).trans this
  have h6 : I1 W0 (w.heap.size + 1 + 1) 25 0 := by
    rw [hW0]; have := World.alloc_heap_new ((w.alloc (Obj.cells #[Value.slice none 0 0] 22)).alloc (Obj.cells #[Value.int IntKind.i64 0] 3)) (.cells #[.int .i64 0] 25)
    rw [World.size_alloc, World.size_alloc] at this
    exact this
  have k0 : Chg (fun _ => False) w W0 := by rw [hW0]; exact ((((Chg.refl _ w).alloc _).alloc _).alloc _)
  have z0 : W0.heap.size = w.heap.size + 1 + 1 + 1 := by rw [hW0]; simp
  rw [← hW0]
  clear hW0
  have hT0 := hT.chg k0 (fun h => h)
  obtain ⟨b, hb⟩ : ∃ b, b = w.heap.size := ⟨_, rfl⟩
  rw [← hb] at h4 h5 h6 z0 ⊢
  have HB := Lib.hid hb
  clear hb hT
  refine wpV_seq_in fun K hK => ?_
  refine (wpIn_wide (n := 0)).2 ?_
  go_wp2_with fail
  refine (check_true t ht _).mono ?_
  rintro e w1 ⟨rfl, k1⟩
  rw [HK.out]
  have i4 := h4.chg k1 (fun h => h)
  have i5 := h5.chg k1 (fun h => h)
  have i6 := h6.chg k1 (fun h => h)
  have hT1 := hT0.chg k1 (fun h => h)
  have k01 := k0.trans k1
  have z1 : b + 1 + 1 + 1 ≤ w1.heap.size := by have := k1.size; omega
  clear h4 h5 h6 k0 k1 z0 hT0
  go_wp2_with fail
  refine wpV_seq_in fun K hK => ?_
  refine (wpIn_wide (n := 0)).2 ?_
  go_wp2_with fail
  refine wpV_seq_in fun K hK => ?_
  refine (wpIn_wide (n := 0)).2 ?_
  go_wp2_with fail
  refine wpV_seq_in fun K hK => ?_
  refine (wpIn_wide (n := 0)).2 ?_
  go_wp2_with fail
  refine wpV_seq_in fun K hK => ?_
  refine (wpIn_wide (n := 0)).2 ?_
  go_wp2_with fail
  obtain ⟨a, ha⟩ : ∃ a, a = w1.heap.size := ⟨_, rfl⟩
  obtain ⟨w2, hw2⟩ : ∃ w2, w2 = (((w1.alloc (Obj.cells #[Value.int IntKind.i64 0] 3)).alloc (Obj.cells #[Value.string s, Value.int IntKind.i64 0] 79)).alloc (Obj.cells #[Value.pointer (some { block := w1.heap.size + 1, off := 0 })] 77)) := ⟨_, rfl⟩
  have hb2 : Below w1.heap.size w1 w2 := by rw [hw2]; exact ((((Below.refl _ w1).alloc (Nat.le_refl _) _).alloc (by simp) _).alloc (by simp; omega) _)
  have j9 : I1 w2 w1.heap.size 3 0 := by rw [hw2]; exact (Below.heap_alloc _ _ _ (by simp; omega)).trans ((Below.heap_alloc _ _ _ (by simp)).trans (World.alloc_heap_new w1 _))
  have jg : IN w2 (w1.heap.size + 1) s 0 := by
    rw [hw2]; have := World.alloc_heap_new (w1.alloc (Obj.cells #[Value.int IntKind.i64 0] 3)) (.cells #[.string s, .int .i64 0] 79)
    rw [World.size_alloc] at this
    exact (Below.heap_alloc _ _ _ (by simp)).trans this
  have jp : PB w2 (w1.heap.size + 1 + 1) (w1.heap.size + 1) := by
    rw [hw2]; have := World.alloc_heap_new ((w1.alloc (Obj.cells #[Value.int IntKind.i64 0] 3)).alloc (Obj.cells #[Value.string s, Value.int IntKind.i64 0] 79)) (.cells #[.pointer (some ⟨w1.heap.size + 1, 0, none⟩)] 77)
    rw [World.size_alloc, World.size_alloc] at this
    exact this
  have z2 : w2.heap.size = w1.heap.size + 1 + 1 + 1 := by rw [hw2]; simp
  have k12 : Chg (fun _ => False) w1 w2 := Chg.of_below hb2
  have j4 := i4.chg k12 (fun h => h)
  have j5 := i5.chg k12 (fun h => h)
  have j6 := i6.chg k12 (fun h => h)
  have hT2 := hT1.chg k12 (fun h => h)
  have k02 := k01.trans k12
  rw [← hw2]
  rw [← ha] at j9 jg jp z2 z1 ⊢
  clear hw2 hb2 i4 i5 i6 hT1 k01 k12 ha
  refine wpV_seq ?_
  refine wpV_seq_in fun K hK => ?_
  refine (wpIn_wide (n := 0)).2 ?_
  go_wp2_with fail
  refine (conversions_calls _ _ _).mono ?_
  rintro e w3 ⟨rfl, hcap, hk, hz⟩
  have g4 := j4.chg hk (fun h => h)
  have g5 := j5.chg hk (fun h => h)
  have g6 := j6.chg hk (fun h => h)
  have g9 := j9.chg hk (fun h => h)
  have gg := jg.chg hk (fun h => h)
  have gp := jp.chg hk (fun h => h)
  have hT3 := hT2.chg hk (fun h => h)
  have hb3 : Below b w w3 := ((k02.trans hk).below (by rw [HB.out]; exact Nat.le_refl _) (fun _ h => h.elim))
  obtain ⟨m, hm⟩ : ∃ m, m = w2.heap.size := ⟨_, rfl⟩
  rw [← hm] at hcap hz z2 ⊢
  clear j4 j5 j6 j9 jg jp hT2 hk k02 hm
  have HZ := Lib.hid (And.intro hz (And.intro z2 z1))
  clear hz z2 z1
  go_wp2_with fail
  have hz : m + 1 < w3.heap.size := by have := HZ.out.1; omega
  have z2 : a + 1 + 1 < m := by have := HZ.out.2.1; omega
  have z1 := HZ.out.2.2
  refine wpV_block ?_
  refine range_P Tryz.func13 (gf := 47) rfl (enters_of Tryz.func47 (by kernel_rfl) rfl) (conv_iter t ht true m (m + 1)) (by intro x; rfl)
    (J13 s t b a m w3.heap.size w) (Jx13 s t b a m w3.heap.size w) (Jp13 s t b a m w3.heap.size w)
    ?_ ?_ ?_ ?_ ?_
    (fun c a1 W => ∃ b6, a1 = { tmps := fr13 s t b a m b6 c, defers := [] } ∧ CV W b6 c ∧ w3.heap.size ≤ b6) ?_ ?_ ?_ ?_ ?_ ?_
  · rintro p A B ⟨ip, n, xs, v, l4, lr, l5, l6, l9, lg, lp, ⟨c0, c1⟩, lT, q1, q2, q3, q4, q5, q6, q7, q8⟩ hbb
    have e := fun i (hi : i < w3.heap.size) => hbb.below.block i hi
    refine ⟨ip, n, xs, v, (e _ (by omega)).trans l4, lr.belowS hbb, (e _ (by omega)).trans l5, (e _ (by omega)).trans l6, (e _ (by omega)).trans l9, (e _ (by omega)).trans lg, (e _ (by omega)).trans lp, ⟨?_, ?_⟩, ?_, q1, q2, q3, q4, q5, q6, q7, q8.trans (hbb.below.mono (by omega))⟩
    · exact (World.cell?_of_block (e m (by omega))).trans c0
    · exact (World.cell?_of_block (e (m + 1) (by omega))).trans c1
    · obtain ⟨tt, ff, hh⟩ := lT.at
      exact T10.of_at ((e 2 (by have := hT3.lt; omega)).trans hh)
  · rintro c A B ⟨rfl, n, xs, v, l4, lr, l5, l6, l9, q3, q6, q8⟩ hbb
    have e := fun i (hi : i < w3.heap.size) => hbb.below.block i hi
    exact ⟨rfl, n, xs, v, (e _ (by omega)).trans l4, lr.belowS hbb, (e _ (by omega)).trans l5, (e _ (by omega)).trans l6, (e _ (by omega)).trans l9, q3, q6, q8.trans (hbb.below.mono (by omega))⟩
  · rintro ch A B ⟨rfl, n, v, l4, l5, l6, l9, q6, q8⟩ hbb
    have e := fun i (hi : i < w3.heap.size) => hbb.below.block i hi
    exact ⟨rfl, n, v, (e _ (by omega)).trans l4, (e _ (by omega)).trans l5, (e _ (by omega)).trans l6, (e _ (by omega)).trans l9, q6, q8.trans (hbb.below.mono (by omega))⟩
  · rintro p A ⟨ip, n, xs, v, l4, lr, l5, l6, l9, lg, lp, hc, _⟩; exact hc
  · exact ⟨0, 0, [], .slice none 0 0, g4, Kd.R_nil _ _ _ _ _, g5, g6, g9, gg, gp, hcap, hT3, by omega, by omega, by omega, by omega, by simp, rfl, HC.out, hb3⟩
  · rintro x a1 W l r r' hl ⟨b6, h1, h2, h3⟩
    refine ⟨b6, h1, (World.putObj_heap_other ?_).trans h2, h3⟩
    rintro rfl
    unfold CV at h2; rw [hl] at h2; cases h2
  · intro l x W hle
    simp only [encC, Cv.cells]
    gi_wp2
    refine ⟨(Below.refl _ _).alloc (Nat.le_refl _) _, W.heap.size, rfl, World.alloc_heap_new W _, hle⟩
  · rintro l p c q a1 W ⟨ip, n, xs, v, l4, lr, l5, l6, l9, lg, lp, hc, lT, q1, q2, q3, q4, q5, q6, q7, q8⟩ hle hp hst ⟨b6, rfl, hcv, hb6⟩
    have hpq := (pstep_facts hp hst).1
    have hps := pstep_scan hp hst
    have HK2 := Lib.hid ((ckR_step hp hst hpq).symm.trans q7)
    have HS := Lib.hid ((scR_step (s := s) hp hst hpq ip n xs).symm.trans q6)
    clear hst q6 q7
    unfold fr13
    have c8 := hcv.c8
    have d10 := lp.c
    by_cases h0 : c.letter = 0
    · have g1 : (c.letter == 0) = true := by rw [h0]; rfl
      have HS2 := Lib.hid (show (if (pln c.text s c.text.size 0 ip).1 = true then scR t s q (pln c.text s c.text.size 0 ip).2 n xs else some (xs, n)) = scR t s 0 0 0 [] by have := HS.out; rw [if_pos h0] at this; exact this)
      have c1 := hcv.c1
      have hpl := plain_calls W (a + 1) s c.text ip lg q1 q2 hs (by omega)
      have hpp := pln_pos c.text s c.text.size 0 ip q1 q2
      obtain ⟨r, hr⟩ : ∃ r, r = pln c.text s c.text.size 0 ip := ⟨_, rfl⟩
      rw [← hr] at hpl hpp
      have HS3 := Lib.hid (show (if r.1 = true then scR t s q r.2 n xs else some (xs, n)) = scR t s 0 0 0 [] by rw [hr]; exact HS2.out)
      have HPL := Lib.hid hpl
      clear hpl hr h0 HS HS2
      gi_wp2
      refine ⟨trivial, rfl, ?_⟩
      refine (CallsIn.inRound l (callsIn_wide.2 HPL.out)).mono ?_
      rintro e W1 ⟨rfl, hI1, k1⟩
      have m4 := l4.chg k1 (by omega)
      have mr := lr.chg k1 (fun i hi => by omega)
      have m5 := l5.chg k1 (by omega)
      have m6 := l6.chg k1 (by omega)
      have m9 := l9.chg k1 (by omega)
      have mp := lp.chg k1 (by omega)
      have mT := lT.chg k1 (fun e => lT.ne lg (by simp) e.symm)
      have mc : Caps t true m (m + 1) W1 := ⟨(World.cell?_of_block (k1.block m (by omega) (by omega))).trans hc.1, (World.cell?_of_block (k1.block (m + 1) (by omega) (by omega))).trans hc.2⟩
      have kh : KeepHi w3.heap.size W W1 := keepHi_chg k1 (fun i hi => by omega)
      have hbw : Below b w W1 := q8.trans (k1.below (by omega) (fun i hi => by omega))
      cases hr1 : r.1
      · have HR1 := Lib.hid hr1
        clear hr1
        gi_wp2
        exact ⟨kh, rfl, n, xs, v, m4, mr, m5, m6, m9, q3, by rw [← HS3.out, if_neg (by rw [HR1.out]; simp)], hbw⟩
      · have HR1 := Lib.hid hr1
        clear hr1
        gi_wp2
        exact ⟨kh, r.2, n, xs, v, m4, mr, m5, m6, m9, hI1, mp, mc, mT, by omega, by omega, q3, by omega, q5, by rw [← HS3.out, if_pos HR1.out], HK2.out, hbw⟩
    · have g1 : (c.letter == 0) = false := by simpa using h0
      have HS2 := Lib.hid (show (match (rdIn s c ip).1 with
          | none => none
          | some (x, ok) =>
            if ok = true then
              if c.letter = 37 then scR t s q (rdIn s c ip).2 n xs
              else scR t s q (rdIn s c ip).2 (n + 1) (if c.quiet = true then xs else xs ++ [x])
            else some (xs, n)) = scR t s 0 0 0 [] by have := HS.out; rw [if_neg h0] at this; exact this)
      have c0 := hcv.c0
      have c1 := hcv.c1
      have c2 := hcv.c2
      have c3 := hcv.c3
      have c4 := hcv.c4
      have c5 := hcv.c5
      have c6 := hcv.c6
      have c7 := hcv.c7
      have c9 := hcv.c9
      have c10 := hcv.c10
      have hrd := readin_calls W (a + 1) s ip c lT lg q1 q2 hs hps.1 hps.2.1 (by omega)
      have hrp := rdIn_pos s c ip q1 q2
      obtain ⟨r, hr⟩ : ∃ r, r = rdIn s c ip := ⟨_, rfl⟩
      rw [← hr] at hrd hrp
      simp only [Cv.cells] at hrd
      have HS3 := Lib.hid (show (match r.1 with
          | none => none
          | some (x, ok) =>
            if ok = true then
              if c.letter = 37 then scR t s q r.2 n xs
              else scR t s q r.2 (n + 1) (if c.quiet = true then xs else xs ++ [x])
            else some (xs, n)) = scR t s 0 0 0 [] by rw [hr]; exact HS2.out)
      have HRD := Lib.hid hrd
      clear hrd hr h0 HS HS2
      gi_wp2
      refine ⟨trivial, rfl, ?_⟩
      refine (CallsIn.inRound l (callsIn_wide.2 HRD.out)).mono ?_
      rintro e W1 ⟨hI1, k1, hres⟩
      have m4 := l4.chg k1 (by omega)
      have mr := lr.chg k1 (fun i hi => by omega)
      have m5 := l5.chg k1 (by omega)
      have m6 := l6.chg k1 (by omega)
      have m9 := l9.chg k1 (by omega)
      have mp := lp.chg k1 (by omega)
      have mT := lT.chg k1 (fun e => lT.ne lg (by simp) e.symm)
      have mc : Caps t true m (m + 1) W1 := ⟨(World.cell?_of_block (k1.block m (by omega) (by omega))).trans hc.1, (World.cell?_of_block (k1.block (m + 1) (by omega) (by omega))).trans hc.2⟩
      have kh : KeepHi w3.heap.size W W1 := keepHi_chg k1 (fun i hi => by omega)
      have hbw : Below b w W1 := q8.trans (k1.below (by omega) (fun i hi => by omega))
      have mcv := hcv.chg k1 (by omega)
      have hle1 : w3.heap.size ≤ W1.heap.size := Nat.le_trans hle k1.size
      rcases hres with ⟨rr, hrr, rfl⟩ | ⟨hrr, rfl⟩
      · obtain ⟨x, ok⟩ := rr
        have HS4 := Lib.hid (show (if ok = true then
              if c.letter = 37 then scR t s q r.2 n xs
              else scR t s q r.2 (n + 1) (if c.quiet = true then xs else xs ++ [x])
            else some (xs, n)) = scR t s 0 0 0 [] by have := HS3.out; rw [hrr] at this; exact this)
        clear hrr HS3 c0 c1 c2 c3 c4 c5 c6 c7 c8 c9 c10 d10
        cases ok
        · gi_wp2
          exact ⟨kh, rfl, n, xs, v, m4, mr, m5, m6, m9, q3, by rw [← HS4.out, if_neg (by simp)], hbw⟩
        · have c8 := mcv.c8
          have c9 := mcv.c9
          by_cases h37 : c.letter = 37
          · have g37 : (c.letter == 37) = true := by rw [h37]; rfl
            have HS5 := Lib.hid (show scR t s q r.2 n xs = scR t s 0 0 0 [] by have := HS4.out; rw [if_pos rfl, if_pos h37] at this; exact this)
            clear h37
            gi_wp2
            exact ⟨kh, r.2, n, xs, v, m4, mr, m5, m6, m9, hI1, mp, mc, mT, by omega, by omega, q3, by omega, q5, HS5.out, HK2.out, hbw⟩
          · have g37 : (c.letter == 37) = false := by simpa using h37
            have HS5 := Lib.hid (show scR t s q r.2 (n + 1) (if c.quiet = true then xs else xs ++ [x]) = scR t s 0 0 0 [] by have := HS4.out; rw [if_pos rfl, if_neg h37] at this; exact this)
            have d5 := m5.c
            have f5 := blk_frozen m5 0
            have hn1 : IntKind.i64.wrap (n + 1) = n + 1 := i64_small (by omega) (by omega)
            clear h37
            obtain ⟨W2, hW2⟩ : ∃ W2, W2 = W1.setCell ⟨b + 1, 0, none⟩ (.int .i64 (n + 1)) := ⟨_, rfl⟩
            have k2 : Chg (fun k => k = b + 1) W1 W2 := by rw [hW2]; exact (Chg.refl _ _).setCell _ _ (.inl rfl)
            have n5 : I1 W2 (b + 1) 3 (n + 1) := by rw [hW2]; exact m5.set
            have p4 := m4.chg k2 (by omega)
            have pr := mr.chg k2 (fun i hi => by omega)
            have p6 := m6.chg k2 (by omega)
            have p9 := m9.chg k2 (by omega)
            have pg := hI1.chg k2 (by omega)
            have pp := mp.chg k2 (by omega)
            have pT := mT.chg k2 (fun e => mT.ne m5 (by simp) e.symm)
            have pc : Caps t true m (m + 1) W2 := ⟨(World.cell?_of_block (k2.block m (by omega) (by omega))).trans mc.1, (World.cell?_of_block (k2.block (m + 1) (by omega) (by omega))).trans mc.2⟩
            have kh2 : KeepHi w3.heap.size W W2 := kh.trans (keepHi_chg k2 (fun i hi => by omega))
            have hbw2 : Below b w W2 := hbw.trans (k2.below (by omega) (fun i hi => by omega))
            have e9 : W2.cell? ⟨b6, 9, none⟩ = some (.bool c.quiet) := (World.cell?_of_block (k2.block b6 mcv.lt (by omega))).trans c9
            have hle2 : w3.heap.size ≤ W2.heap.size := Nat.le_trans hle1 k2.size
            have hne1 : b6 ≠ b + 1 := by omega
            have hne2 : b + 1 ≠ b6 := by omega
            cases hq : c.quiet
            · rw [hq] at c9
              have HS6 := Lib.hid (show scR t s q r.2 (n + 1) (xs ++ [x]) = scR t s 0 0 0 [] by have := HS5.out; rw [hq] at this; exact this)
              have hrow : W2.ownsRow w3.heap.size 9 1 v xs.length (encs Value.string xs) := Kd.own_of_R pr
              have e4 := m4.c
              have fr4 := blk_frozen m4 0
              obtain ⟨i0, hi, hz0, hz1, hz2⟩ := info_parts info9
              clear e9 hq HS5 HS4 m4 mr m5 m6 m9 mp mc hbw kh k1 lr l4 l5 l6 l9 lg lp hc lT
              have hrow2 : (W1.setCell ⟨b + 1, 0, none⟩ (.int .i64 (n + 1))).ownsRow w3.heap.size 9 1 v xs.length (encs Value.string xs) := by rw [← hW2]; exact hrow
              have hsz2 : w3.heap.size ≤ (W1.setCell ⟨b + 1, 0, none⟩ (.int .i64 (n + 1))).heap.size := by rw [← hW2]; exact hle2
              have HROW := Lib.hid hrow2
              have HSZ := Lib.hid hsz2
              have HXL := Lib.hid (show xs.length + 1 ≤ maxLen ∧ (xs.length + 1) * 16 ≤ 140737488355328 from ⟨by unfold maxLen; omega, by omega⟩)
              clear hrow hrow2 hsz2
              have hcell : ∀ j u, [Value.string x][j]? = some u → ((W1.setCell ⟨b + 1, 0, none⟩ (.int .i64 (n + 1))).alloc (.cells #[.string x] 9)).cell? ((⟨W1.heap.size, 0, none⟩ : Addr).add j) = some u := by
                have := cell_one_new (W1.setCell ⟨b + 1, 0, none⟩ (.int .i64 (n + 1))) (.string x) 9
                rw [show (W1.setCell ⟨b + 1, 0, none⟩ (.int .i64 (n + 1))).heap.size = W1.heap.size from by simp] at this
                exact this
              have HCELL := Lib.hid hcell
              have HP4 := Lib.hid (show LB (W1.setCell ⟨b + 1, 0, none⟩ (.int .i64 (n + 1))) b v from hW2 ▸ p4)
              clear hcell
              gi_wp2_with (gi_at_builtin; go_must (refine wpListIn_append_own _ rfl _ _ 22 rfl w3.heap.size 9 i0 _ 1 16 Tryz.underlying22 hi hz0 hz1 hz2 rfl (by decide) _ _ _ rfl (HROW.out.alloc _) ⟨_, 0, none⟩ 1 1 [.string x] rfl rfl HCELL.out (by simp [Value.oneCell']) HXL.out.1 HXL.out.2 (by rw [World.size_alloc]; exact Nat.le_succ_of_le HSZ.out) ?_); intro v' w1' hown' hgrow hnil; obtain ⟨g', cap', rfl⟩ := ownsRow_succ hown'; have hL4 := grown_L (b := b) HROW.out hgrow HP4.out HSZ.out (by omega); have hl4c := hL4.c; have hl4f := blk_frozen hL4 0)
              obtain ⟨Wn, hWn⟩ : ∃ Wn, Wn = w1'.setCell ⟨b, 0, none⟩ (.slice (some ⟨g', 0, none⟩) (xs.length + 1) cap') := ⟨_, rfl⟩
              rw [← hWn]
              have hro := HROW.out
              have hs2 := HSZ.out
              rw [← hW2] at hro hgrow hs2
              have hkeep : ∀ i, i < w3.heap.size → i ≠ b → Wn.heap[i]? = W2.heap[i]? := fun i h1 h2 => by
                rw [hWn]; exact (Below.heap_setCell w1' _ _ i h2).trans (grown_block hro hgrow (by omega) h1)
              have hkh : KeepHi w3.heap.size W2 Wn := (grown_keep hro hgrow).trans ⟨by rw [hWn]; simp, fun i h1 h2 h3 => by rw [hWn]; exact Below.heap_setCell w1' _ _ i (by simp; omega)⟩
              have hsr : SR Wn w3.heap.size (fun k => w3.heap.size ≤ k) (.slice (some ⟨g', 0, none⟩) (xs.length + 1) cap') (xs ++ [x]) := by
                have h1 : SR w1' w3.heap.size (fun k => w3.heap.size ≤ k) (.slice (some ⟨g', 0, none⟩) (xs.length + 1) cap') (xs ++ [x]) := by
                  refine Kd.R_of_own ?_ (fun k hk => own_base hown' k hk)
                  rw [List.length_append, List.length_singleton]
                  have : encs Value.string (xs ++ [x]) = encs Value.string xs ++ [.string x] := by simp [encs]
                  rw [this]; exact hown'
                rw [hWn]
                exact Kd.R_far h1 (fun k hk => by simp; omega) _
              have hbn : Below b w Wn := by
                rw [hWn]
                exact (hbw2.trans (grown_below hro hgrow (by omega) hs2)).setCell (p := ⟨b, 0, none⟩) (Nat.le_refl _) _
              refine ⟨kh2.trans hkh, r.2, n + 1, xs ++ [x], _, by rw [hWn]; exact hL4.set, hsr, (hkeep _ (by omega) (by omega)).trans n5, (hkeep _ (by omega) (by omega)).trans p6, (hkeep _ (by omega) (by omega)).trans p9, (hkeep _ (by omega) (by omega)).trans pg, (hkeep _ (by omega) (by omega)).trans pp, ⟨?_, ?_⟩, ?_, by omega, by omega, by omega, by omega, by simp; omega, HS6.out, HK2.out, hbn⟩
              · exact (World.cell?_of_block (hkeep m (by omega) (by omega))).trans pc.1
              · exact (World.cell?_of_block (hkeep (m + 1) (by omega) (by omega))).trans pc.2
              · obtain ⟨tt, ff, hh⟩ := pT.at
                exact T10.of_at ((hkeep 2 (by have := hT3.lt; omega) (by have := pT.ne p4 (by simp); omega)).trans hh)
            · rw [hq] at c9
              have HS6 := Lib.hid (show scR t s q r.2 (n + 1) xs = scR t s 0 0 0 [] by have := HS5.out; rw [hq] at this; exact this)
              clear e9 hq
              gi_wp2
              rw [← hW2]
              exact ⟨kh2, r.2, n + 1, xs, v, p4, pr, n5, p6, p9, pg, pp, pc, pT, by omega, by omega, by omega, by omega, by omega, HS6.out, HK2.out, hbw2⟩
      · have HS4 := Lib.hid (show scR t s 0 0 0 [] = none by have := HS3.out; rw [hrr] at this; exact this.symm)
        clear hrr HS3 c0 c1 c2 c3 c4 c5 c6 c7 c8 c9 c10 d10
        gi_wp2
        exact ⟨rfl, kh, rfl, n, v, m4, m5, m6, m9, HS4.out, hbw⟩
  · rintro W ⟨ip, n, xs, v, l4, lr, l5, l6, l9, lg, lp, hc, lT, q1, q2, q3, q4, q5, q6, q7, q8⟩ hle hD
    rw [scR_end] at q6
    have HR := Lib.hid q6
    have c4 := l4.c
    have c5 := l5.c
    have c6 := l6.c
    have f4 := blk_frozen l4 0
    have f5 := blk_frozen l5 0
    have f6 := blk_frozen l6 0
    have HD := Lib.hid hD
    have hlt : w3.heap.size < W.heap.size := (Array.getElem?_eq_some_iff.1 hD).1
    obtain ⟨A, cp, rfl, _, _⟩ := Kd.R_reads lr
    clear hD q6 q7
    show wpV _ _ _ _ _ _
    refine wpV_of_wpIn ?_
    refine (wpIn_wide (n := 0)).2 ?_
    clear hz
    go_wp2_with fail
    go_region
    go_wp2_with fail
    have hz : m + 1 < w3.heap.size := by have := HZ.out.1; omega
    obtain ⟨W4, hW4⟩ : ∃ W4, W4 = (((W.setCell ⟨b, 0, none⟩ (.slice A xs.length cp)).setCell ⟨b + 1, 0, none⟩ (.int .i64 n)).setCell ⟨b + 1 + 1, 0, none⟩ (.int .i64 0)).drew := ⟨_, rfl⟩
    have hkp : ∀ i, i ≠ b → i ≠ b + 1 → i ≠ b + 1 + 1 → W4.heap[i]? = W.heap[i]? := fun i h1 h2 h3 => by
      rw [hW4]; exact (Below.heap_setCell _ _ _ i h3).trans ((Below.heap_setCell _ _ _ i h2).trans (Below.heap_setCell _ _ _ i h1))
    have r4 : LB W4 b (.slice A xs.length cp) := by rw [hW4]; exact (Below.heap_setCell _ _ _ b (by simp; omega)).trans ((Below.heap_setCell _ _ _ b (by simp)).trans l4.set)
    have r5 : I1 W4 (b + 1) 3 n := by rw [hW4]; exact I1.set_ne (c := b + 1 + 1) (I1.set (I1.set_ne (c := b) l5 (by omega))) (by omega)
    have r6 : I1 W4 (b + 1 + 1) 25 0 := by rw [hW4]; exact I1.set (I1.set_ne (c := b + 1) (I1.set_ne (c := b) l6 (by omega)) (by omega))
    have rr : SR W4 w3.heap.size (fun k => w3.heap.size ≤ k) (.slice A xs.length cp) xs := Kd.R_step lr (fun k hk _ => hkp k (by omega) (by omega) (by omega))
    have hb4 : Below b w W4 := by
      rw [hW4]
      exact ((((q8.setCell (p := ⟨b, 0, none⟩) (Nat.le_refl _) _).setCell (p := ⟨b + 1, 0, none⟩) (by simp) _).setCell (p := ⟨b + 1 + 1, 0, none⟩) (by simp; omega) _)).drew
    have hD4 : W4.heap[w3.heap.size]? = some (.deferred (some [])) := (hkp _ (by omega) (by omega) (by omega)).trans HD.out
    show LeavesInM _ _ _ _ _ _ _ _ _
    rw [← hW4]
    clear hW4
    refine leave_mark (by intro h; cases h) hD4 ?_
    have hk4 := chg_of_mark (r := w3.heap.size) hb4 HB.out (by omega) (.deferred none)
    have hot : ∀ i, i ≠ w3.heap.size → (W4.putObj w3.heap.size (.deferred none)).heap[i]? = W4.heap[i]? := fun i hi => World.putObj_heap_other hi
    have sr := SR.mark (o := .deferred none) rr hD4
    obtain ⟨W5, hW5⟩ : ∃ W5, W5 = W4.putObj w3.heap.size (.deferred none) := ⟨_, rfl⟩
    rw [← hW5] at hk4 hot sr ⊢
    clear hW5
    have s4 : LB W5 b (.slice A xs.length cp) := (hot b (by omega)).trans r4
    have s5 : I1 W5 (b + 1) 3 n := (hot (b + 1) (by omega)).trans r5
    have s6 : I1 W5 (b + 1 + 1) 25 0 := (hot (b + 1 + 1) (by omega)).trans r6
    refine leavesM_cons (by intro h; cases h) (by simp [invoke, go_sem]) ((caughtIn_idle a (b + 1 + 1) _).mono ?_)
    rintro e u' w5 ⟨rfl, rfl, k5⟩
    refine leavesM_cons (by intro h; cases h) (by simp [invoke, go_sem]) ((zeroed33 b (b + 1) (b + 1 + 1) _ n 0 _ _ (by omega) (s4.chg k5 (fun h => h)) (s5.chg k5 (fun h => h)) (s6.chg k5 (fun h => h))).mono ?_)
    rintro e u' w6 ⟨rfl, rfl, k6, t4, t5⟩
    rw [if_pos rfl] at t4 t5
    have k56 : Chg (fun _ => False) w w6 := (hk4.trans k5).trans' k6 (by rintro i (h | h) <;> exact .inr (by have := HB.out; omega))
    have t6 := (s6.chg k5 (fun h => h)).chg k6 (by rintro (h | h) <;> omega)
    have tr := (sr.chg k5 (fun _ _ h => h)).chg k6 (fun i hi => by rintro (h | h) <;> omega)
    have d4 := t4.c
    have d5 := t5.c
    have d6 := t6.c
    refine ⟨.tuple #[.slice A xs.length cp, .int .i64 n, .int .i64 0], ?_, k56, .slice A xs.length cp, ?_, ?_⟩
    · simp [results, Tryz.f13, Tryz.results13, go_sem, d4, d5, d6]
    · rw [HN.out, ← HR.out]
    · rw [HN.out, ← HR.out]
      have := HB.out
      exact Kd.R_mono (Kd.R_lower tr (by omega)) (fun k hk => by omega)
  · rintro c W ⟨rfl, n, xs, v, l4, lr, l5, l6, l9, q3, q6, q8⟩ hle hD
    have HR := Lib.hid q6.symm
    have c4 := l4.c
    have c5 := l5.c
    have c6 := l6.c
    have f4 := blk_frozen l4 0
    have f5 := blk_frozen l5 0
    have f6 := blk_frozen l6 0
    have HD := Lib.hid hD
    have hlt : w3.heap.size < W.heap.size := (Array.getElem?_eq_some_iff.1 hD).1
    obtain ⟨A, cp, rfl, _, _⟩ := Kd.R_reads lr
    clear hD q6
    show wpV _ _ _ _ _ _
    refine wpV_of_wpIn ?_
    refine (wpIn_wide (n := 0)).2 ?_
    clear hz
    go_wp2_with fail
    show wpV _ _ _ _ _ _
    refine wpV_of_wpIn ?_
    refine (wpIn_wide (n := 0)).2 ?_
    go_wp2_with fail
    go_region
    go_wp2_with fail
    have hz : m + 1 < w3.heap.size := by have := HZ.out.1; omega
    obtain ⟨W4, hW4⟩ : ∃ W4, W4 = (((W.setCell ⟨b, 0, none⟩ (.slice A xs.length cp)).setCell ⟨b + 1, 0, none⟩ (.int .i64 n)).setCell ⟨b + 1 + 1, 0, none⟩ (.int .i64 0)).drew := ⟨_, rfl⟩
    have hkp : ∀ i, i ≠ b → i ≠ b + 1 → i ≠ b + 1 + 1 → W4.heap[i]? = W.heap[i]? := fun i h1 h2 h3 => by
      rw [hW4]; exact (Below.heap_setCell _ _ _ i h3).trans ((Below.heap_setCell _ _ _ i h2).trans (Below.heap_setCell _ _ _ i h1))
    have r4 : LB W4 b (.slice A xs.length cp) := by rw [hW4]; exact (Below.heap_setCell _ _ _ b (by simp; omega)).trans ((Below.heap_setCell _ _ _ b (by simp)).trans l4.set)
    have r5 : I1 W4 (b + 1) 3 n := by rw [hW4]; exact I1.set_ne (c := b + 1 + 1) (I1.set (I1.set_ne (c := b) l5 (by omega))) (by omega)
    have r6 : I1 W4 (b + 1 + 1) 25 0 := by rw [hW4]; exact I1.set (I1.set_ne (c := b + 1) (I1.set_ne (c := b) l6 (by omega)) (by omega))
    have rr : SR W4 w3.heap.size (fun k => w3.heap.size ≤ k) (.slice A xs.length cp) xs := Kd.R_step lr (fun k hk _ => hkp k (by omega) (by omega) (by omega))
    have hb4 : Below b w W4 := by
      rw [hW4]
      exact ((((q8.setCell (p := ⟨b, 0, none⟩) (Nat.le_refl _) _).setCell (p := ⟨b + 1, 0, none⟩) (by simp) _).setCell (p := ⟨b + 1 + 1, 0, none⟩) (by simp; omega) _)).drew
    have hD4 : W4.heap[w3.heap.size]? = some (.deferred (some [])) := (hkp _ (by omega) (by omega) (by omega)).trans HD.out
    show LeavesInM _ _ _ _ _ _ _ _ _
    rw [← hW4]
    clear hW4
    refine leave_mark (by intro h; cases h) hD4 ?_
    have hk4 := chg_of_mark (r := w3.heap.size) hb4 HB.out (by omega) (.deferred none)
    have hot : ∀ i, i ≠ w3.heap.size → (W4.putObj w3.heap.size (.deferred none)).heap[i]? = W4.heap[i]? := fun i hi => World.putObj_heap_other hi
    have sr := SR.mark (o := .deferred none) rr hD4
    obtain ⟨W5, hW5⟩ : ∃ W5, W5 = W4.putObj w3.heap.size (.deferred none) := ⟨_, rfl⟩
    rw [← hW5] at hk4 hot sr ⊢
    clear hW5
    have s4 : LB W5 b (.slice A xs.length cp) := (hot b (by omega)).trans r4
    have s5 : I1 W5 (b + 1) 3 n := (hot (b + 1) (by omega)).trans r5
    have s6 : I1 W5 (b + 1 + 1) 25 0 := (hot (b + 1 + 1) (by omega)).trans r6
    refine leavesM_cons (by intro h; cases h) (by simp [invoke, go_sem]) ((caughtIn_idle a (b + 1 + 1) _).mono ?_)
    rintro e u' w5 ⟨rfl, rfl, k5⟩
    refine leavesM_cons (by intro h; cases h) (by simp [invoke, go_sem]) ((zeroed33 b (b + 1) (b + 1 + 1) _ n 0 _ _ (by omega) (s4.chg k5 (fun h => h)) (s5.chg k5 (fun h => h)) (s6.chg k5 (fun h => h))).mono ?_)
    rintro e u' w6 ⟨rfl, rfl, k6, t4, t5⟩
    rw [if_pos rfl] at t4 t5
    have k56 : Chg (fun _ => False) w w6 := (hk4.trans k5).trans' k6 (by rintro i (h | h) <;> exact .inr (by have := HB.out; omega))
    have t6 := (s6.chg k5 (fun h => h)).chg k6 (by rintro (h | h) <;> omega)
    have tr := (sr.chg k5 (fun _ _ h => h)).chg k6 (fun i hi => by rintro (h | h) <;> omega)
    have d4 := t4.c
    have d5 := t5.c
    have d6 := t6.c
    refine ⟨.tuple #[.slice A xs.length cp, .int .i64 n, .int .i64 0], ?_, k56, .slice A xs.length cp, ?_, ?_⟩
    · simp [results, Tryz.f13, Tryz.results13, go_sem, d4, d5, d6]
    · rw [HN.out, ← HR.out]
    · rw [HN.out, ← HR.out]
      have := HB.out
      exact Kd.R_mono (Kd.R_lower tr (by omega)) (fun k hk => by omega)
  · rintro ch W (⟨rfl, n, v, l4, l5, l6, l9, q6, q8⟩ | ⟨p, hp, hst, rfl, ip, n, xs, v, l4, lr, l5, l6, l9, lg, lp, hc, lT, q1, q2, q3, q4, q5, q6, q7, q8⟩) hle hD
    · have HN2 := Lib.hid (show scn s t = ([], 0, 4) by rw [HN.out, q6])
      clear q6
      have hlt : w3.heap.size < W.heap.size := (Array.getElem?_eq_some_iff.1 hD).1
      show LeavesInM _ _ _ _ _ _ _ _ _
      refine leave_mark (by intro h; cases h) hD ?_
      have hk4 := chg_of_mark (r := w3.heap.size) q8 HB.out (by omega) (.deferred none)
      have hot : ∀ i, i ≠ w3.heap.size → (W.putObj w3.heap.size (.deferred none)).heap[i]? = W.heap[i]? := fun i hi => World.putObj_heap_other hi
      obtain ⟨W5, hW5⟩ : ∃ W5, W5 = W.putObj w3.heap.size (.deferred none) := ⟨_, rfl⟩
      rw [← hW5] at hk4 hot ⊢
      clear hW5
      have s4 : LB W5 b v := (hot b (by omega)).trans l4
      have s5 : I1 W5 (b + 1) 3 n := (hot (b + 1) (by omega)).trans l5
      have s6 : I1 W5 (b + 1 + 1) 25 0 := (hot (b + 1 + 1) (by omega)).trans l6
      have s9 : I1 W5 a 3 0 := (hot a (by omega)).trans l9
      refine leavesM_cons (by intro h; cases h) (by simp [invoke, go_sem]) ((caughtIn_panicking a (b + 1 + 1) (by omega) 0 0 0 4 [] _ s9 s6).mono ?_)
      rintro e u' w5 ⟨rfl, rfl, k5, t9, t6⟩
      have t4 := s4.chg k5 (by rintro (h | h) <;> omega)
      have t5 := s5.chg k5 (by rintro (h | h) <;> omega)
      show LeavesInM _ _ _ _ _ _ _ .returning _
      refine leavesM_cons (by intro h; cases h) (by simp [invoke, go_sem]) ((zeroed33 b (b + 1) (b + 1 + 1) _ n 4 _ _ (by omega) t4 t5 t6).mono ?_)
      rintro e u' w6 ⟨rfl, rfl, k6, u4, u5⟩
      rw [if_neg (by decide)] at u4 u5
      have u6 := t6.chg k6 (by rintro (h | h) <;> omega)
      have k56 : Chg (fun _ => False) w w6 := (hk4.trans' k5 (by rintro i (h | h) <;> exact .inr (by have := HB.out; omega))).trans' k6 (by rintro i (h | h) <;> exact .inr (by have := HB.out; omega))
      have d4 := u4.c
      have d5 := u5.c
      have d6 := u6.c
      show LeavesInM _ _ _ _ _ _ _ .returning _
      refine ⟨.tuple #[.slice none 0 0, .int .i64 0, .int .i64 4], ?_, k56, .slice none 0 0, ?_, ?_⟩
      · simp [results, Tryz.f13, Tryz.results13, go_sem, d4, d5, d6]
      · rw [HN2.out]
      · rw [HN2.out]; exact Kd.R_nil _ _ _ _ _
    · rw [ckR_bad hp hst] at q7; cases q7
theorem scan_bad (s t : ByteArray) (ht : t.size ≤ 100000) (w : World) (p : Nat) (hck : ckR t 0 = some p) :
    Calls Tryz.prog 13 #[.string s, .string t] w (ScPost s t w) := by
  have HN := Lib.hid (show scn s t = ([], 0, 2) by unfold scn; rw [hck])
  have HK := Lib.hid (show ck t true = ((p : Int), 2) by simp only [ck, hck]; rfl)
  clear hck
  go_enter_defers Tryz.func13, Tryz.ntmps13
  go_wp2_with fail
  obtain ⟨W0, hW0⟩ : ∃ W0, W0 = (((w.alloc (Obj.cells #[Value.slice none 0 0] 22)).alloc (Obj.cells #[Value.int IntKind.i64 0] 3)).alloc (Obj.cells #[Value.int IntKind.i64 0] 25)) := ⟨_, rfl⟩
  have h4 : LB W0 w.heap.size (.slice none 0 0) := by rw [hW0]; exact (Below.heap_alloc _ _ _ (by simp; omega)).trans ((Below.heap_alloc _ _ _ (by simp)).trans (World.alloc_heap_new w _))
  have h5 : I1 W0 (w.heap.size + 1) 3 0 := by
    rw [hW0]; have := World.alloc_heap_new (w.alloc (Obj.cells #[Value.slice none 0 0] 22)) (.cells #[.int .i64 0] 3)
    rw [World.size_alloc] at this
    exact (Below.heap_alloc _ _ _ (by simp)).trans this
  have h6 : I1 W0 (w.heap.size + 1 + 1) 25 0 := by
    rw [hW0]; have := World.alloc_heap_new ((w.alloc (Obj.cells #[Value.slice none 0 0] 22)).alloc (Obj.cells #[Value.int IntKind.i64 0] 3)) (.cells #[.int .i64 0] 25)
    rw [World.size_alloc, World.size_alloc] at this
    exact this
  have k0 : Chg (fun _ => False) w W0 := by rw [hW0]; exact ((((Chg.refl _ w).alloc _).alloc _).alloc _)
  rw [← hW0]
  clear hW0
  obtain ⟨b, hb⟩ : ∃ b, b = w.heap.size := ⟨_, rfl⟩
  rw [← hb] at h4 h5 h6 ⊢
  have HB := Lib.hid hb
  clear hb
  refine (check_true t ht _).mono ?_
  rintro e w1 ⟨rfl, k1⟩
  rw [HK.out]
  have i4 := h4.chg k1 (fun h => h)
  have i5 := h5.chg k1 (fun h => h)
  have i6 := h6.chg k1 (fun h => h)
  have k01 := k0.trans k1
  clear h4 h5 h6 k0 k1
  have c4 := i4.c
  have c5 := i5.c
  have c6 := i6.c
  have f4 := blk_frozen i4 0
  have f5 := blk_frozen i5 0
  have f6 := blk_frozen i6 0
  go_wp2
  obtain ⟨W4, hW4⟩ : ∃ W4, W4 = (((w1.setCell ⟨b, 0, none⟩ (.slice none 0 0)).setCell ⟨b + 1, 0, none⟩ (.int .i64 0)).setCell ⟨b + 1 + 1, 0, none⟩ (.int .i64 2)) := ⟨_, rfl⟩
  have r4 : LB W4 b (.slice none 0 0) := by rw [hW4]; exact (Below.heap_setCell _ _ _ b (by simp; omega)).trans ((Below.heap_setCell _ _ _ b (by simp)).trans i4.set)
  have r5 : I1 W4 (b + 1) 3 0 := by rw [hW4]; exact I1.set_ne (c := b + 1 + 1) (I1.set (I1.set_ne (c := b) i5 (by omega))) (by omega)
  have r6 : I1 W4 (b + 1 + 1) 25 2 := by rw [hW4]; exact I1.set (I1.set_ne (c := b + 1) (I1.set_ne (c := b) i6 (by omega)) (by omega))
  have k4 : Chg (fun _ => False) w W4 := by
    rw [hW4]
    have := HB.out
    exact ((k01.setCell ⟨b, 0, none⟩ _ (.inr (by simp; omega))).setCell ⟨b + 1, 0, none⟩ _ (.inr (by simp; omega))).setCell ⟨b + 1 + 1, 0, none⟩ _ (.inr (by simp; omega))
  rw [← hW4]
  have d4 := r4.c
  have d5 := r5.c
  have d6 := r6.c
  show Leaves _ _ _ _ _ .returning _
  refine ⟨.tuple #[.slice none 0 0, .int .i64 0, .int .i64 2], ?_, k4, .slice none 0 0, ?_, ?_⟩
  · simp [results, Tryz.f13, Tryz.results13, go_sem, d4, d5, d6]
  · rw [HN.out]
  · rw [HN.out]; exact Kd.R_nil _ _ _ _ _
theorem scan_calls (s t : ByteArray) (hs : s.size ≤ 100000) (ht : t.size ≤ 100000) (w : World) (hT : T10 w) : Calls Tryz.prog 13 #[.string s, .string t] w (ScPost s t w) := by
  cases h : ckR t 0 with
  | none => exact scan_good s t hs ht w hT h
  | some p => exact scan_bad s t ht w p h
end Go.Proofs.YtemogjpgkcbaiaaGreatDoor.Sp
end
section
namespace Go.Proofs.YtemogjpgkcbaiaaGreatDoor.Sp
open Go.RowKit Go.Proofs.YtemogjpgkcbaiaaGreatDoorW.PrintWords Go.Proofs.YtemogjpgkcbaiaaGreatDoorW.PrintLast Go.Proofs.YtemogjpgkcbaiaaGreatDoorW.PrintMore
set_option linter.unusedVariables false
set_option linter.unusedSimpArgs false
set_option maxRecDepth 100000
attribute [local go_sem] Oper.semAt_some
theorem nTx_size (s : ByteArray) (b W a : Int) (h0 : 0 ≤ a) (h1 : a ≤ s.size) : (nTx s b W a).size ≤ s.size ∧ nEnd s b W a ≤ s.size := by
  have hB : nBeg s W a = (if nSg s W a = true then a + 1 else a) ∧ (nSg s W a = true → a < s.size) := by
    refine ⟨rfl, fun h => ?_⟩
    unfold nSg at h
    rw [Bool.and_eq_true] at h
    have := of_decide_eq_true h.1
    unfold nStop at this
    split at this <;> omega
  have hBr : a ≤ nBeg s W a ∧ nBeg s W a ≤ s.size := by
    rw [hB.1]; split
    · rename_i h; have := hB.2 h; omega
    · omega
  have hr := rn_pos (fun c => decide (vlb c < b)) s (nStop s W a - nBeg s W a).toNat (nBeg s W a)
  have he : nEnd s b W a = rn (fun c => decide (vlb c < b)) s (nStop s W a - nBeg s W a).toNat (nBeg s W a) := rfl
  rw [← he] at hr
  have h2 := hr.2.2 hBr.2
  have hc := cut_len s (nBeg s W a) (nEnd s b W a) (by omega) hr.1 h2
  refine ⟨?_, h2⟩
  unfold nTx
  rw [ByteArray.size_append]
  split
  · rename_i h
    have : nBeg s W a = a + 1 := by rw [hB.1, if_pos h.1]
    have e1 : (⟨#[45]⟩ : ByteArray).size = 1 := rfl
    omega
  · have e1 : (⟨#[]⟩ : ByteArray).size = 0 := rfl
    omega
theorem sl_runT (s : ByteArray) (a b : Int) (h0 : 0 ≤ a) (h1 : a ≤ b) (h : b ≤ s.size) (w : World) : (Instr.slice 9 (.string s) (some (.int .i64 a)) (some (.int .i64 b)) none).run Tryz.prog w = .ok (.string (cut s a b)) w := by
  have p0 : (0 ≤ a) = True := eq_true h0
  have p1 : (a ≤ b) = True := eq_true h1
  have p2 : (b ≤ (s.size : Int)) = True := eq_true h
  simp [go_sem, p0, p1, p2, cut]
  try omega
def findB (k : Nat) : Code → Option Code
  | .block j c => if j = k then some (.block j c) else findB k c
  | .loop c => findB k c
  | .seq a b => match findB k a with
    | some c => some c
    | none => findB k b
  | .scope c => findB k c
  | .cond _ a b => match findB k a with
    | some c => some c
    | none => findB k b
  | _ => none
noncomputable def blk14 : Code := (Tryz.f14.body.bind (findB 2)).getD .skip
def Blk14 (s t : ByteArray) (c : Cv) (u4 : Value) (n ip a ie : Int) (q C : Nat) (x : ByteArray) (ok : Bool) (W4 : World) (a' : Act) (w' : World) : Prop :=
  ∃ v4 v5 v6 v9 v13 v15 v16 u25 u26 u27 u28 u29 u30 u31 u32 u33 u34 u35 u36 u37 u38 u39 u40 u41 u42 u43 u44 u45 u46 u47 u48 u49 u50 u51 u52 u53 u54 u55 u56 u57 u58 u59 u60 u61 u62 u63 u64 u65 u66 u67 u68 u69 u70 u71 u72 u73 u74 u75 u76 u77 u78 u79 u80 u81 u82 u83 u84 u85 u86 u87 u88 u89 u90 u91 u93 u94 u95 u96 u97 u98 u99 u100 u101 u102 u103 u104 u105 u106 u107 u108 u109 u110 u111 u112 u113 u114 u115 u116 u117 u118 u119 u120 u121 u122 u123 u124 u125 u126 u127 u128 u129 u130 u131 u132 u133 u134 u135 u136 u137 u138 u139 u140 u141 u142 u143 u144 u145 u146 u147 u148 u149 u150 u151 u152 u153 u154 u155 u156 u157 u158 u159 u160 u161 u162 u163 u164 u165 u166 u167,
    (v4 = u4 ∧ v5 = .int .i64 n ∧ v9 = .int .i64 ip ∧ ∃ x', v13 = .string x' ∧ (ok = true → x' = x) ∧ v15 = .int .i64 ie ∧ v16 = .bool ok ∧ Chg (fun _ => False) W4 w') ∧
      a' = ⟨#[.string s, .string t, undef, undef, v4, v5, v6, .int .i64 0, .int .i64 0, v9, .int .i64 (q : Int), .pointer (some ⟨C, 0, none⟩), .bool true, v13, .int .i64 a, v15, v16, .tuple #[.int .i64 0, .int .i64 0], .string t, .tuple #[.int .i64 0, .int .i64 0], .int .i64 0, .int .i64 0, .int .i64 0, .bool false, undef, u25, u26, u27, u28, u29, u30, u31, u32, u33, u34, u35, u36, u37, u38, u39, u40, u41, u42, u43, u44, u45, u46, u47, u48, u49, u50, u51, u52, u53, u54, u55, u56, u57, u58, u59, u60, u61, u62, u63, u64, u65, u66, u67, u68, u69, u70, u71, u72, u73, u74, u75, u76, u77, u78, u79, u80, u81, u82, u83, u84, u85, u86, u87, u88, u89, u90, u91, .int .u8 c.letter, u93, u94, u95, u96, u97, u98, u99, u100, u101, u102, u103, u104, u105, u106, u107, u108, u109, u110, u111, u112, u113, u114, u115, u116, u117, u118, u119, u120, u121, u122, u123, u124, u125, u126, u127, u128, u129, u130, u131, u132, u133, u134, u135, u136, u137, u138, u139, u140, u141, u142, u143, u144, u145, u146, u147, u148, u149, u150, u151, u152, u153, u154, u155, u156, u157, u158, u159, u160, u161, u162, u163, u164, u165, u166, u167, undef, undef], []⟩
set_option maxHeartbeats 4000000 in
theorem blk14_wp (s t : ByteArray) (hs : s.size ≤ 100000) (w W4 : World) (hT : T10 w) (hkW : Chg (fun _ => False) w W4) (c : Cv) (g : Nat → Value) (hO : One g) (u4 u6 : Value) (n ip a ie : Int) (q C : Nat) (x : ByteArray) (ok B8 : Bool) (E : Exit → Act → World → Prop)
    (HB8 : Hid (B8 = (c.letter != 99 && (c.letter != 91 && c.letter != 110)))) (HA : Hid (a = if B8 = true then wh s ip else ip)) (HAR : Hid (0 ≤ a ∧ a ≤ s.size))
    (HLW2 : Hid (((c.letter = 100 ∨ c.letter = 120 ∨ c.letter = 111 ∨ c.letter = 98) ∨ c.letter = 115 ∨ c.letter = 99 ∨ c.letter = 91 ∨ c.letter = 110 ∨ c.letter = 37) ∧ (c.width = -1 ∨ 1 ≤ c.width))) (HVA2 : Hid (-1 ≤ c.width ∧ c.width ≤ 999 ∧ c.set.size ≤ t.size ∧ c.text.size = 0)) (HG6 : Hid (g 6 = .int .i64 c.width ∧ g 11 = .int .u8 c.letter ∧ (c.letter = 91 → ∀ b : Nat, b < 256 → g (12 + b) = .bool (fts c.set b)))) (HQ : Hid (0 ≤ ip ∧ ip ≤ s.size ∧ 0 ≤ n)) (HL37 : Hid (¬ c.letter = 37)) (HRD : Hid (rdIn s c ip = (some (x, ok), ie))) (HF4 : Hid (FB W4 C g)) (hc11 : W4.cell? ⟨C, 11, none⟩ = some (.int .u8 c.letter))
    (u25 u26 u27 u28 u29 u30 u31 u32 u33 u34 u35 u36 u37 u38 u39 u40 u41 u42 u43 u44 u45 u46 u47 u48 u49 u50 u51 u52 u53 u54 u55 u56 u57 u58 u59 u60 u61 u62 u63 u64 u65 u66 u67 u68 u69 u70 u71 u72 u73 u74 u75 u76 u77 u78 u79 u80 u81 u82 u83 u84 u85 u93 u94 u95 u96 u97 u98 u99 u100 u101 u102 u103 u104 u105 u106 u107 u108 u109 u110 u111 u112 u113 u114 u115 u116 u117 u118 u119 u120 u121 u122 u123 u124 u125 u126 u127 u128 u129 u130 u131 u132 u133 u134 u135 u136 u137 u138 u139 u140 u141 u142 u143 u144 u145 u146 u147 u148 u149 u150 u151 u152 u153 u154 u155 u156 u157 u158 u159 u160 u161 u162 u163 u164 u165 u166 u167 : Value) (J K' : Act → World → Prop) (hJ : ∀ a' w', Blk14 s t c u4 n ip a ie q C x ok W4 a' w' → J a' w') (hK : ∀ a' w', Met J a' w' → K' a' w') :
    Code.wp Tryz.prog blk14 (Exit.then K' E) ⟨#[.string s, .string t, undef, undef, u4, .int .i64 n, u6, .int .i64 0, .int .i64 0, .int .i64 ip, .int .i64 (q : Int), .pointer (some ⟨C, 0, none⟩), .bool true, .string ⟨#[]⟩, .int .i64 a, .int .i64 a, .bool (decide (a < (s.size : Int))), .tuple #[.int .i64 0, .int .i64 0], .string t, .tuple #[.int .i64 0, .int .i64 0], .int .i64 0, .int .i64 0, .int .i64 0, .bool false, undef, u25, u26, u27, u28, u29, u30, u31, u32, u33, u34, u35, u36, u37, u38, u39, u40, u41, u42, u43, u44, u45, u46, u47, u48, u49, u50, u51, u52, u53, u54, u55, u56, u57, u58, u59, u60, u61, u62, u63, u64, u65, u66, u67, u68, u69, u70, u71, u72, u73, u74, u75, u76, u77, u78, u79, u80, u81, u82, u83, u84, u85, .int .i64 a, .int .i64 a, .string s, .int .i64 s.size, .bool (decide (a < (s.size : Int))), .pointer (some ⟨C, 11, none⟩), .int .u8 c.letter, u93, u94, u95, u96, u97, u98, u99, u100, u101, u102, u103, u104, u105, u106, u107, u108, u109, u110, u111, u112, u113, u114, u115, u116, u117, u118, u119, u120, u121, u122, u123, u124, u125, u126, u127, u128, u129, u130, u131, u132, u133, u134, u135, u136, u137, u138, u139, u140, u141, u142, u143, u144, u145, u146, u147, u148, u149, u150, u151, u152, u153, u154, u155, u156, u157, u158, u159, u160, u161, u162, u163, u164, u165, u166, u167, undef, undef], []⟩ W4 := by
  conv => arg 2; whnf
  have p0 : (0 ≤ a) = True := eq_true HAR.out.1
  have e37 : (c.letter == 37) = false := by simpa using HL37.out
  have HW4 := Lib.hid (And.intro hkW trivial)
  have hz := zlen
  have hlen := gL_len g
  unfold Blk14 at hJ
  have e110 : ∀ k : Int, c.letter = k → (c.letter == 110) = (k == 110) ∧ (c.letter == 99) = (k == 99) ∧ (c.letter == 115) = (k == 115) ∧ (c.letter == 91) = (k == 91) := fun k h => by rw [h]; exact ⟨rfl, rfl, rfl, rfl⟩
  rcases HLW2.out.1 with hnum | h | h | h | h | h
  · have hrd := HRD.out
    rw [rdIn_d s c ip hnum HLW2.out.2 HQ.out.1 HQ.out.2.1] at hrd
    have ha := HA.out
    rw [HB8.out, if_pos (by rcases hnum with h | h | h | h <;> (rw [h]; rfl))] at ha
    rw [← ha] at hrd
    obtain ⟨N, hN⟩ : ∃ N, N = nEnd s (bsN c.letter) c.width a := ⟨_, rfl⟩
    obtain ⟨B, hB⟩ : ∃ B, B = nBeg s c.width a := ⟨_, rfl⟩
    obtain ⟨tx, htx⟩ : ∃ tx, tx = nTx s (bsN c.letter) c.width a := ⟨_, rfl⟩
    have hcall := number40 s hs g hO c.width c.letter (by omega) HG6.out.1 HG6.out.2.1 HVA2.out.1 HVA2.out.2.1 a HAR.out.1 HAR.out.2 W4
    have htxs := (nTx_size s (bsN c.letter) c.width a HAR.out.1 HAR.out.2).1
    rw [← hN, ← hB, ← htx] at hcall hrd
    rw [← htx] at htxs
    have hbs := bsN_range c.letter
    have hT4 := hT.chg HW4.out.1 (fun h => h)
    have hread := fun (W5 : World) (hT5 : T10 W5) => read41 tx (by omega) (bsN c.letter).toNat (by omega) (by omega) W5 hT5
    rw [show (((bsN c.letter).toNat : Nat) : Int) = bsN c.letter from by omega] at hread
    obtain ⟨R, hR⟩ : ∃ R, R = rfRead tx (bsN c.letter).toNat := ⟨_, rfl⟩
    rw [← hR] at hread hrd
    have HREAD := Lib.hid hread
    have HBASE := Lib.hid (fun W => base42 c.letter (by omega) W)
    have HT4 := Lib.hid hT4
    obtain ⟨f110, f99, f115, f91⟩ : (c.letter == 110) = false ∧ (c.letter == 99) = false ∧ (c.letter == 115) = false ∧ (c.letter == 91) = false := by
      rcases hnum with h | h | h | h <;> (rw [h]; exact ⟨rfl, rfl, rfl, rfl⟩)
    by_cases hBN : B < N
    · have hR0 : R.2 = 0 := by
        by_cases h2 : R.2 = 0
        · exact h2
        · rw [if_pos hBN, if_neg h2] at hrd; cases hrd
      rw [if_pos hBN, if_pos hR0] at hrd
      simp only [Prod.mk.injEq, Option.some.injEq] at hrd
      obtain ⟨⟨rfl, rfl⟩, rfl⟩ := hrd
      rw [decide_eq_true hBN] at hcall
      have HCALL := Lib.hid hcall
      have e1 : (R.2 != 0) = false := by simpa using hR0
      clear hnum hcall hread hT4 hbs htxs ha hN hB htx hR hBN hR0 e110
      go_wp2_with (refine wpList_load_mid rfl 72 _ rfl C 0 rfl (gL g) _ HF4.out.range Tryz.underlying72 rfl (i72L g) ?_)
      refine (HCALL.out).mono ?_
      rintro e w5 ⟨rfl, k5⟩
      have hd11 : w5.cell? ⟨C, 11, none⟩ = some (.int .u8 c.letter) := (World.cell?_of_block (k5.block _ HF4.out.lt (fun h => h))).trans hc11
      go_wp2_with fail
      refine (HBASE.out _).mono ?_
      rintro e w6 ⟨rfl, rfl⟩
      go_wp2_with fail
      refine (HREAD.out _ (HT4.out.chg k5 (fun h => h))).mono ?_
      rintro e w7 ⟨rfl, k7⟩
      go_wp2_with fail
      go_meet
      exact ⟨rfl, rfl, rfl, _, rfl, fun _ => rfl, rfl, rfl, k5.trans k7⟩
    · rw [if_neg hBN] at hrd
      simp only [Prod.mk.injEq, Option.some.injEq] at hrd
      obtain ⟨⟨rfl, rfl⟩, rfl⟩ := hrd
      rw [decide_eq_false hBN] at hcall
      have HCALL := Lib.hid hcall
      clear hnum hcall hread hT4 hbs htxs ha hN hB htx hR hBN e110
      go_wp2_with (refine wpList_load_mid rfl 72 _ rfl C 0 rfl (gL g) _ HF4.out.range Tryz.underlying72 rfl (i72L g) ?_)
      refine (HCALL.out).mono ?_
      rintro e w5 ⟨rfl, k5⟩
      go_wp2_with fail
      go_meet
      exact ⟨rfl, rfl, rfl, _, rfl, fun h => (by cases h), rfl, rfl, k5⟩
  · obtain ⟨f110, f99, f115, f91⟩ := e110 _ h
    obtain ⟨ie2, he2, hrd⟩ := rdIn_s s c ip h HQ.out.1 HQ.out.2.1
    have ha := HA.out
    rw [HB8.out, if_pos (by rw [h]; rfl)] at ha
    rw [HRD.out, ← ha] at hrd
    rw [← ha] at he2
    simp only [Prod.mk.injEq, Option.some.injEq] at hrd
    obtain ⟨⟨rfl, rfl⟩, rfl⟩ := hrd
    have hcall := run39 s hs g hO c.width c.letter (fun c => !isWh c) HG6.out.1 HG6.out.2.1 HVA2.out.1 HVA2.out.2.1 (.inr ⟨h, fun _ => rfl⟩) a HAR.out.1 HAR.out.2
    rw [← he2] at hcall
    have HCALL := Lib.hid hcall
    have hrp := rn_pos (fun c => !isWh c) s (mst s c.width) a
    rw [← he2] at hrp
    have HIE := Lib.hid (And.intro hrp.1 (hrp.2.2 HAR.out.2))
    clear he2 hcall ha e110 h hrp
    go_wp2_with (refine wpList_load_mid rfl 72 _ rfl C 0 rfl (gL g) _ HF4.out.range Tryz.underlying72 rfl (i72L g) ?_)
    refine (HCALL.out W4).mono ?_
    rintro e w5 ⟨rfl, k5⟩
    have hsl := sl_runT s a ie HAR.out.1 HIE.out.1 HIE.out.2 w5
    go_wp2_with fail
    go_meet
    exact ⟨rfl, rfl, rfl, _, rfl, fun _ => rfl, rfl, rfl, k5⟩
  · obtain ⟨f110, f99, f115, f91⟩ := e110 _ h
    have hrd := rdIn_c s c ip h HQ.out.1 HQ.out.2.1
    have ha := HA.out
    rw [HB8.out, if_neg (by rw [h]; decide)] at ha
    rw [HRD.out, ← ha] at hrd
    by_cases ho : a < s.size
    · have g1 : decide (a < (s.size : Int)) = true := by simpa using ho
      have p1 : (a < (s.size : Int)) = True := eq_true ho
      have hixs := bt_at s a
      have wa : IntKind.i64.wrap (a + 1) = a + 1 := i64_small (by have := HAR.out; omega) (by omega)
      have hbr := bt_range s a
      have wb : IntKind.i64.wrap (bt s a) = bt s a := i64_small (by omega) (by omega)
      rw [if_pos ho] at hrd
      simp only [Prod.mk.injEq, Option.some.injEq] at hrd
      obtain ⟨⟨rfl, rfl⟩, rfl⟩ := hrd
      have hT4 := hT.chg HW4.out.1 (fun h => h)
      have HCALL := Lib.hid (of38 (bt s a) hbr.1 (by omega) W4 hT4)
      clear hbr ho ha e110 h hT4
      simp only [g1]
      go_wp2_with fail
      refine (HCALL.out).mono ?_
      rintro e w5 ⟨rfl, k5⟩
      go_wp2_with fail
      go_meet
      exact ⟨rfl, rfl, rfl, _, rfl, fun _ => rfl, rfl, rfl, k5⟩
    · have g1 : decide (a < (s.size : Int)) = false := by simpa using ho
      rw [if_neg ho] at hrd
      simp only [Prod.mk.injEq, Option.some.injEq] at hrd
      obtain ⟨⟨rfl, rfl⟩, rfl⟩ := hrd
      clear ho ha e110 h
      simp only [g1]
      go_wp2_with fail
      go_meet
      exact ⟨rfl, rfl, rfl, _, rfl, fun h => (by cases h), rfl, rfl, Chg.refl _ _⟩
  · obtain ⟨f110, f99, f115, f91⟩ := e110 _ h
    obtain ⟨ie2, he2, hrd⟩ := rdIn_l s c ip h HQ.out.1 HQ.out.2.1
    have ha := HA.out
    rw [HB8.out, if_neg (by rw [h]; decide)] at ha
    rw [HRD.out, ← ha] at hrd
    rw [← ha] at he2
    simp only [Prod.mk.injEq, Option.some.injEq] at hrd
    obtain ⟨⟨rfl, rfl⟩, rfl⟩ := hrd
    have hcall := run39 s hs g hO c.width c.letter (fun b => fts c.set b) HG6.out.1 HG6.out.2.1 HVA2.out.1 HVA2.out.2.1 (.inl ⟨h, HG6.out.2.2 h⟩) a HAR.out.1 HAR.out.2
    rw [← he2] at hcall
    have HCALL := Lib.hid hcall
    have hrp := rn_pos (fun b => fts c.set b) s (mst s c.width) a
    rw [← he2] at hrp
    have HIE := Lib.hid (And.intro hrp.1 (hrp.2.2 HAR.out.2))
    clear he2 hcall ha e110 h hrp
    go_wp2_with (refine wpList_load_mid rfl 72 _ rfl C 0 rfl (gL g) _ HF4.out.range Tryz.underlying72 rfl (i72L g) ?_)
    refine (HCALL.out W4).mono ?_
    rintro e w5 ⟨rfl, k5⟩
    have hsl := sl_runT s a ie HAR.out.1 HIE.out.1 HIE.out.2 w5
    go_wp2_with fail
    go_meet
    exact ⟨rfl, rfl, rfl, _, rfl, fun _ => rfl, rfl, rfl, k5⟩
  · obtain ⟨f110, f99, f115, f91⟩ := e110 _ h
    have hrd := rdIn_n s c ip h
    rw [HRD.out] at hrd
    simp only [Prod.mk.injEq, Option.some.injEq] at hrd
    obtain ⟨⟨rfl, rfl⟩, rfl⟩ := hrd
    have ha := HA.out
    rw [HB8.out, if_neg (by rw [h]; decide)] at ha
    have HA2 := Lib.hid ha
    have hT4 := hT.chg HW4.out.1 (fun h => h)
    have HCALL := Lib.hid (of38 ie HQ.out.1 (by have := HQ.out.2.1; omega) W4 hT4)
    clear ha e110 h hT4
    go_wp2_with fail
    refine (HCALL.out).mono ?_
    rintro e w5 ⟨rfl, k5⟩
    go_wp2_with fail
    go_meet
    exact ⟨rfl, rfl, rfl, _, rfl, fun _ => rfl, by rw [HA2.out], rfl, k5⟩
  · exact absurd h HL37.out
end Go.Proofs.YtemogjpgkcbaiaaGreatDoor.Sp
end
section
namespace Go.Proofs.YtemogjpgkcbaiaaGreatDoor.Sp
open Go.RowKit Go.Proofs.YtemogjpgkcbaiaaGreatDoorW.PrintWords Go.Proofs.YtemogjpgkcbaiaaGreatDoorW.PrintLast Go.Proofs.YtemogjpgkcbaiaaGreatDoorW.PrintMore
set_option linter.unusedVariables false
set_option linter.unusedSimpArgs false
set_option maxRecDepth 100000
attribute [local go_sem] Oper.semAt_some
def J14 (s t : ByteArray) (w : World) (gk : Nat) (v4 v5 v9 v10 : Value) (W : World) : Prop :=
  ∃ (p : Nat) (ip n : Int) (xs : List ByteArray), v5 = .int .i64 n ∧ v9 = .int .i64 ip ∧ v10 = .int .i64 p ∧ gk + p = t.size ∧ SR W w.heap.size (fun k => w.heap.size ≤ k) v4 xs ∧
    0 ≤ ip ∧ ip ≤ s.size ∧ 0 ≤ n ∧ n ≤ p ∧ (xs.length : Int) ≤ n ∧ scR t s p ip n xs = scR t s 0 0 0 [] ∧ ckR t p = none ∧ Chg (fun _ => False) w W
set_option maxHeartbeats 4000000 in
theorem scan14 (s t : ByteArray) (hs : s.size ≤ 100000) (ht : t.size ≤ 100000) (w : World) (hT : T10 w) : Calls Tryz.prog 14 #[.string s, .string t] w (ScPost s t w) := by
  have hcall := check12 t ht w
  cases hck : ckR t 0 with
  | some p0 =>
    have HN := Lib.hid (show scn s t = ([], 0, 2) by unfold scn; rw [hck])
    rw [show ck t true = ((p0 : Int), 2) by simp only [ck, hck]; rfl] at hcall
    have HC := Lib.hid hcall
    clear hck hcall
    go_enter Tryz.func14, Tryz.ntmps14
    go_wp2_with fail
    refine (HC.out).mono ?_
    rintro e w1 ⟨rfl, k1⟩
    go_wp2_with fail
    go_ret3
    exact ⟨k1, .slice none 0 0, by rw [HN.out] <;> rfl, by rw [HN.out]; exact Kd.R_nil _ _ _ _ _⟩
  | none =>
    have HN := Lib.hid (show scn s t = match scR t s 0 0 0 [] with | none => ([], 0, 4) | some (xs, n) => (xs, n, 0) by unfold scn; rw [hck]; rfl)
    rw [show ck t true = (0, 0) by simp only [ck, hck]; rfl] at hcall
    have HC := Lib.hid hcall
    have HCK := Lib.hid hck
    clear hck hcall
    go_enter Tryz.func14, Tryz.ntmps14
    go_wp2_with fail
    refine (HC.out).mono ?_
    rintro e w1 ⟨rfl, k1⟩
    go_wp2_with fail
    go_loopg [4, 5, 9, 10] t.size (fun gk v4 v5 v9 v10 wr => J14 s t w gk v4 v5 v9 v10 wr)
    case atStart => exact ⟨0, 0, 0, [], rfl, rfl, rfl, rfl, Kd.R_nil _ _ _ _ _, Int.le_refl _, by omega, Int.le_refl _, by simp, by simp, rfl, HCK.out, k1⟩
    case round =>
      obtain ⟨p, ip, n, xs, rfl, rfl, rfl, hg, lr, q1, q2, q3, q4, q5, hsc, hp, kR⟩ := hrel
      clear k1
      have HG := Lib.hid hg
      have HP := Lib.hid hp
      have HS := Lib.hid hsc
      by_cases hlt : p < t.size
      · have g1 : decide (p < t.size) = true := by simpa using hlt
        have g1' : decide ((p : Int) < (t.size : Int)) = true := by simp; omega
        have hix := ix_run t p hlt wr
        have hbn : ∀ h : p < t.size, ((t[p]'h).toNat : Int) = bt t p := fun h => by have := bt_at t (p : Int) (by simpa using h); simpa using this
        have HLT := Lib.hid hlt
        have hbr := bt_range t p
        have w1 : IntKind.i64.wrap ((p : Int) + 1) = ((p + 1 : Nat) : Int) := i64_small (by omega) (by omega)
        by_cases hwh : isWh (bt t p) = true
        · as_aux_lemma =>
          have hb : bt t p ≠ 37 := fun e => by rw [e] at hwh; cases hwh
          have HN1 := Lib.hid ((ck_text hlt hb).symm.trans hp)
          have hst := (sc_text hlt hb ip n xs).symm.trans hsc
          rw [if_pos hwh] at hst
          have HS1 := Lib.hid hst
          have HW := Lib.hid (white36 (bt t p) hbr.1 hbr.2 wr)
          rw [hwh] at HW
          have HQ := Lib.hid (And.intro q1 (And.intro q2 (And.intro q3 (And.intro q4 q5))))
          clear hb hg hp hlt hsc hst hwh hbr q1 q2 q3 q4 q5
          go_wp2_with fail
          refine (HW.out).mono ?_
          rintro e w2 ⟨rfl, k2⟩
          go_wp2_with fail
          refine (white37 s hs ip HQ.out.1 w2).mono ?_
          rintro e w3 ⟨rfl, k3⟩
          go_wp2_with fail
          obtain ⟨q1, q2, q3, q4, q5⟩ := HQ.out
          have hwa := rn_in isWh s s.size ip q1 q2
          go_roundg (t.size - (p + 1))
          case measure => have := HG.out; have := HLT.out; omega
          case rel => exact ⟨p + 1, wh s ip, n, xs, rfl, rfl, rfl, by have := HG.out; have := HLT.out; omega, (lr.chg k2 (fun _ _ h => h)).chg k3 (fun _ _ h => h), hwa.1, hwa.2, q3, by omega, q5, HS1.out, HN1.out, (kR.trans k2).trans k3⟩
        · by_cases hb : bt t p = 37
          · have g2 : (bt t p != 37) = false := by simpa using hb
            have hwf : isWh (bt t p) = false := by simpa using hwh
            have HW := Lib.hid (white36 (bt t p) hbr.1 hbr.2 wr)
            rw [hwf] at HW
            have hcv := ck_conv hlt hb
            rw [hp] at hcv
            have hok : (rdr t p (p + 1)).1 = true := by
              by_cases h : (rdr t p (p + 1)).1 = true
              · exact h
              · rw [if_neg h] at hcv; cases hcv
            rw [if_pos hok] at hcv
            have HOK := Lib.hid hok
            have HLW := Lib.hid (rdr_let t p hok)
            have HVA := Lib.hid (rdr_vals t p (p + 1))
            have HEN := Lib.hid (rdr_end hlt hok)
            have HS1 := Lib.hid ((sc_conv hlt hb hok ip n xs).symm.trans hsc)
            have HCV := Lib.hid hcv.symm
            have HQ := Lib.hid (And.intro q1 (And.intro q2 (And.intro q3 (And.intro q4 q5))))
            have hz := zlen
            clear hb hg hp hlt hsc hwh hwf hbr hcv hok q1 q2 q3 q4 q5
            go_wp2_with fail
            refine (HW.out).mono ?_
            rintro e w2 ⟨rfl, k2⟩
            go_wp2_with fail
            refine (reading_calls t ht p (by omega) (by have := HLT.out; omega) w2).mono ?_
            rintro e W2 ⟨g, hO, rfl, k3, hrv⟩
            have kR2 := (kR.trans k2).trans k3
            obtain ⟨W1, hst1, hF1, k4⟩ := new_with W2 g hO
            have kR3 := kR2.trans k4
            have lr3 := ((lr.chg k2 (fun _ _ h => h)).chg k3 (fun _ _ h => h)).chg k4 (fun _ _ h => h)
            obtain ⟨hq6, hq10, hq11, hq268, hq91⟩ := hrv HOK.out
            obtain ⟨c, hc⟩ : ∃ c, c = (rdr t p (p + 1)).2.1 := ⟨_, rfl⟩
            have hen := HEN.out
            obtain ⟨q, hqd⟩ : ∃ q, q = (rdr t p (p + 1)).2.2.toNat := ⟨_, rfl⟩
            have c6 := hF1.c 6 (by decide)
            have c10 := hF1.c 10 (by decide)
            have c11 := hF1.c 11 (by decide)
            have c268 := hF1.c 268 (by decide)
            rw [hq268, ← hen.1, ← hqd] at c268
            rw [hq10, ← hc] at c10
            rw [hq11, ← hc] at c11
            rw [hq6, ← hc] at c6
            rw [← hc] at hq6 hq10 hq11 hq91
            have HF1 := Lib.hid hF1
            have HSTO := Lib.hid hst1
            have hck2 := HCV.out
            rw [← hqd] at hck2 hen
            have HQQ := Lib.hid (And.intro hck2 hen.2)
            have hs1 := HS1.out
            rw [← hqd, ← hc] at hs1
            have HS2 := Lib.hid hs1
            have hlw := HLW.out
            have hva := HVA.out
            rw [← hc] at hlw hva
            have HLW2 := Lib.hid hlw
            have HVA2 := Lib.hid hva
            have HG6 := Lib.hid (And.intro hq6 (And.intro hq11 hq91))
            have hlen := gL_len g
            have HWF := Lib.hid (And.intro kR3 lr3)
            rw [HOK.out]
            clear hrv hq6 hq10 hq11 hq268 hq91 hc hen hqd hck2 hs1 hlw hva k2 k3 k4 kR kR2 kR3 lr lr3 HS1 HLW HVA HEN HCV HW hF1
            go_upto_region 18 with fail
            obtain ⟨B8, hB8⟩ : ∃ B8 : Bool, B8 = (c.letter != 99 && (c.letter != 91 && c.letter != 110)) := ⟨_, rfl⟩
            have HB8 := Lib.hid hB8
            obtain ⟨a, ha⟩ : ∃ a, a = if B8 = true then wh s ip else ip := ⟨_, rfl⟩
            have HA := Lib.hid ha
            have har : 0 ≤ a ∧ a ≤ s.size := by
              have := rn_in isWh s s.size ip HQ.out.1 HQ.out.2.1
              rw [ha]; split
              · exact this
              · exact ⟨HQ.out.1, HQ.out.2.1⟩
            have HAR := Lib.hid har
            clear hB8 ha har
            go_cut [82] (fun v82 wx => v82 = .bool B8 ∧ wx = W1)
            case first => as_aux_lemma =>
              have hb8 := HB8.out
              by_cases l1 : c.letter = 99
              · have e1 : (c.letter != 99) = false := by simpa using l1
                rw [e1, Bool.false_and] at hb8
                subst hb8
                clear l1
                go_wp2_with fail
                go_meet
                exact ⟨rfl, rfl⟩
              · have e1 : (c.letter != 99) = true := by simpa using l1
                rw [e1, Bool.true_and] at hb8
                by_cases l2 : c.letter = 91
                · have e2 : (c.letter != 91) = false := by simpa using l2
                  rw [e2, Bool.false_and] at hb8
                  subst hb8
                  clear l1 l2
                  go_wp2_with fail
                  go_meet
                  exact ⟨rfl, rfl⟩
                · have e2 : (c.letter != 91) = true := by simpa using l2
                  rw [e2, Bool.true_and] at hb8
                  have HB9 := Lib.hid hb8
                  clear l1 l2 hb8
                  go_wp2_with fail
                  go_meet
                  exact ⟨by rw [HB9.out], rfl⟩
            case rest =>
            obtain ⟨rfl, hww⟩ := hcut
            have hww2 := hww.symm
            subst hww2
            clear hww
            go_upto_if 82 with fail
            go_cut [14] (fun v14 wx => v14 = .int .i64 a ∧ Chg (fun _ => False) W1 wx)
            case first => as_aux_lemma =>
              have ha := HA.out
              cases B8
              · rw [if_neg (by simp)] at ha
                have HA2 := Lib.hid ha
                clear ha
                go_wp2_with fail
                go_meet
                exact ⟨by rw [HA2.out], Chg.refl _ _⟩
              · rw [if_pos rfl] at ha
                have HA2 := Lib.hid ha
                clear ha
                go_wp2_with fail
                refine (white37 s hs ip HQ.out.1 _).mono ?_
                rintro e w5 ⟨rfl, k5⟩
                go_wp2_with fail
                go_meet
                exact ⟨by rw [HA2.out], k5⟩
            case rest =>
            obtain ⟨rfl, k6⟩ := hcut
            obtain ⟨W4, hW4⟩ : ∃ W4, W4 = wc := ⟨_, rfl⟩
            subst hW4
            have hF4 := HF1.out.chg k6 (fun h => h)
            have c6' := hF4.c 6 (by decide)
            have c10' := hF4.c 10 (by decide)
            have c11' := hF4.c 11 (by decide)
            have hc6 : W4.cell? ⟨W2.heap.size, 6, none⟩ = some (.int .i64 c.width) := c6'.trans ((HF1.out.c 6 (by decide)).symm.trans c6)
            have hc10 : W4.cell? ⟨W2.heap.size, 10, none⟩ = some (.bool c.quiet) := c10'.trans ((HF1.out.c 10 (by decide)).symm.trans c10)
            have hc11 : W4.cell? ⟨W2.heap.size, 11, none⟩ = some (.int .u8 c.letter) := c11'.trans ((HF1.out.c 11 (by decide)).symm.trans c11)
            have HF4 := Lib.hid hF4
            have HW4 := Lib.hid (And.intro (HWF.out.1.trans k6) (HWF.out.2.chg k6 (fun _ _ h => h)))
            clear c6 c10 c11 c268 c6' c10' c11' hF4 HF1 HWF HSTO k6
            go_upto_region 22 with fail
            have p0 : (0 ≤ a) = True := eq_true HAR.out.1
            by_cases h37 : c.letter = 37
            · have e37 : (c.letter == 37) = true := by simpa using h37
              have hb8 := HB8.out
              rw [h37] at hb8
              have ha := HA.out
              rw [hb8, if_pos (by decide)] at ha
              have hrd := rdIn_p s c ip h37 HQ.out.1 HQ.out.2.1
              rw [← ha] at hrd
              have hs2 := HS2.out
              by_cases ho : a < s.size
              · have g1 : decide (a < (s.size : Int)) = true := by simpa using ho
                have p1 : (a < (s.size : Int)) = True := eq_true ho
                have hixs := bt_at s a
                have wa : IntKind.i64.wrap (a + 1) = a + 1 := i64_small (by have := HAR.out; omega) (by omega)
                have HO := Lib.hid ho
                by_cases hm : bt s a = 37
                · as_aux_lemma =>
                  have e1 : (bt s a != 37) = false := by simpa using hm
                  rw [if_pos ⟨ho, hm⟩] at hrd
                  rw [hrd] at hs2
                  have HS3 := Lib.hid (show scR t s q (a + 1) n xs = scR t s 0 0 0 [] by simpa [h37] using hs2)
                  clear hrd hs2 ha hb8 h37 ho hm
                  simp only [g1]
                  go_wp2_with fail
                  obtain ⟨q1, q2, q3, q4, q5⟩ := HQ.out
                  go_roundg (t.size - q)
                  case measure => have := HG.out; have := HQQ.out.2; omega
                  case rel => exact ⟨q, a + 1, n, xs, rfl, rfl, rfl, by have := HQQ.out.2; omega, HW4.out.2, by have := HAR.out; omega, by have := HO.out; omega, q3, by have := HQQ.out.2; omega, q5, HS3.out, HQQ.out.1, HW4.out.1⟩
                · as_aux_lemma =>
                  have e1 : (bt s a != 37) = true := by simpa using hm
                  rw [if_neg (fun h => hm h.2)] at hrd
                  rw [hrd] at hs2
                  have HS3 := Lib.hid (show scn s t = (xs, n, 0) by have h2 := HN.out; rw [← hs2] at h2; simpa using h2)
                  clear hrd hs2 ha hb8 h37 ho hm
                  simp only [g1]
                  go_wp2_with fail
                  go_ret3
                  exact ⟨HW4.out.1, u4, by rw [HS3.out] <;> rfl, by rw [HS3.out]; exact HW4.out.2⟩
              · as_aux_lemma =>
                have g1 : decide (a < (s.size : Int)) = false := by simpa using ho
                rw [if_neg (fun h => ho h.1)] at hrd
                rw [hrd] at hs2
                have HS3 := Lib.hid (show scn s t = (xs, n, 0) by have h2 := HN.out; rw [← hs2] at h2; simpa using h2)
                clear hrd hs2 ha hb8 h37 ho
                simp only [g1]
                go_wp2_with fail
                go_ret3
                exact ⟨HW4.out.1, u4, by rw [HS3.out] <;> rfl, by rw [HS3.out]; exact HW4.out.2⟩
            · have e37 : (c.letter == 37) = false := by simpa using h37
              have HL37 := Lib.hid h37
              have hs2 := HS2.out
              clear h37
              cases hrd : (rdIn s c ip).1 with
              | none => as_aux_lemma =>
                have HS3 := Lib.hid (show scn s t = ([], 0, 4) by have h2 := HN.out; rw [hrd] at hs2; rw [← hs2] at h2; exact h2)
                clear hs2
                have hnum : c.letter = 100 ∨ c.letter = 120 ∨ c.letter = 111 ∨ c.letter = 98 := by
                  rcases HLW2.out.1 with h | h | h | h | h | h
                  · exact h
                  · obtain ⟨q, _, e⟩ := rdIn_s s c ip h HQ.out.1 HQ.out.2.1; rw [e] at hrd; cases hrd
                  · rw [rdIn_c s c ip h HQ.out.1 HQ.out.2.1] at hrd; split at hrd <;> cases hrd
                  · obtain ⟨q, _, e⟩ := rdIn_l s c ip h HQ.out.1 HQ.out.2.1; rw [e] at hrd; cases hrd
                  · rw [rdIn_n s c ip h] at hrd; cases hrd
                  · exact absurd h HL37.out
                rw [rdIn_d s c ip hnum HLW2.out.2 HQ.out.1 HQ.out.2.1] at hrd
                have ha := HA.out
                rw [HB8.out, if_pos (by rcases hnum with h | h | h | h <;> (rw [h]; rfl))] at ha
                rw [← ha] at hrd
                obtain ⟨N, hN⟩ : ∃ N, N = nEnd s (bsN c.letter) c.width a := ⟨_, rfl⟩
                obtain ⟨B, hB⟩ : ∃ B, B = nBeg s c.width a := ⟨_, rfl⟩
                obtain ⟨tx, htx⟩ : ∃ tx, tx = nTx s (bsN c.letter) c.width a := ⟨_, rfl⟩
                have hcall := number40 s hs g hO c.width c.letter (by omega) HG6.out.1 HG6.out.2.1 HVA2.out.1 HVA2.out.2.1 a HAR.out.1 HAR.out.2 W4
                have htxs := (nTx_size s (bsN c.letter) c.width a HAR.out.1 HAR.out.2).1
                rw [← hN, ← hB, ← htx] at hcall hrd
                rw [← htx] at htxs
                have hrd2 : B < N ∧ (rfRead tx (bsN c.letter).toNat).2 ≠ 0 := by
                  by_cases h1 : B < N
                  · refine ⟨h1, fun h2 => ?_⟩
                    rw [if_pos h1, if_pos h2] at hrd; cases hrd
                  · rw [if_neg h1] at hrd; cases hrd
                rw [decide_eq_true hrd2.1] at hcall
                have hbs := bsN_range c.letter
                have hT4 := hT.chg HW4.out.1 (fun h => h)
                have hread := fun (W5 : World) (hT5 : T10 W5) => read41 tx (by omega) (bsN c.letter).toNat (by omega) (by omega) W5 hT5
                rw [show (((bsN c.letter).toNat : Nat) : Int) = bsN c.letter from by omega] at hread
                have e1 : ((rfRead tx (bsN c.letter).toNat).2 != 0) = true := by simpa using hrd2.2
                obtain ⟨R, hR⟩ : ∃ R, R = rfRead tx (bsN c.letter).toNat := ⟨_, rfl⟩
                rw [← hR] at hread e1
                have HREAD := Lib.hid hread
                have HCALL := Lib.hid hcall
                have HBASE := Lib.hid (fun W => base42 c.letter (by omega) W)
                have HT4 := Lib.hid hT4
                obtain ⟨f110, f99, f115, f91⟩ : (c.letter == 110) = false ∧ (c.letter == 99) = false ∧ (c.letter == 115) = false ∧ (c.letter == 91) = false := by
                  rcases hnum with h | h | h | h <;> (rw [h]; exact ⟨rfl, rfl, rfl, rfl⟩)
                clear hrd hnum hrd2 hcall hread hT4 hbs htxs ha hN hB htx hR
                go_wp2_with (refine wpList_load_mid rfl 72 _ rfl W2.heap.size 0 rfl (gL g) _ HF4.out.range Tryz.underlying72 rfl (i72L g) ?_)
                refine (HCALL.out).mono ?_
                rintro e w5 ⟨rfl, k5⟩
                have hd11 : w5.cell? ⟨W2.heap.size, 11, none⟩ = some (.int .u8 c.letter) := (World.cell?_of_block (k5.block _ HF4.out.lt (fun h => h))).trans hc11
                go_wp2_with fail
                refine (HBASE.out _).mono ?_
                rintro e w6 ⟨rfl, rfl⟩
                go_wp2_with fail
                refine (HREAD.out _ (HT4.out.chg k5 (fun h => h))).mono ?_
                rintro e w7 ⟨rfl, k7⟩
                go_wp2_with fail
                go_ret3
                exact ⟨(HW4.out.1.trans k5).trans k7, .slice none 0 0, by rw [HS3.out] <;> rfl, by rw [HS3.out]; exact Kd.R_nil _ _ _ _ _⟩
              | some r =>
                obtain ⟨x, ok⟩ := r
                obtain ⟨ie, hie⟩ : ∃ ie, ie = (rdIn s c ip).2 := ⟨_, rfl⟩
                rw [hrd, ← hie] at hs2
                have HS3 := Lib.hid (show (if ok = true then scR t s q ie (n + 1) (if c.quiet = true then xs else xs ++ [x]) else some (xs, n)) = scR t s 0 0 0 [] by simpa only [if_neg HL37.out] using hs2)
                have HRD := Lib.hid (show rdIn s c ip = (some (x, ok), ie) by rw [hie, ← hrd])
                clear hrd hie hs2
                go_upto_block 2 with fail
                go_cut [4, 5, 6, 9, 13, 15, 16] (fun v4 v5 v6 v9 v13 v15 v16 wx => v4 = u4 ∧ v5 = .int .i64 n ∧ v9 = .int .i64 ip ∧ ∃ x', v13 = .string x' ∧ (ok = true → x' = x) ∧ v15 = .int .i64 ie ∧ v16 = .bool ok ∧ Chg (fun _ => False) W4 wx)
                case first =>
                  rename_i J0 K0 hJ0 hK0
                  exact blk14_wp s t hs w W4 hT HW4.out.1 c g hO u4 u6 n ip a ie q W2.heap.size x ok B8 _ HB8 HA HAR HLW2 HVA2 HG6 (Lib.hid ⟨HQ.out.1, HQ.out.2.1, HQ.out.2.2.1⟩) HL37 HRD HF4 hc11 u25 u26 u27 u28 u29 u30 u31 u32 u33 u34 u35 u36 u37 u38 u39 u40 u41 u42 u43 u44 u45 u46 u47 u48 u49 u50 u51 u52 u53 u54 u55 u56 u57 u58 u59 u60 u61 u62 u63 u64 u65 u66 u67 u68 u69 u70 u71 u72 u73 u74 u75 u76 u77 u78 u79 u80 u81 u82 u83 u84 u85 u93 u94 u95 u96 u97 u98 u99 u100 u101 u102 u103 u104 u105 u106 u107 u108 u109 u110 u111 u112 u113 u114 u115 u116 u117 u118 u119 u120 u121 u122 u123 u124 u125 u126 u127 u128 u129 u130 u131 u132 u133 u134 u135 u136 u137 u138 u139 u140 u141 u142 u143 u144 u145 u146 u147 u148 u149 u150 u151 u152 u153 u154 u155 u156 u157 u158 u159 u160 u161 u162 u163 u164 u165 u166 u167 J0 K0 hJ0 hK0
                case rest =>
                obtain ⟨h4, rfl, rfl, x', rfl, hxx, rfl, rfl, k7⟩ := hcut
                have h44 := h4.symm
                subst h44
                clear h4
                obtain ⟨W5, hW5⟩ : ∃ W5, W5 = wc := ⟨_, rfl⟩
                subst hW5
                have HXX := Lib.hid hxx
                have HW5 := Lib.hid (And.intro (HW4.out.1.trans k7) (HW4.out.2.chg k7 (fun _ _ h => h)))
                have hd10 : W5.cell? ⟨W2.heap.size, 10, none⟩ = some (.bool c.quiet) := (World.cell?_of_block (k7.block _ HF4.out.lt (fun h => h))).trans hc10
                have hs3 := HS3.out
                have hrp := rdIn_pos s c ip HQ.out.1 HQ.out.2.1
                rw [HRD.out] at hrp
                have HIE := Lib.hid hrp
                clear hxx hc6 hc10 hc11 HF4 k7 hrp
                cases ok
                · as_aux_lemma =>
                  rw [if_neg (by simp)] at hs3
                  have HS4 := Lib.hid (show scn s t = (xs, n, 0) by have h2 := HN.out; rw [← hs3] at h2; exact h2)
                  clear hs3
                  go_wp2_with fail
                  go_ret3
                  exact ⟨HW5.out.1, u4, by rw [HS4.out] <;> rfl, by rw [HS4.out]; exact HW5.out.2⟩
                · rw [if_pos rfl] at hs3
                  have hx := HXX.out rfl
                  subst hx
                  have wn : IntKind.i64.wrap (n + 1) = n + 1 := i64_small (by have := HQ.out.2.2; omega) (by have := HQ.out.2.2; have := HLT.out; omega)
                  cases hQ : c.quiet
                  · as_aux_lemma =>
                    rw [hQ] at hs3 hd10
                    have HS4 := Lib.hid (show scR t s q ie (n + 1) (xs ++ [x']) = scR t s 0 0 0 [] by simpa using hs3)
                    clear hs3 hQ
                    have HXL := Lib.hid (show (xs.length + 1) * 16 ≤ 140737488355328 from by have := HQ.out.2.2; have := HLT.out; omega)
                    have HR5 := Lib.hid (show Kd.R Kd.string 9 W5 w.heap.size (fun k => w.heap.size ≤ k) u4 xs from HW5.out.2)
                    have HB5 := Lib.hid (show Below w.heap.size w W5 from HW5.out.1.below (Nat.le_refl _) (fun _ h => h.elim))
                    go_wp2_with (first | ((with_reducible refine gate_builtin (b := .append) (xs := #[.tmp 164, .tmp 166]) rfl ?_); at_builtin; refine Kd.R_append Kd.string (w0 := w) w.heap.size rfl (.tmp 164) (.tmp 166) 22 9 (.string ⟨#[]⟩) 16 rfl Tryz.underlying22 info9 rfl (by decide) (by omega) u4 xs x' [.string x'] (fun k => w.heap.size ≤ k) (fun _ => False) rfl rfl ?aP (fun _ hk => hk.elim) ?aF ?aO ?aB ?aS ?aL ?_; (case aP => exact rfl); (case aB => exact HB5.out); (case aF => exact (fun k hk => Nat.le_trans HB5.out.size hk)); (case aO => exact HR5.out); (case aS => exact HB5.out.size); (case aL => exact HXL.out); intro v102 w9 hsr hb9 hg9 hat9))
                    obtain ⟨q1, q2, q3, q4, q5⟩ := HQ.out
                    have hch : Chg (fun _ => False) w w9 := Chg.of_below hb9
                    go_roundg (t.size - q)
                    case measure => have := HG.out; have := HQQ.out.2; omega
                    case rel => exact ⟨q, ie, n + 1, xs ++ [x'], rfl, rfl, rfl, by have := HQQ.out.2; omega, hsr, HIE.out.1, HIE.out.2, by omega, by have := HQQ.out.2; omega, by simp; omega, HS4.out, HQQ.out.1, hch⟩
                  · as_aux_lemma =>
                    rw [hQ] at hs3 hd10
                    have HS4 := Lib.hid (show scR t s q ie (n + 1) xs = scR t s 0 0 0 [] by simpa using hs3)
                    clear hs3 hQ
                    go_wp2_with fail
                    obtain ⟨q1, q2, q3, q4, q5⟩ := HQ.out
                    go_roundg (t.size - q)
                    case measure => have := HG.out; have := HQQ.out.2; omega
                    case rel => exact ⟨q, ie, n + 1, xs, rfl, rfl, rfl, by have := HQQ.out.2; omega, HW5.out.2, HIE.out.1, HIE.out.2, by omega, by have := HQQ.out.2; omega, by omega, HS4.out, HQQ.out.1, HW5.out.1⟩
          · have HN1 := Lib.hid ((ck_text hlt hb).symm.trans hp)
            have hst := (sc_text hlt hb ip n xs).symm.trans hsc
            rw [if_neg hwh] at hst
            have hwf : isWh (bt t p) = false := by simpa using hwh
            have HW := Lib.hid (white36 (bt t p) hbr.1 hbr.2 wr)
            rw [hwf] at HW
            have g2 : (bt t p != 37) = true := by simpa using hb
            have HQ := Lib.hid (And.intro q1 (And.intro q2 (And.intro q3 (And.intro q4 q5))))
            have p0 : (0 ≤ ip) = True := eq_true q1
            have hps : ((p : Nat) : Int) < (t.size : Int) := by omega
            have hixt := bt_at t p
            have w2 : IntKind.i64.wrap (ip + 1) = ip + 1 := i64_small (by omega) (by omega)
            by_cases hm : ip < s.size
            · have p1 : (ip < (s.size : Int)) = True := eq_true hm
              have g3 : decide ((s.size : Int) ≤ ip) = false := by simp; omega
              have hixs := bt_at s ip
              by_cases he : bt s ip = bt t p
              · as_aux_lemma =>
                have g4 : (bt s ip != bt t p) = false := by simpa using he
                rw [if_pos ⟨hm, he⟩] at hst
                have HS1 := Lib.hid hst
                have HM := Lib.hid hm
                clear hb hg hp hlt hsc hst hwh hwf hbr q1 q2 q3 q4 q5 he hm hps
                go_wp2_with fail
                refine (HW.out).mono ?_
                rintro e w2 ⟨rfl, k2⟩
                go_wp2_with fail
                go_quiet (fail)
                go_wp2_with fail
                obtain ⟨q1, q2, q3, q4, q5⟩ := HQ.out
                go_roundg (t.size - (p + 1))
                case measure => have := HG.out; have := HLT.out; omega
                case rel => exact ⟨p + 1, ip + 1, n, xs, rfl, rfl, rfl, by have := HG.out; have := HLT.out; omega, (lr.chg (k2.drewN nq) (fun _ _ h => h)), by omega, by have := HM.out; omega, q3, by omega, q5, HS1.out, HN1.out, ((kR.trans k2).drewN nq)⟩
              · as_aux_lemma =>
                have g4 : (bt s ip != bt t p) = true := by simpa using he
                rw [if_neg (fun h => he h.2)] at hst
                have HS1 := Lib.hid (show scn s t = (xs, n, 0) by have := HN.out; rw [← hst] at this; exact this)
                clear hb hg hp hlt hsc hst hwh hwf hbr q1 q2 q3 q4 q5 he hm hps
                go_wp2_with fail
                refine (HW.out).mono ?_
                rintro e w2 ⟨rfl, k2⟩
                go_wp2_with fail
                go_quiet (fail)
                go_wp2_with fail
                go_ret3
                exact ⟨(kR.trans k2).drewN nq, u4, by rw [HS1.out] <;> rfl, by rw [HS1.out]; exact lr.chg (k2.drewN nq) (fun _ _ h => h)⟩
            · as_aux_lemma =>
              have g3 : decide ((s.size : Int) ≤ ip) = true := by simp; omega
              rw [if_neg (fun h => hm h.1)] at hst
              have HS1 := Lib.hid (show scn s t = (xs, n, 0) by have := HN.out; rw [← hst] at this; exact this)
              clear hb hg hp hlt hsc hst hwh hwf hbr q1 q2 q3 q4 q5 hm hps
              go_wp2_with fail
              refine (HW.out).mono ?_
              rintro e w2 ⟨rfl, k2⟩
              go_wp2_with fail
              go_quiet (fail)
              go_wp2_with fail
              go_ret3
              exact ⟨(kR.trans k2).drewN nq, u4, by rw [HS1.out] <;> rfl, by rw [HS1.out]; exact lr.chg (k2.drewN nq) (fun _ _ h => h)⟩
      · as_aux_lemma =>
        have g1 : decide (p < t.size) = false := by simpa using hlt
        have g1' : decide ((p : Int) < (t.size : Int)) = false := by simp; omega
        have hps : p = t.size := by omega
        have hn : scn s t = (xs, n, 0) := by
          have := HN.out
          rw [← hsc, hps, scR_end] at this
          exact this
        have HR2 := Lib.hid hn
        clear hn hps hlt hg hp hsc
        go_wp2_with fail
        go_ret3
        exact ⟨kR, u4, by rw [HR2.out] <;> rfl, by rw [HR2.out]; exact lr⟩
end Go.Proofs.YtemogjpgkcbaiaaGreatDoor.Sp
end
section
namespace Go.Proofs.YtemogjpgkcbaiaaGreatDoor.Sp
open Go.RowKit Go.Proofs.YtemogjpgkcbaiaaGreatDoorW.PrintWords Go.Proofs.YtemogjpgkcbaiaaGreatDoorW.PrintLast Go.Proofs.YtemogjpgkcbaiaaGreatDoorW.PrintMore
set_option linter.unusedVariables false
set_option linter.unusedSimpArgs false
set_option maxRecDepth 100000
def LetW (c : Int) : Prop := c = 100 ∨ c = 120 ∨ c = 88 ∨ c = 111 ∨ c = 98 ∨ c = 99 ∨ c = 115 ∨ c = 113
theorem nx_range (s : ByteArray) (p : Int) : 0 ≤ nx s p ∧ nx s p ≤ 255 := by
  unfold nx
  split
  · exact bt_range s p
  · exact ⟨by decide, by decide⟩
theorem isLetter_set {c : Int} (h0 : 0 ≤ c) (h1 : c ≤ 255) (h : isLetter c = true) : LetW c := by
  have hall : ∀ n : Fin 256, isLetter ((n.val : Nat) : Int) = true → LetW ((n.val : Nat) : Int) := by
    unfold LetW
    decide +kernel
  have := hall ⟨c.toNat, by omega⟩
  simp only [Int.toNat_of_nonneg h0] at this
  exact this h
structure FcOk (s : ByteArray) (c : Cv) : Prop where
  w0 : -1 ≤ c.width
  w1 : c.width ≤ 999
  p0 : -1 ≤ c.prec
  p1 : c.prec ≤ 999
  fl : c.flags.size ≤ s.size
  tx : c.text.size ≤ s.size
theorem fin_ok {s t : ByteArray} {c : Cv} (h : FcOk t c) (p : Int) : FcOk t (fin s c p).2.1 ∧ ((fin s c p).1 = true → LetW (fin s c p).2.1.letter) := by
  refine ⟨⟨h.w0, h.w1, h.p0, h.p1, h.fl, h.tx⟩, fun hh => ?_⟩
  simp only [fin, Bool.and_eq_true] at hh
  have := nx_range s p
  exact isLetter_set this.1 this.2 hh.2
theorem pwB_ok {s t : ByteArray} {c : Cv} (h : FcOk t c) (p : Int) : FcOk t (pwB s c p).2.1 ∧ ((pwB s c p).1 = true → LetW (pwB s c p).2.1.letter) := by
  unfold pwB
  split
  · split
    · exact fin_ok (c := { c with precise := true }) ⟨h.w0, h.w1, h.p0, h.p1, h.fl, h.tx⟩ _
    · split
      · exact ⟨h, fun e => absurd e (by simp)⟩
      · have := nm_le3 s (p + 1)
        exact fin_ok (c := { c with precise := false, prec := (nm s 3 (p + 1)).1 }) ⟨h.w0, h.w1, this.1, this.2, h.fl, h.tx⟩ _
  · exact fin_ok h _
theorem pwA_ok {s t : ByteArray} {c : Cv} (h : FcOk t c) (p : Int) : FcOk t (pwA s c p).2.1 ∧ ((pwA s c p).1 = true → LetW (pwA s c p).2.1.letter) := by
  unfold pwA
  split
  · exact pwB_ok (c := { c with wide := true }) ⟨h.w0, h.w1, h.p0, h.p1, h.fl, h.tx⟩ _
  · have := wd_val s p
    exact pwB_ok (c := { c with wide := false, width := (wd s p).1 }) ⟨this.1, this.2, h.p0, h.p1, h.fl, h.tx⟩ _
theorem pwr_ok (s : ByteArray) (a p : Int) : FcOk s (pwr s a p).2.1 ∧ ((pwr s a p).1 = true → (pwr s a p).2.1.letter = 37 ∨ LetW (pwr s a p).2.1.letter) := by
  have h0 : ByteArray.empty.size = 0 := rfl
  unfold pwr
  split
  · exact ⟨⟨by simp, by simp, by simp, by simp, by show (0 : Nat) ≤ _; omega, by show (0 : Nat) ≤ _; omega⟩, fun _ => .inl rfl⟩
  · have := pwA_ok (s := s) (t := s) (c := { at_ := a, place := (plc s p).1, flags := cut s (plc s p).2 (flE s (plc s p).2), width := -1, prec := -1 }) ⟨by simp, by simp, by simp, by simp, cut_size _ _ _, by show (0 : Nat) ≤ _; omega⟩ (flE s (plc s p).2)
    exact ⟨this.1, fun h => .inr (this.2 h)⟩
theorem pstep_fmt {s : ByteArray} {p q : Nat} {c : Cv} (h : p < s.size) (hst : pstep s false p = some (c, q)) : FcOk s c ∧ (c.letter = 0 ∨ c.letter = 37 ∨ LetW c.letter) := by
  unfold pstep at hst
  by_cases ht : txI s p = 0
  · rw [if_pos ht] at hst
    by_cases hok : (pcv s false p).1 = true
    · rw [if_pos hok] at hst
      simp only [Option.some.injEq, Prod.mk.injEq] at hst
      obtain ⟨rfl, rfl⟩ := hst
      have := pwr_ok s p (p + 1)
      exact ⟨this.1, .inr (this.2 hok)⟩
    · rw [if_neg hok] at hst; cases hst
  · rw [if_neg ht] at hst
    simp only [Option.some.injEq, Prod.mk.injEq] at hst
    obtain ⟨rfl, rfl⟩ := hst
    exact ⟨⟨by simp, by simp, by simp, by simp, by show (0 : Nat) ≤ _; omega, cut_size _ _ _⟩, .inl rfl⟩
def wrt (QT : ByteArray → ByteArray) (c : Cv) (a : ByteArray) : ByteArray × Int := if wrF c.letter = 45 then bydRes c a else if wrF c.letter = 44 then (txdRes QT c a, 0) else nmbRes c a
def fmC (QT : ByteArray → ByteArray) (xs : List ByteArray) (c : Cv) (n : Int) : ByteArray × Int × Int :=
  if (flR xs c n).2.2 ≠ 0 then (⟨#[]⟩, (flR xs c n).2.1, (flR xs c n).2.2)
  else if (tkR xs (tkI (flR xs c n).2.1 c.place)).2 ≠ 0 then (⟨#[]⟩, tkN (flR xs c n).2.1 c.place, (tkR xs (tkI (flR xs c n).2.1 c.place)).2)
  else ((wrt QT (flR xs c n).1 (tkR xs (tkI (flR xs c n).2.1 c.place)).1).1, tkN (flR xs c n).2.1 c.place, (wrt QT (flR xs c n).1 (tkR xs (tkI (flR xs c n).2.1 c.place)).1).2)
def fmR (QT : ByteArray → ByteArray) (s : ByteArray) (xs : List ByteArray) (p : Nat) (b : ByteArray) (pl ot : Bool) (n : Int) : ByteArray × Int × Int :=
  if h : p < s.size then
    match pstep s false p with
    | none => (⟨#[]⟩, p, 2)
    | some (c, q) =>
      if hq : p < q then
        if c.letter = 0 then
          if 65536 < (b ++ c.text).size then (⟨#[]⟩, 0, 4) else fmR QT s xs q (b ++ c.text) pl ot n
        else if c.letter = 37 then
          if 65536 < (b ++ ⟨#[37]⟩ : ByteArray).size then (⟨#[]⟩, p, 4) else fmR QT s xs q (b ++ ⟨#[37]⟩) pl ot n
        else if (pl || decide (c.place > 0)) && ((ot || c.place == 0) || c.wide || c.precise) then (⟨#[]⟩, p, 2)
        else if (fmC QT xs c n).2.2 ≠ 0 then (⟨#[]⟩, p, (fmC QT xs c n).2.2)
        else if 65536 < (b ++ (fmC QT xs c n).1).size then (⟨#[]⟩, p, 4)
        else fmR QT s xs q (b ++ (fmC QT xs c n).1) (pl || decide (c.place > 0)) (ot || c.place == 0) (fmC QT xs c n).2.1
      else (b, 0, 0)
  else (b, 0, 0)
termination_by s.size - p
def fmt (QT : ByteArray → ByteArray) (s : ByteArray) (xs : List ByteArray) : ByteArray × Int × Int := fmR QT s xs 0 ⟨#[]⟩ false false 0
theorem spr_size (cv : Cv) (hw : cv.width ≤ 999) (x : ByteArray) (f : Int) (z : Bool) : (spr cv x f z).size ≤ 2 * x.size + 999 := by
  unfold spr
  split
  · omega
  · split
    · rw [ByteArray.size_append, rep_size]; omega
    · split
      · rw [ByteArray.size_append, ByteArray.size_append, rep_size, ByteArray.size_extract, ByteArray.size_extract]; omega
      · rw [ByteArray.size_append, rep_size]; omega
theorem bydRes_size (cv : Cv) (hw : cv.width ≤ 999) (x : ByteArray) : (bydRes cv x).1.size ≤ 1001 := by
  unfold bydRes
  split
  · show (0 : Nat) ≤ _; omega
  · split
    · show (0 : Nat) ≤ _; omega
    · have h := spr_size cv hw (byB1 (inRes x).1) 0 false
      have h1 : (byB1 (inRes x).1).size = 1 := rfl
      show (spr cv (byB1 (inRes x).1) 0 false).size ≤ _
      omega
theorem nmbRes_size (cv : Cv) (hw : cv.width ≤ 999) (hp : cv.prec ≤ 999) (x : ByteArray) : (nmbRes cv x).1.size ≤ 20000 := by
  have hbr := bsN_range cv.letter
  have hsize := baRes_size x (bsN cv.letter).toNat (by omega)
  unfold nmbRes
  split
  · show (nmT cv _).size ≤ _
    obtain ⟨d, hd⟩ : ∃ d, d = (baRes x (bsN cv.letter).toNat).1 := ⟨_, rfl⟩
    rw [← hd] at hsize ⊢
    have h1 : (nmD cv d).size ≤ 2011 := by
      have h2 := trimPrefix_len d.data.toList [45]
      have h3 : d.data.toList.length = d.size := Array.length_toList
      unfold nmD
      split
      · rw [ba_size, toUpperA_len]; omega
      · rw [ba_size]; omega
    have h2 : (nmS cv d).size ≤ 1 := by unfold nmS; split; decide; split; decide; split <;> decide
    have h3 : (bsP cv.letter).size ≤ 2 := by unfold bsP; split; decide; split; decide; split; decide; split <;> decide
    have h4 : (nmS2 cv d).size ≤ 3 := by
      unfold nmS2; split
      · rw [ByteArray.size_append]; omega
      · omega
    have h5 : (nmZ cv d).size ≤ 4000 := by unfold nmZ; rw [ByteArray.size_append, rep_size]; omega
    have h6 := spr_size cv hw (nmS2 cv d ++ nmZ cv d) (nmS2 cv d).size (hasF cv.flags 48 && decide (cv.prec < 0))
    rw [ByteArray.size_append] at h6
    unfold nmT
    omega
  · split
    · show (0 : Nat) ≤ _; omega
    · show (0 : Nat) ≤ _; omega
theorem txdRes_size (QT : ByteArray → ByteArray) (hQ : ∀ x : ByteArray, x.size ≤ 100000 → (QT x).size ≤ 300000) (cv : Cv) (hw : cv.width ≤ 999) (x : ByteArray) (hx : x.size ≤ 100000) : (txdRes QT cv x).size ≤ 900000 := by
  obtain ⟨y, hy⟩ : ∃ y, y = (if cv.letter = 113 then QT x else x) := ⟨_, rfl⟩
  have hys : y.size ≤ 300000 := by
    rw [hy]; split
    · exact hQ x hx
    · omega
  unfold txdRes
  rw [← hy]
  have h1 : (ctP cv.prec y).size ≤ 300000 := by
    unfold ctP; split
    · rw [ByteArray.size_extract]; omega
    · exact hys
  have h2 := spr_size cv hw (ctP cv.prec y) 0 false
  omega
theorem setW_ok {s : ByteArray} {c : Cv} (h : FcOk s c) (n : Int) (h0 : -999 ≤ n) (h1 : n ≤ 999) : -1 ≤ (setW c n).width ∧ (setW c n).width ≤ 999 ∧ (setW c n).prec = c.prec ∧ (setW c n).place = c.place ∧ (setW c n).at_ = c.at_ ∧ (setW c n).letter = c.letter ∧ (setW c n).precise = c.precise ∧ (setW c n).flags.size ≤ c.flags.size + 1 := by
  unfold setW
  split
  · refine ⟨by show -1 ≤ -n; omega, by show -n ≤ 999; omega, rfl, rfl, rfl, rfl, rfl, ?_⟩
    show (c.flags ++ ⟨#[45]⟩ : ByteArray).size ≤ _
    rw [ByteArray.size_append]; exact Nat.le_refl _
  · exact ⟨by show -1 ≤ n; omega, h1, rfl, rfl, rfl, rfl, rfl, by show c.flags.size ≤ _; omega⟩
structure FlOk (c : Cv) (n : Int) (r : Cv × Int × Int) : Prop where
  w0 : -1 ≤ r.1.width
  w1 : r.1.width ≤ 999
  p0 : -1 ≤ r.1.prec
  p1 : r.1.prec ≤ 999
  pl : r.1.place = c.place
  at_ : r.1.at_ = c.at_
  le : r.1.letter = c.letter
  n0 : n ≤ r.2.1
theorem fl1_cases (set : Cv → Int → Cv) (ask : Bool) (xs : List ByteArray) (c : Cv) (n : Int) : (∃ m e, fl1 set ask xs c n = (c, m, e) ∧ n ≤ m ∧ m ≤ n + 1) ∨ ∃ v, -999 ≤ v ∧ v ≤ 999 ∧ fl1 set ask xs c n = (set c v, n + 1, 0) := by
  unfold fl1
  split
  · exact .inl ⟨_, _, rfl, by omega, by omega⟩
  · split
    · exact .inl ⟨_, _, rfl, by omega, by omega⟩
    · split
      · exact .inl ⟨_, _, rfl, by omega, by omega⟩
      · have := bndRes_range (tkR xs (n + 1)).1
        exact .inr ⟨_, this.1, this.2, rfl⟩
theorem flR_ok {s : ByteArray} {c : Cv} (h : FcOk s c) (xs : List ByteArray) (n : Int) : FlOk c n (flR xs c n) ∧ (flR xs c n).2.1 ≤ n + 2 := by
  have key : ∀ (c1 : Cv) (m : Int), -1 ≤ c1.width → c1.width ≤ 999 → c1.prec = c.prec → c1.place = c.place → c1.at_ = c.at_ → c1.letter = c.letter → n ≤ m → m ≤ n + 1 → ∀ ask, FlOk c n (fl1 setP ask xs c1 m) ∧ (fl1 setP ask xs c1 m).2.1 ≤ n + 2 := by
    intro c1 m h0 h1 h2 h3 h4 h5 h6 h7 ask
    rcases fl1_cases setP ask xs c1 m with ⟨m', e, he, hm, hm'⟩ | ⟨v, hv, hv', he⟩
    · rw [he]
      exact ⟨⟨h0, h1, by rw [h2]; exact h.p0, by rw [h2]; exact h.p1, h3, h4, h5, by show n ≤ m'; omega⟩, by show m' ≤ _; omega⟩
    · rw [he]
      exact ⟨⟨h0, h1, by show -1 ≤ max v (-1); omega, by show max v (-1) ≤ 999; omega, h3, h4, h5, by show n ≤ m + 1; omega⟩, by show m + 1 ≤ _; omega⟩
  unfold flR
  rcases fl1_cases setW c.wide xs c n with ⟨m, e, he, hm, hm'⟩ | ⟨v, hv, hv', he⟩
  · rw [he]
    simp only
    split
    · exact ⟨⟨h.w0, h.w1, h.p0, h.p1, rfl, rfl, rfl, hm⟩, by show m ≤ _; omega⟩
    · exact key c m h.w0 h.w1 rfl rfl rfl rfl hm hm' _
  · rw [he]
    simp only [ne_eq, not_true_eq_false, if_false]
    have hs := setW_ok h v hv hv'
    exact key _ _ hs.1 hs.2.1 hs.2.2.1 hs.2.2.2.1 hs.2.2.2.2.1 hs.2.2.2.2.2.1 (by omega) (by omega) _
end Go.Proofs.YtemogjpgkcbaiaaGreatDoor.Sp
end
