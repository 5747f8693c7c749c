/- Part 5 of 11 of the proof of SpellScans: contracts of functions that its law calls; no condition. -/
import Derived.Test.YtemogjpgkcbaiaaGreatDoorA4
import Derived.Deep.DeepCutAuto
import Derived.Deep.RegionLaw
import Derived.Laws.BitsAllLaws
import Derived.Laws.BitsLemmas
import Derived.Lib.Bytes
import Derived.Lib.Hide
import Derived.Outline
import Derived.StillTailTactics
import Derived.WalkLawsBesides
import Derived.WalkSpells
section
namespace Go.Proofs.YtemogjpgkcbaiaaGreatDoor.Sp
open Go.RowKit Go.Proofs.YtemogjpgkcbaiaaGreatDoorW.PrintWords Go.Proofs.YtemogjpgkcbaiaaGreatDoorW.PrintLast Go.Proofs.YtemogjpgkcbaiaaGreatDoorW.PrintMore
open Go.Proofs.YtemogjpgkcbaiaaGreatDoor.Pby Go.Proofs.YtemogjpgkcbaiaaGreatDoor.Pbits
open Go.RowKit Go.Proofs.YtemogjpgkcbaiaaGreatDoorW.PrintWords Go.Proofs.YtemogjpgkcbaiaaGreatDoorW.PrintLast Go.Proofs.YtemogjpgkcbaiaaGreatDoorW.PrintMore
attribute [local go_sem] max2_int min2_int max_two min_two max_three min_three max_four min_four
set_option linter.unusedVariables false
set_option linter.unusedSimpArgs false
theorem info5 : (Tryz.prog.info? 5).map (fun i => (i.zero, i.size, i.bytes)) = some (some (.int .u8 0), 1, 1) := by kernel_rfl
mutual
def big_based.l0 : Nat → List Int → Int → List Int → Option (ByteArray)
  | 0, _, _, _ => none
  | k + 1, x0, x1, x5 => if (x0.length : Int) > 0 then ((big_nat_by.f k x0 ((x1) % 4294967296)).bind fun bt116 => (if 0 ≤ bt116.2 then (if bt116.2 < 36 then (if x5.length < 140737488355328 then (big_based.l0 k bt116.1 x1 (x5 ++ [bt (⟨#[48, 49, 50, 51, 52, 53, 54, 55, 56, 57, 97, 98, 99, 100, 101, 102, 103, 104, 105, 106, 107, 108, 109, 110, 111, 112, 113, 114, 115, 116, 117, 118, 119, 120, 121, 122]⟩ : ByteArray) bt116.2])) else (none)) else (none)) else (none))) else (big_based.l1 k x5 (wrap64 ((x5.length : Int) / 2)) 0)
def big_based.l1 : Nat → List Int → Int → Int → Option (ByteArray)
  | 0, _, _, _ => none
  | k + 1, x5, x27, x28 => if x28 < x27 then (if 0 ≤ (wrap64 ((wrap64 ((x5.length : Int) - 1)) - x28)) then (if (wrap64 ((wrap64 ((x5.length : Int) - 1)) - x28)) < (x5.length : Int) then (if 0 ≤ x28 then (if x28 < (x5.length : Int) then (big_based.l1 k ((x5.set (x28 : Int).toNat (rd x5 (wrap64 ((wrap64 ((x5.length : Int) - 1)) - x28)))).set ((wrap64 ((wrap64 ((x5.length : Int) - 1)) - x28)) : Int).toNat (rd x5 x28)) x27 (wrap64 (x28 + 1))) else (none)) else (none)) else (none)) else (none)) else (some (strOfNums x5))
end
def big_based.f (k : Nat) (l0 : List Int) (a1 : Int) : Option (ByteArray) := big_based.l0 k l0 a1 ([] : List Int)
def big_based.T9 : Bool × List (List Nat × List Nat) := (true, [([], []), ([], []), ([], []), ([], []), ([3], [3]), ([4], [4]), ([], []), ([5, 6], [5, 6]), ([], []), ([], []), ([9], [9]), ([10], [10]), ([], []), ([11, 12], [11, 12]), ([8, 13], [8, 13]), ([14], [14]), ([], []), ([], []), ([16, 17], [16, 17]), ([18], [18]), ([0, 1, 0, 1, 8, 9, 10, 11, 12, 13, 14, 15, 19], [0, 1]), ([20, 15, 0, 1, 8, 9, 10, 11, 12, 13, 14, 15, 19], [15, 20]), ([2, 7, 0, 1, 2, 3, 4, 5, 6, 7, 8, 9, 10, 11, 12, 13, 14, 15, 16, 17, 18, 19, 20, 21], [2, 7]), ([22, 19, 21, 0, 1, 2, 3, 4, 5, 6, 7, 8, 9, 10, 11, 12, 13, 14, 15, 16, 17, 18, 19, 20, 21], [19, 22])])
def big_based.B9 : List Nat := [0, 0, 0, 0, 8, 24, 0, 120, 0, 0, 512, 1536, 0, 7680, 16128, 32512, 0, 0, 196608, 458752, 1048323, 2096899, 4194303, 8388607]
theorem big_based.tab9 : rtab .any (opsOf Tryz.f142 9) = big_based.T9 := by kernel_rfl
theorem big_based.bits9 : waitsOk big_based.T9.2 big_based.B9 = true := by kernel_rfl
set_option maxHeartbeats 8000000 in
set_option maxRecDepth 100000 in
theorem big_based.calls (k : Nat) (P0_ : Nat → Prop) (A0 : Option Addr) (c0 : Nat) (l0 : List Int) (a1 : Int) (r : ByteArray) (w : World) (hs0 : Kd.V (Kd.int .u32) 149 w w.heap.size (fun k_ => P0_ k_) (.slice A0 l0.length c0) l0) (h : big_based.f k l0 a1 = some r) :
    Calls Tryz.prog 142 #[.slice A0 l0.length c0, .int .i64 a1] w fun e w' => e = .returned (.string r) ∧ Below w.heap.size w w' := by
  have HO0 := Aside0.mk (show Kd.V (Kd.int .u32) 149 w w.heap.size (fun k_ => (P0_ k_ ∨ w.heap.size ≤ k_)) (.slice A0 l0.length c0) l0 from Kd.V_mono hs0 (fun k_ hk => .inl hk))
  have HB := Aside0.mk (Below.refl w.heap.size w)
  have H : (big_based.l0 k l0 a1 ([] : List Int)) = some r := h
  clear h
  have H' := Aside0.mk H
  clear H
  go_enter Tryz.func142, Tryz.ntmps142
  go_wp2
  go_loopg [0, 5] k (fun kq v0 v5 w' => ∃ (x0_1 : List Int) (x5_1 : List Int), Aside0 (big_based.l0 kq x0_1 a1 x5_1 = some r) ∧ Aside0 (kq ≤ k) ∧ Aside0 (Kd.V (Kd.int .u32) 149 w' w.heap.size (fun k_ => (P0_ k_ ∨ w.heap.size ≤ k_) ∧ some k_ ≠ (v5 : Value).ownBlock) v0 x0_1) ∧ Aside0 (Kd.R (Kd.int .u8) 5 w' w.heap.size (fun k_ => (w.heap.size ≤ k_)) v5 x5_1) ∧ Aside0 (Below w.heap.size w w'))
  case atStart => exact ⟨(l0), (([] : List Int)), H', ⟨Nat.le_refl _⟩, ⟨by (with_reducible repeat (first | apply Kd.V_alloc | apply Kd.V_drewN | apply Kd.V_drew)); exact Kd.V_mono HO0.out (fun _ hk => ⟨hk, (by simp [Value.ownBlock])⟩)⟩, ⟨by first | exact Kd.R_nil _ _ _ _ _ | exact Kd.N_nil _ _ _ _ _ | exact Kd.V_nil _ _ _ _ _ | exact Kd.Q_nil _ _ _ _ _ | exact Kd.S_nil _ _ _ _ _⟩, ⟨by repeat (first | (with_reducible first | exact HB.out | apply below_alloc | apply pw_below_drewN | apply below_drew1) | exact HB.out)⟩⟩
  case round =>
    clear H'
    try clear c1
    try clear p2
    obtain ⟨x0_1, x5_1, HA, HK1, HO_0, HO_5, HB⟩ := hrel
    cases gk with
    | zero => exact absurd HA.out (by simp [big_based.l0])
    | succ k1 =>
      have H := HA.out
      clear HA
      simp only [big_based.l0] at H
      by_cases c3 : (x0_1.length : Int) > 0
      · rw [if_pos c3] at H
        have c3b0 : decide (0 < (x0_1.length : Int)) = true := decide_eq_true c3
        have c3b1 : decide (0 < x0_1.length) = true := decide_eq_true (by omega)
        clear c3
        replace H := Option.bind_eq_some_iff.mp H
        obtain ⟨⟨t116, t117⟩, A40, H⟩ := H
        replace H : (if 0 ≤ t117 then (if t117 < 36 then (if x5_1.length < 140737488355328 then (big_based.l0 k1 t116 a1 (x5_1 ++ [bt (⟨#[48, 49, 50, 51, 52, 53, 54, 55, 56, 57, 97, 98, 99, 100, 101, 102, 103, 104, 105, 106, 107, 108, 109, 110, 111, 112, 113, 114, 115, 116, 117, 118, 119, 120, 121, 122]⟩ : ByteArray) t117])) else (none)) else (none)) else (none)) = some r := H
        have A4 := Aside0.mk A40
        clear A40
        by_cases c5 : 0 ≤ t117
        · rw [if_pos c5] at H
          have c5b0 : decide (0 ≤ t117) = true := decide_eq_true c5
          clear c5
          by_cases c6 : t117 < 36
          · rw [if_pos c6] at H
            have c6b0 : decide (t117 < 36) = true := decide_eq_true c6
            clear c6
            by_cases c8 : x5_1.length < 140737488355328
            · rw [if_pos c8] at H
              have LMc8 := Aside0.mk c8
              clear c8
              obtain ⟨y120, hy120⟩ : ∃ y_ : List Int, y_ = (x5_1 ++ [bt (⟨#[48, 49, 50, 51, 52, 53, 54, 55, 56, 57, 97, 98, 99, 100, 101, 102, 103, 104, 105, 106, 107, 108, 109, 110, 111, 112, 113, 114, 115, 116, 117, 118, 119, 120, 121, 122]⟩ : ByteArray) t117]) := ⟨_, rfl⟩
              replace H : (big_based.l0 k1 t116 a1 y120) = some r := by first | (rw [hy120]; with_reducible exact H) | (have H2_ := (Option.bind_some _ _).symm.trans H; rw [hy120]; with_reducible exact H2_) | (have H2_ := (Option.bind_some _ _).symm.trans H; with_reducible exact H2_) | with_reducible exact H | (rw [hy120]; exact H) | exact H
              have Ny120 := Aside0.mk hy120
              clear hy120
              have H' := Aside0.mk H
              clear H
              obtain ⟨Ao9, co9, eo9⟩ := Kd.V_slice HO_0.out
              subst eo9
              go_wp2_with (first | ((with_reducible refine gate_callee (f := 173) rfl ?_); refine goesL_ (some 16) rfl rfl Tryz.func173 (by kernel_rfl) rfl #[.slice Ao9 x0_1.length co9, .int .u32 ((a1) % 4294967296)] rfl (by (try simp only [List.map_toArray, List.map_cons, List.map_nil]); first | done | rfl | (simp only [List.length_drop, List.length_take]; rfl)) ?_; (with_reducible refine (big_nat_by.calls k1 _ _ x0_1 ((a1) % 4294967296) t116 t117 _ ?side1 ?side2 A4.out).mono ?_); (case side1 => repeat (first | exact (Kd.V_reads' HO_0.out).2.2 | (with_reducible refine Kd.C_alloc ?_ _) | (with_reducible refine Kd.C_drewN ?_ _) | (with_reducible refine Kd.C_drew ?_))); (case side2 => exact (Kd.V_reads' HO_0.out).2.1); rintro e w10 ⟨v118, rfl, ho0, hb⟩; refine ⟨_, rfl, ?_⟩; have n0_ := Aside0.mk (Kd.V_elder' (by (with_reducible repeat (first | apply Kd.V_alloc | apply Kd.V_drewN | apply Kd.V_drew)); exact HO_0.out) (Kd.R_base ho0) hb); have n1_ := Aside0.mk (Kd.R_below (by (with_reducible repeat (first | apply Kd.R_alloc | apply Kd.R_drewN | apply Kd.R_drew)); exact HO_5.out) hb); have n2_ := Aside0.mk (Kd.R_lower (Kd.R_newM (M := fun k_ => (w.heap.size ≤ k_)) ho0 (below_size (by repeat (first | (with_reducible first | exact HB.out | apply below_alloc | apply pw_below_drewN | apply below_drew1) | exact HB.out))) (fun k_ h_ => h_)) (below_size (by repeat (first | (with_reducible first | exact HB.out | apply below_alloc | apply pw_below_drewN | apply below_drew1) | exact HB.out)))); have n3_ := Aside0.mk (below_step (by repeat (first | (with_reducible first | exact HB.out | apply below_alloc | apply pw_below_drewN | apply below_drew1) | exact HB.out)) hb); clear HO_0; clear HO_5; clear HB; have HO_0 := n0_; have HO_5 := n1_; have HO119 := n2_; have HB := n3_; clear n0_ n1_ n2_ n3_; (try clear hb); (try clear hb2); (try clear hk); (try clear hi); (try clear ho0); have p7 : 0 ≤ (t117 : Int) := of_decide_eq_true (by first | (with_reducible assumption) | assumption); have q7 : t117 < (36 : Int) := of_decide_eq_true (by first | (with_reducible assumption) | assumption); have hx7 := bt_at (⟨#[48, 49, 50, 51, 52, 53, 54, 55, 56, 57, 97, 98, 99, 100, 101, 102, 103, 104, 105, 106, 107, 108, 109, 110, 111, 112, 113, 114, 115, 116, 117, 118, 119, 120, 121, 122]⟩ : ByteArray) t117; replace p7 := eq_true p7; replace q7 := eq_true q7) | ((with_reducible refine gate_builtin (b := .append) (xs := #[.tmp 19, .tmp 22]) rfl ?_); at_builtin; refine Kd.R_append (Kd.int .u8) (w0 := w) w.heap.size rfl (.tmp 19) (.tmp 22) 44 5 (.int .u8 0) 1 rfl Tryz.underlying44 info5 rfl (by decide) (by omega) u5 x5_1 (bt (⟨#[48, 49, 50, 51, 52, 53, 54, 55, 56, 57, 97, 98, 99, 100, 101, 102, 103, 104, 105, 106, 107, 108, 109, 110, 111, 112, 113, 114, 115, 116, 117, 118, 119, 120, 121, 122]⟩ : ByteArray) t117) [.int .u8 (bt (⟨#[48, 49, 50, 51, 52, 53, 54, 55, 56, 57, 97, 98, 99, 100, 101, 102, 103, 104, 105, 106, 107, 108, 109, 110, 111, 112, 113, 114, 115, 116, 117, 118, 119, 120, 121, 122]⟩ : ByteArray) t117)] (fun k_ => (w.heap.size ≤ k_)) (fun _ => False) rfl rfl ?aP (fun _ hk => hk.elim) ?aF ?aO ?aB ?aS ?aL ?_; (case aP => exact rfl); (case aB => exact (by repeat (first | (with_reducible first | exact HB.out | apply below_alloc | apply pw_below_drewN | apply below_drew1) | exact HB.out))); (case aF => exact (fun k_ hk => (Nat.le_trans (below_size (by repeat (first | (with_reducible first | exact HB.out | apply below_alloc | apply pw_below_drewN | apply below_drew1) | exact HB.out))) hk))); (case aO => exact (by (with_reducible repeat (first | apply Kd.R_alloc | apply Kd.R_drewN | apply Kd.R_drew)); exact HO_5.out)); (case aS => exact (below_size (by repeat (first | (with_reducible first | exact HB.out | apply below_alloc | apply pw_below_drewN | apply below_drew1) | exact HB.out)))); (case aL => have := LMc8.out; omega); intro v121 w11 ho hb hg hat; rw [← Ny120.out] at ho; have n0_ := Aside0.mk (Kd.V_afterv (ok := (fun k_ => (P0_ k_ ∨ w.heap.size ≤ k_) ∧ some k_ ≠ (v118 : Value).ownBlock)) (by (with_reducible repeat (first | apply Kd.V_alloc | apply Kd.V_drewN | apply Kd.V_drew)); exact Kd.V_mono HO_0.out (fun _ hk => ⟨⟨hk.1.1, hk.2⟩, hk.1.2⟩)) hg hat); have n1_ := Aside0.mk (Kd.R_over' (by (with_reducible repeat (first | apply Kd.R_alloc | apply Kd.R_drewN | apply Kd.R_drew)); exact HO119.out) (Kd.R_typed (by (with_reducible repeat (first | apply Kd.R_alloc | apply Kd.R_drewN | apply Kd.R_drew)); exact HO_5.out)) (by decide) hg); have n2_ := Aside0.mk (hb); have n3_ := Aside0.mk (ho); clear HO_0; clear HO119; clear HB; clear HO_5; have HO_0 := n0_; have HO119 := n1_; have HB := n2_; have HO122 := n3_; clear n0_ n1_ n2_ n3_; clear ho hb hg hat))
              go_roundg k1
              case measure => have := HK1.out; omega
              case rel => exact ⟨(t116), (y120), H', ⟨by have := HK1.out; omega⟩, ⟨Kd.V_mono (Kd.R_V (ok := fun k_ => w.heap.size ≤ k_ ∧ some k_ ≠ (v121 : Value).ownBlock) (Kd.R_mono (Kd.R_apart' HO119.out (Kd.R_typed HO122.out) (by decide)) (fun _ hk => ⟨hk.1.1, hk.2⟩))) (fun k_ hk => ⟨.inr hk.1, hk.2⟩)⟩, ⟨by (with_reducible repeat (first | apply Kd.R_alloc | apply Kd.R_drewN | apply Kd.R_drew)); exact HO122.out⟩, ⟨by repeat (first | (with_reducible first | exact HB.out | apply below_alloc | apply pw_below_drewN | apply below_drew1) | exact HB.out)⟩⟩
            · rw [if_neg c8] at H
              exact absurd H (by simp)
          · rw [if_neg c6] at H
            exact absurd H (by simp)
        · rw [if_neg c5] at H
          exact absurd H (by simp)
      · rw [if_neg c3] at H
        have c3b0 : decide (0 < (x0_1.length : Int)) = false := decide_eq_false c3
        have c3b1 : decide (0 < x0_1.length) = false := decide_eq_false (by omega)
        clear c3
        have H' := Aside0.mk H
        clear H
        obtain ⟨Ao12, co12, eo12⟩ := Kd.V_slice HO_0.out
        subst eo12
        obtain ⟨Ao13, co13, eo13⟩ := Kd.R_slice HO_5.out
        subst eo13
        go_wp2
        go_loopg [28] k1 (fun kq v28 w' => ∃ (x5_2 : List Int) (x28_2 : Int), v28 = .int .i64 x28_2 ∧ Aside0 (big_based.l1 kq x5_2 (wrap64 ((x5_1.length : Int) / 2)) x28_2 = some r) ∧ Aside0 (kq ≤ k1) ∧ Aside0 (Kd.R (Kd.int .u8) 5 w' w.heap.size (fun k_ => (w.heap.size ≤ k_)) (.slice Ao13 x5_1.length co13) x5_2) ∧ Aside0 (Below w.heap.size w w'))
        case atStart => exact ⟨(x5_1), (0), (by first | rfl | (simp; done) | (simp [*]; done)), H', ⟨Nat.le_refl _⟩, ⟨by (with_reducible repeat (first | apply Kd.R_alloc | apply Kd.R_drewN | apply Kd.R_drew)); exact HO_5.out⟩, ⟨by repeat (first | (with_reducible first | exact HB.out | apply below_alloc | apply pw_below_drewN | apply below_drew1) | exact HB.out)⟩⟩
        case round =>
          clear H'
          try clear c1
          try clear p2
          try clear c3
          try clear c3b0
          try clear c3b1
          try clear c5
          try clear c5b0
          try clear c6
          try clear c6b0
          try clear p6
          try clear p7
          try clear q7
          try clear hx7
          try clear c8
          try clear p2
          try clear p7
          try clear q7
          obtain ⟨x5_2, x28_2, rfl, HA, HK2, HO_5, HB⟩ := hrel
          have hl5_2 := (Kd.R_reads' HO_5.out).1
          rw [hl5_2] at HO_5
          (try simp only [hl5_2])
          cases gk with
          | zero => exact absurd HA.out (by simp [big_based.l1])
          | succ k2 =>
            have H := HA.out
            clear HA
            simp only [big_based.l1] at H
            by_cases c14 : x28_2 < (wrap64 ((x5_1.length : Int) / 2))
            · rw [if_pos c14] at H
              have c14b0 : decide (x28_2 < (wrap64 ((x5_1.length : Int) / 2))) = true := decide_eq_true c14
              rw [hl5_2] at c14b0
              clear c14
              obtain ⟨ji15, hji15⟩ : ∃ j_ : Int, (wrap64 ((wrap64 ((x5_2.length : Int) - 1)) - x28_2)) = j_ := ⟨_, rfl⟩
              replace H : (if 0 ≤ (ji15) then (if (ji15) < (x5_2.length : Int) then (if 0 ≤ x28_2 then (if x28_2 < (x5_2.length : Int) then (big_based.l1 k2 ((x5_2.set (x28_2 : Int).toNat (rd x5_2 (ji15))).set ((ji15) : Int).toNat (rd x5_2 x28_2)) (wrap64 ((x5_1.length : Int) / 2)) (wrap64 (x28_2 + 1))) else (none)) else (none)) else (none)) else (none)) = some r := by first | (rw [hji15] at H; exact H) | (simp only [hji15] at H ⊢; exact H)
              have hji15w : (IntKind.i64.wrap ((wrap64 ((x5_2.length : Int) - 1)) - x28_2)) = ji15 := (i64_w _).trans hji15
              by_cases c16 : 0 ≤ (ji15)
              · rw [if_pos c16] at H
                have c16b0 : decide (0 ≤ (ji15)) = true := decide_eq_true c16
                clear c16
                by_cases c17 : (ji15) < (x5_2.length : Int)
                · rw [if_pos c17] at H
                  have c17b0 : decide ((ji15) < (x5_2.length : Int)) = true := decide_eq_true c17
                  clear c17
                  by_cases c18 : 0 ≤ x28_2
                  · rw [if_pos c18] at H
                    have c18b0 : decide (0 ≤ x28_2) = true := decide_eq_true c18
                    clear c18
                    by_cases c19 : x28_2 < (x5_2.length : Int)
                    · rw [if_pos c19] at H
                      have c19b0 : decide (x28_2 < (x5_2.length : Int)) = true := decide_eq_true c19
                      clear c19
                      obtain ⟨y125, hy125⟩ : ∃ y_ : List Int, y_ = (x5_2.set (x28_2 : Int).toNat (rd x5_2 (ji15))) := ⟨_, rfl⟩
                      replace H : (big_based.l1 k2 (y125.set ((ji15) : Int).toNat (rd x5_2 x28_2)) (wrap64 ((x5_1.length : Int) / 2)) (wrap64 (x28_2 + 1))) = some r := by first | (rw [hy125]; with_reducible exact H) | (have H2_ := (Option.bind_some _ _).symm.trans H; rw [hy125]; with_reducible exact H2_) | (have H2_ := (Option.bind_some _ _).symm.trans H; with_reducible exact H2_) | with_reducible exact H | (rw [hy125]; exact H) | exact H
                      have Ny125 := Aside0.mk hy125
                      clear hy125
                      obtain ⟨y126, hy126⟩ : ∃ y_ : List Int, y_ = (y125.set ((ji15) : Int).toNat (rd x5_2 x28_2)) := ⟨_, rfl⟩
                      replace H : (big_based.l1 k2 y126 (wrap64 ((x5_1.length : Int) / 2)) (wrap64 (x28_2 + 1))) = some r := by first | (rw [hy126]; with_reducible exact H) | (have H2_ := (Option.bind_some _ _).symm.trans H; rw [hy126]; with_reducible exact H2_) | (have H2_ := (Option.bind_some _ _).symm.trans H; with_reducible exact H2_) | with_reducible exact H | (rw [hy126]; exact H) | exact H
                      have Ny126 := Aside0.mk hy126
                      clear hy126
                      have H' := Aside0.mk H
                      clear H
                      try go_wp2
                      have n0_ := Aside0.mk (Kd.R_drew HO_5.out)
                      have n1_ := Aside0.mk (below_drew1 HB.out)
                      clear HO_5
                      clear HB
                      have HO_5 := n0_
                      have HB := n1_
                      clear n0_ n1_
                      have p123 : 0 ≤ ((ji15) : Int) := of_decide_eq_true (by first | (with_reducible assumption) | assumption)
                      have q123 : (ji15) < (x5_2.length : Int) := of_decide_eq_true (by first | (with_reducible assumption) | assumption)
                      obtain ⟨ad123, e123, hx123_0⟩ := Kd.at_int (Kd.R_reads' HO_5.out).2.2 (ji15) p123 q123
                      cases e123
                      replace p123 := eq_true p123
                      replace q123 := eq_true q123
                      have p124 : 0 ≤ (x28_2 : Int) := of_decide_eq_true (by first | (with_reducible assumption) | assumption)
                      have q124 : x28_2 < (x5_2.length : Int) := of_decide_eq_true (by first | (with_reducible assumption) | assumption)
                      obtain ⟨ad124, e124, hx124_0⟩ := Kd.at_int (Kd.R_reads' HO_5.out).2.2 x28_2 p124 q124
                      obtain rfl : ad123 = ad124 := (by injection e124)
                      replace p124 := eq_true p124
                      replace q124 := eq_true q124
                      have p20 : 0 ≤ (x28_2 : Int) := of_decide_eq_true (by first | (with_reducible assumption) | assumption)
                      have q20 : (x28_2 : Int) < ((x5_2.length : Int) : Int) := of_decide_eq_true (by first | (with_reducible assumption) | assumption)
                      obtain ⟨go20, co20, eo20, gb20, gl20, cl20, HG20⟩ := Kd.R_form HO_5.out (by omega)
                      (first | cases eo20 | (injection eo20 with ea_ en_ ec_; (first | subst ea_ | (injection ea_ with ea_; subst ea_)); subst ec_; clear en_))
                      have GB20 := Aside0.mk gb20
                      have GG20 := Aside0.mk HG20
                      clear gb20 gl20 HG20
                      (first | simp only [add_plain] at hx123_0 | skip)
                      (first | simp only [add_plain] at hx124_0 | skip)
                      obtain ⟨hx20_0, hf20_0⟩ := Kd.R_celln 0 HO_5.out (x28_2 : Int) p20 q20
                      replace p20 := eq_true p20
                      replace q20 := eq_true q20
                      have HP23 := Kd.R_putn HO_5.out (x28_2 : Int) (rd x5_2 (ji15))
                      rw [← Ny125.out] at HP23
                      have HQ23 := Aside0.mk HP23
                      clear HP23
                      have p21 : 0 ≤ ((ji15) : Int) := of_decide_eq_true (by first | (with_reducible assumption) | assumption)
                      have q21 : ((ji15) : Int) < ((x5_2.length : Int) : Int) := of_decide_eq_true (by first | (with_reducible assumption) | assumption)
                      obtain ⟨hx21_0, hf21_0⟩ := Kd.R_celln 0 HQ23.out ((ji15) : Int) p21 q21
                      replace p21 := eq_true p21
                      replace q21 := eq_true q21
                      have HP24 := Kd.R_putn HQ23.out ((ji15) : Int) (rd x5_2 x28_2)
                      rw [← Ny126.out] at HP24
                      have HQ24 := Aside0.mk HP24
                      clear HP24
                      refine start_ (n := 24) (S := fun w' => w'.cell? ⟨go20, ((ji15)).toNat, none⟩ = some (.int .u8 (rd x5_2 (ji15))) ∧ w'.cell? ⟨go20, (x28_2).toNat, none⟩ = some (.int .u8 (rd x5_2 x28_2))) (ds := [21, 23]) #[false, false, false, false, false, false, false, false, false, false, false, false, false, false, false, false, false, false, false, false, false, false, false, false] (by kernel_rfl) rfl rfl ⟨hx123_0, hx124_0⟩ (fun hHeld => ?_); refine with_tabW big_based.tab9 big_based.bits9 (fun HT_ HW_ => ?_)
                      generalize wr.drew = w22 at HO_5 HB GG20 HQ23 HQ24 hf20_0 hf21_0 hx123_0 hx124_0 hx20_0 hx21_0 hHeld ⊢
                      refine pure_ (i := 0) (N := some 31) (v := ?_) (a' := ?_) #[true, false, false, false, false, false, false, false, false, false, false, false, false, false, false, false, false, false, false, false, false, false, false, false] rfl rfl (any_of HT_.out (by kernel_rfl)) (fun _ _ _ h => h) (Or.inl ⟨by rfl, ?_⟩) ?_ ?_
                      rotate_left
                      · intro w'
                        go_simp
                        with_reducible rfl
                      rotate_left
                      · simp only [Act.put, List.setIfInBounds_toArray, List.set_cons_zero, List.set_cons_succ, i64_w, i32_w]
                        rfl
                      refine pure_ (i := 1) (N := some 32) (v := ?_) (a' := ?_) #[true, true, false, false, false, false, false, false, false, false, false, false, false, false, false, false, false, false, false, false, false, false, false, false] rfl rfl (any_of HT_.out (by kernel_rfl)) (fun _ _ _ h => h) (Or.inl ⟨by rfl, ?_⟩) ?_ ?_
                      rotate_left
                      · intro w'
                        go_simp
                        with_reducible rfl
                      rotate_left
                      · simp only [Act.put, List.setIfInBounds_toArray, List.set_cons_zero, List.set_cons_succ, i64_w, i32_w]
                        rfl
                      refine pure_ (i := 2) (N := some 33) (v := ?_) (a' := ?_) #[true, true, true, false, false, false, false, false, false, false, false, false, false, false, false, false, false, false, false, false, false, false, false, false] rfl rfl (any_of HT_.out (by kernel_rfl)) (fun _ _ _ h => h) (Or.inl ⟨by rfl, ?_⟩) ?_ ?_
                      rotate_left
                      · intro w'
                        go_simp
                        with_reducible rfl
                      rotate_left
                      · simp only [Act.put, List.setIfInBounds_toArray, List.set_cons_zero, List.set_cons_succ, i64_w, i32_w]
                        rfl
                      refine pure_ (i := 3) (N := some 34) (v := ?_) (a' := ?_) #[true, true, true, true, false, false, false, false, false, false, false, false, false, false, false, false, false, false, false, false, false, false, false, false] rfl rfl (any_of HT_.out (by kernel_rfl)) (fun _ _ _ h => h) (Or.inl ⟨by rfl, ?_⟩) ?_ ?_
                      rotate_left
                      · intro w'
                        go_simp
                        with_reducible rfl
                      rotate_left
                      · simp only [Act.put, List.setIfInBounds_toArray, List.set_cons_zero, List.set_cons_succ, i64_w, i32_w]
                        rfl
                      refine pure_ (i := 4) (N := some 35) (v := ?_) (a' := ?_) #[true, true, true, true, true, false, false, false, false, false, false, false, false, false, false, false, false, false, false, false, false, false, false, false] rfl rfl (any_of HT_.out (by kernel_rfl)) (fun _ _ _ h => h) (Or.inl ⟨by rfl, ?_⟩) ?_ ?_
                      rotate_left
                      · intro w'
                        go_simp
                        with_reducible rfl
                      rotate_left
                      · simp only [Act.put, List.setIfInBounds_toArray, List.set_cons_zero, List.set_cons_succ, i64_w, i32_w]
                        rfl
                      refine pure_ (i := 5) (N := some 36) (v := ?_) (a' := ?_) #[true, true, true, true, true, true, false, false, false, false, false, false, false, false, false, false, false, false, false, false, false, false, false, false] rfl rfl (any_of HT_.out (by kernel_rfl)) (fun _ _ _ h => h) (Or.inl ⟨by rfl, ?_⟩) ?_ ?_
                      rotate_left
                      · intro w'
                        go_simp
                        with_reducible rfl
                      rotate_left
                      · simp only [Act.put, List.setIfInBounds_toArray, List.set_cons_zero, List.set_cons_succ, i64_w, i32_w]
                        rfl
                      refine pure_ (i := 6) (N := some 37) (v := ?_) (a' := ?_) #[true, true, true, true, true, true, true, false, false, false, false, false, false, false, false, false, false, false, false, false, false, false, false, false] rfl rfl (any_of HT_.out (by kernel_rfl)) (fun _ _ _ h => h) (Or.inl ⟨by rfl, ?_⟩) ?_ ?_
                      rotate_left
                      · intro w'
                        go_simp
                        with_reducible rfl
                      rotate_left
                      · simp only [Act.put, List.setIfInBounds_toArray, List.set_cons_zero, List.set_cons_succ, i64_w, i32_w]
                        rfl
                      refine pure_ (i := 7) (N := some 38) (v := ?_) (a' := ?_) #[true, true, true, true, true, true, true, true, false, false, false, false, false, false, false, false, false, false, false, false, false, false, false, false] rfl rfl (any_of HT_.out (by kernel_rfl)) (fun _ _ _ h => h) (Or.inl ⟨by rfl, ?_⟩) ?_ ?_
                      rotate_left
                      · intro w'
                        go_simp
                        with_reducible rfl
                      rotate_left
                      · simp only [Act.put, List.setIfInBounds_toArray, List.set_cons_zero, List.set_cons_succ, i64_w, i32_w]
                        rfl
                      refine pure_ (i := 8) (N := some 39) (v := ?_) (a' := ?_) #[true, true, true, true, true, true, true, true, true, false, false, false, false, false, false, false, false, false, false, false, false, false, false, false] rfl rfl (any_of HT_.out (by kernel_rfl)) (fun _ _ _ h => h) (Or.inl ⟨by rfl, ?_⟩) ?_ ?_
                      rotate_left
                      · intro w'
                        go_simp
                        with_reducible rfl
                      rotate_left
                      · simp only [Act.put, List.setIfInBounds_toArray, List.set_cons_zero, List.set_cons_succ, i64_w, i32_w]
                        rfl
                      refine pure_ (i := 9) (N := some 40) (v := ?_) (a' := ?_) #[true, true, true, true, true, true, true, true, true, true, false, false, false, false, false, false, false, false, false, false, false, false, false, false] rfl rfl (any_of HT_.out (by kernel_rfl)) (fun _ _ _ h => h) (Or.inl ⟨by rfl, ?_⟩) ?_ ?_
                      rotate_left
                      · intro w'
                        go_simp
                        with_reducible rfl
                      rotate_left
                      · simp only [Act.put, List.setIfInBounds_toArray, List.set_cons_zero, List.set_cons_succ, i64_w, i32_w]
                        rfl
                      refine pure_ (i := 10) (N := some 41) (v := ?_) (a' := ?_) #[true, true, true, true, true, true, true, true, true, true, true, false, false, false, false, false, false, false, false, false, false, false, false, false] rfl rfl (any_of HT_.out (by kernel_rfl)) (fun _ _ _ h => h) (Or.inl ⟨by rfl, ?_⟩) ?_ ?_
                      rotate_left
                      · intro w'
                        go_simp
                        with_reducible rfl
                      rotate_left
                      · simp only [Act.put, List.setIfInBounds_toArray, List.set_cons_zero, List.set_cons_succ, i64_w, i32_w]
                        rfl
                      refine pure_ (i := 11) (N := some 42) (v := ?_) (a' := ?_) #[true, true, true, true, true, true, true, true, true, true, true, true, false, false, false, false, false, false, false, false, false, false, false, false] rfl rfl (any_of HT_.out (by kernel_rfl)) (fun _ _ _ h => h) (Or.inl ⟨by rfl, ?_⟩) ?_ ?_
                      rotate_left
                      · intro w'
                        go_simp
                        with_reducible rfl
                      rotate_left
                      · simp only [Act.put, List.setIfInBounds_toArray, List.set_cons_zero, List.set_cons_succ, i64_w, i32_w]
                        rfl
                      refine pure_ (i := 12) (N := some 43) (v := ?_) (a' := ?_) #[true, true, true, true, true, true, true, true, true, true, true, true, true, false, false, false, false, false, false, false, false, false, false, false] rfl rfl (any_of HT_.out (by kernel_rfl)) (fun _ _ _ h => h) (Or.inl ⟨by rfl, ?_⟩) ?_ ?_
                      rotate_left
                      · intro w'
                        go_simp
                        with_reducible rfl
                      rotate_left
                      · simp only [Act.put, List.setIfInBounds_toArray, List.set_cons_zero, List.set_cons_succ, i64_w, i32_w]
                        rfl
                      refine pure_ (i := 13) (N := some 44) (v := ?_) (a' := ?_) #[true, true, true, true, true, true, true, true, true, true, true, true, true, true, false, false, false, false, false, false, false, false, false, false] rfl rfl (any_of HT_.out (by kernel_rfl)) (fun _ _ _ h => h) (Or.inl ⟨by rfl, ?_⟩) ?_ ?_
                      rotate_left
                      · intro w'
                        go_simp
                        with_reducible rfl
                      rotate_left
                      · simp only [Act.put, List.setIfInBounds_toArray, List.set_cons_zero, List.set_cons_succ, i64_w, i32_w]
                        rfl
                      refine pure_ (i := 14) (N := some 45) (v := ?_) (a' := ?_) #[true, true, true, true, true, true, true, true, true, true, true, true, true, true, true, false, false, false, false, false, false, false, false, false] rfl rfl (any_of HT_.out (by kernel_rfl)) (fun _ _ _ h => h) (Or.inl ⟨by rfl, ?_⟩) ?_ ?_
                      rotate_left
                      · intro w'
                        go_simp
                        with_reducible rfl
                      rotate_left
                      · simp only [Act.put, List.setIfInBounds_toArray, List.set_cons_zero, List.set_cons_succ, i64_w, i32_w]
                        rfl
                      refine pure_ (i := 16) (N := some 47) (v := ?_) (a' := ?_) #[true, true, true, true, true, true, true, true, true, true, true, true, true, true, true, false, true, false, false, false, false, false, false, false] rfl rfl (any_of HT_.out (by kernel_rfl)) (fun _ _ _ h => h) (Or.inl ⟨by rfl, ?_⟩) ?_ ?_
                      rotate_left
                      · intro w'
                        go_simp
                        with_reducible rfl
                      rotate_left
                      · simp only [Act.put, List.setIfInBounds_toArray, List.set_cons_zero, List.set_cons_succ, i64_w, i32_w]
                        rfl
                      refine pure_ (i := 17) (N := some 48) (v := ?_) (a' := ?_) #[true, true, true, true, true, true, true, true, true, true, true, true, true, true, true, false, true, true, false, false, false, false, false, false] rfl rfl (any_of HT_.out (by kernel_rfl)) (fun _ _ _ h => h) (Or.inl ⟨by rfl, ?_⟩) ?_ ?_
                      rotate_left
                      · intro w'
                        go_simp
                        with_reducible rfl
                      rotate_left
                      · simp only [Act.put, List.setIfInBounds_toArray, List.set_cons_zero, List.set_cons_succ, i64_w, i32_w]
                        rfl
                      refine pure_ (i := 18) (N := some 49) (v := ?_) (a' := ?_) #[true, true, true, true, true, true, true, true, true, true, true, true, true, true, true, false, true, true, true, false, false, false, false, false] rfl rfl (any_of HT_.out (by kernel_rfl)) (fun _ _ _ h => h) (Or.inl ⟨by rfl, ?_⟩) ?_ ?_
                      rotate_left
                      · intro w'
                        go_simp
                        with_reducible rfl
                      rotate_left
                      · simp only [Act.put, List.setIfInBounds_toArray, List.set_cons_zero, List.set_cons_succ, i64_w, i32_w]
                        rfl
                      refine take_ (i := 15) (N := some 46) (v := ?_) (a' := ?_) #[true, true, true, true, true, true, true, true, true, true, true, true, true, true, true, true, true, true, true, false, false, false, false, false] rfl rfl (take_ofW HT_.out HW_.out (by kernel_rfl)) (fun _ _ _ h => h) (Or.inl ⟨by rfl, ?_⟩) hHeld ?_ ?_
                      rotate_left
                      · rintro w' ⟨s0, s1⟩
                        go_simp
                        with_reducible rfl
                      rotate_left
                      · simp only [Act.put, List.setIfInBounds_toArray, List.set_cons_zero, List.set_cons_succ, i64_w, i32_w]
                        rfl
                      refine take_ (i := 19) (N := some 50) (v := ?_) (a' := ?_) #[true, true, true, true, true, true, true, true, true, true, true, true, true, true, true, true, true, true, true, true, false, false, false, false] rfl rfl (take_ofW HT_.out HW_.out (by kernel_rfl)) (fun _ _ _ h => h) (Or.inl ⟨by rfl, ?_⟩) hHeld ?_ ?_
                      rotate_left
                      · rintro w' ⟨s0, s1⟩
                        go_simp
                        with_reducible rfl
                      rotate_left
                      · simp only [Act.put, List.setIfInBounds_toArray, List.set_cons_zero, List.set_cons_succ, i64_w, i32_w]
                        rfl
                      refine pure_ (i := 20) (N := some 51) (v := ?_) (a' := ?_) #[true, true, true, true, true, true, true, true, true, true, true, true, true, true, true, true, true, true, true, true, true, false, false, false] rfl rfl (any_of HT_.out (by kernel_rfl)) (fun _ _ _ h => h) (Or.inl ⟨by rfl, ?_⟩) ?_ ?_
                      rotate_left
                      · intro w'
                        go_simp
                        with_reducible rfl
                      rotate_left
                      · simp only [Act.put, List.setIfInBounds_toArray, List.set_cons_zero, List.set_cons_succ, i64_w, i32_w]
                        rfl
                      refine last_ (i := 21) (N := none) #[true, true, true, true, true, true, true, true, true, true, true, true, true, true, true, true, true, true, true, true, true, true, false, false] rfl rfl (one_of HT_.out (by kernel_rfl)) (by decide) (fun K hK => ?_)
                      refine skip_ (w1 := ?_) (by rfl) rfl ?_ ?_
                      rotate_left
                      · go_simp
                        rfl
                      refine hK.out _ _ ?_
                      clear hK K
                      refine pure_ (i := 22) (N := some 52) (v := ?_) (a' := ?_) #[true, true, true, true, true, true, true, true, true, true, true, true, true, true, true, true, true, true, true, true, true, true, true, false] rfl rfl (any_of HT_.out (by kernel_rfl)) (fun _ _ _ h => h) (Or.inl ⟨by rfl, ?_⟩) ?_ ?_
                      rotate_left
                      · intro w'
                        go_simp
                        with_reducible rfl
                      rotate_left
                      · simp only [Act.put, List.setIfInBounds_toArray, List.set_cons_zero, List.set_cons_succ, i64_w, i32_w]
                        rfl
                      refine last_ (i := 23) (N := none) #[true, true, true, true, true, true, true, true, true, true, true, true, true, true, true, true, true, true, true, true, true, true, true, true] rfl rfl (one_of HT_.out (by kernel_rfl)) (by decide) (fun K hK => ?_)
                      refine skip_ (w1 := ?_) (by rfl) rfl ?_ ?_
                      rotate_left
                      · go_simp
                        rfl
                      refine hK.out _ _ ?_
                      clear hK K
                      refine done_ (done_of HT_.out (by kernel_rfl)) ?_
                      try go_wp2
                      (try simp only [← hl5_2])
                      go_roundg k2
                      case measure => have := HK1.out; have := HK2.out; omega
                      case rel => exact ⟨(y126), (wrap64 (x28_2 + 1)), (by first | rfl | (simp; done) | (simp [*]; done)), H', ⟨by have := HK1.out; have := HK2.out; omega⟩, ⟨by (try simp only [hl5_2]); (with_reducible repeat (first | apply Kd.R_alloc | apply Kd.R_drewN | apply Kd.R_drew)); exact HQ24.out⟩, ⟨by repeat (first | (with_reducible first | exact HB.out | apply below_alloc | apply pw_below_drewN | apply below_drew1 | refine below_set ?_ GB20.out | refine below_set ?_ GB20.out) | exact HB.out)⟩⟩
                    · rw [if_neg c19] at H
                      exact absurd H (by simp)
                  · rw [if_neg c18] at H
                    exact absurd H (by simp)
                · rw [if_neg c17] at H
                  exact absurd H (by simp)
              · rw [if_neg c16] at H
                exact absurd H (by simp)
            · rw [if_neg c14] at H
              have c14b0 : decide (x28_2 < (wrap64 ((x5_1.length : Int) / 2))) = false := decide_eq_false c14
              rw [hl5_2] at c14b0
              clear c14
              obtain rfl := Option.some.inj H
              have hcv25 := own_string (P := Tryz.prog) Tryz.underlying44 Tryz.underlying5 Tryz.underlying9 (Kd.own_of_R HO_5.out)
              go_wp2
              go_ret
              exact ⟨by first | rfl | (simp [errW_none, errW_some] <;> rfl) | (simp [*, errW_none, errW_some] <;> rfl), by repeat (first | (with_reducible first | exact HB.out | apply below_alloc | apply pw_below_drewN | apply below_drew1) | exact HB.out)⟩
def big_number_text.f (k : Nat) (l0_0 : List Int) (a0_1 : Bool) (a0_2 : Bool) (a1 : Int) : Option (ByteArray) := (big_based.f k l0_0 a1).bind fun t128 => (if t128.toList = ([] : List UInt8) then (some (⟨#[48]⟩ : ByteArray)) else (if a0_1 = true then (if 1 + t128.size ≤ 9223372036854775807 then (some ((⟨#[45]⟩ : ByteArray) ++ t128)) else (none)) else (some t128)))
set_option maxHeartbeats 8000000 in
set_option maxRecDepth 100000 in
theorem big_number_text.calls (k : Nat) (A0_0 : Option Addr) (c0_0 : Nat) (l0_0 : List Int) (a0_1 : Bool) (a0_2 : Bool) (a1 : Int) (r : ByteArray) (w : World) (hr0_0 : Kd.C (Kd.int .u32) w A0_0 l0_0.length l0_0) (hc0_0 : l0_0.length ≤ c0_0) (h : big_number_text.f k l0_0 a0_1 a0_2 a1 = some r) :
    Calls Tryz.prog 111 #[.agg #[.slice A0_0 l0_0.length c0_0, .bool a0_1, .bool a0_2], .int .i64 a1] w fun e w' => e = .returned (.string r) ∧ Below w.heap.size w w' := by
  have hu139 := Tryz.underlying139
  have HR0_0 := Aside0.mk hr0_0
  have HC0_0 := Aside0.mk hc0_0
  clear hr0_0 hc0_0
  have HB := Aside0.mk (Below.refl w.heap.size w)
  have H : ((big_based.f k l0_0 a1).bind fun t128 => (if t128.toList = ([] : List UInt8) then (some (⟨#[48]⟩ : ByteArray)) else (if a0_1 = true then (if 1 + t128.size ≤ 9223372036854775807 then (some ((⟨#[45]⟩ : ByteArray) ++ t128)) else (none)) else (some t128)))) = some r := h
  clear h
  replace H := Option.bind_eq_some_iff.mp H
  obtain ⟨t128, A30, H⟩ := H
  replace H : (if t128.toList = ([] : List UInt8) then (some (⟨#[48]⟩ : ByteArray)) else (if a0_1 = true then (if 1 + t128.size ≤ 9223372036854775807 then (some ((⟨#[45]⟩ : ByteArray) ++ t128)) else (none)) else (some t128))) = some r := H
  have A3 := Aside0.mk A30
  clear A30
  by_cases c4 : t128.toList = ([] : List UInt8)
  · rw [if_pos c4] at H
    have c4b0 : (t128.toList == ([] : List UInt8)) = true := beq_iff_eq.mpr c4
    have c4b1 : (t128.toList != ([] : List UInt8)) = false := bne_eq_false_iff_eq.mpr c4
    clear c4
    obtain rfl := Option.some.inj H
    go_enter Tryz.func111, Tryz.ntmps111
    go_wp2_with (first | ((with_reducible refine gate_dst (N := 2) rfl ?_); refine box_event ?hg (N := 2) ?hd (cs := #[.slice A0_0 l0_0.length c0_0, .bool a0_1, .bool a0_2]) (t := 139) ?hr ?_; (case hd => rfl); (case hg => rfl); (case hr => first | (go_simp; done) | (go_simp; rfl)); intro gb127 hg w5 hbox hb; have n0_ := Aside0.mk (below_step (by repeat (first | (with_reducible first | exact HB.out | apply below_alloc | apply pw_below_drewN | apply below_drew1) | exact HB.out)) hb); have n1_ := Aside0.mk (hbox); have n2_ := Aside0.mk ((by rw [hg]; exact (below_size (by repeat (first | (with_reducible first | exact HB.out | apply below_alloc | apply pw_below_drewN | apply below_drew1) | exact HB.out))) : w.heap.size ≤ gb127)); have n3_ := Aside0.mk ((by rw [hg]; exact (below_size (by repeat (first | (with_reducible first | exact HB.out | apply below_alloc | apply pw_below_drewN | apply below_drew1) | exact HB.out))) : w.heap.size ≤ gb127)); clear HB; have HB := n0_; have BK127 := n1_; have GW127 := n2_; have GE127 := n3_; clear n0_ n1_ n2_ n3_; clear hb hbox hg; have hcz6_0 : w5.cell? ⟨gb127, 0, none⟩ = some (.slice A0_0 l0_0.length c0_0) := (blk_cell BK127.out 0).trans rfl; have hcz6_1 : w5.cell? ⟨gb127, 1, none⟩ = some (.bool a0_1) := (blk_cell BK127.out 1).trans rfl; have hcz6_2 : w5.cell? ⟨gb127, 2, none⟩ = some (.bool a0_2) := (blk_cell BK127.out 2).trans rfl; have hfz6_0 := blk_frozen BK127.out 0; have hfz6_1 := blk_frozen BK127.out 1; have hfz6_2 := blk_frozen BK127.out 2) | ((with_reducible refine gate_callee (f := 142) rfl ?_); refine goesL_ (some 9) rfl rfl Tryz.func142 (by kernel_rfl) rfl #[.slice A0_0 l0_0.length c0_0, .int .i64 a1] rfl (by (try simp only [List.map_toArray, List.map_cons, List.map_nil]); first | done | rfl | (simp only [List.length_drop, List.length_take]; rfl)) ?_; (with_reducible refine (big_based.calls k (fun k_ => k_ < w.heap.size) _ _ l0_0 a1 t128 _ ?side1 A3.out).mono ?_); (case side1 => exact Kd.V_mk HC0_0.out (Kd.F_below (Kd.C_F (Kd.heap_int .u32) HR0_0.out) (by repeat (first | (with_reducible first | exact HB.out | apply below_alloc | apply pw_below_drewN | apply below_drew1 | refine below_set ?_ GE127.out) | exact HB.out)))); rintro e w7 ⟨rfl, hb⟩; refine ⟨_, rfl, ?_⟩; have n0_ := Aside0.mk (blk_below (g := gb127) (o := .cells #[.slice A0_0 l0_0.length c0_0, .bool a0_1, .bool a0_2] 139 (0, 0)) (by (with_reducible repeat (first | refine blk_drewN ?_ _ | refine blk_drew ?_ | refine blk_alloc ?_ _)); exact BK127.out) hb); have n1_ := Aside0.mk (below_step (by repeat (first | (with_reducible first | exact HB.out | apply below_alloc | apply pw_below_drewN | apply below_drew1 | refine below_set ?_ GE127.out) | exact HB.out)) hb); clear BK127; clear HB; have BK127 := n0_; have HB := n1_; clear n0_ n1_; (try clear hb); (try clear hb2); (try clear hk); (try clear hi)))
    go_ret
    exact ⟨by first | rfl | (simp [errW_none, errW_some] <;> rfl) | (simp [*, errW_none, errW_some] <;> rfl), by repeat (first | (with_reducible first | exact HB.out | apply below_alloc | apply pw_below_drewN | apply below_drew1 | refine below_set ?_ GE127.out) | exact HB.out)⟩
  · rw [if_neg c4] at H
    have c4b0 : (t128.toList == ([] : List UInt8)) = false := beq_eq_false_iff_ne.mpr c4
    have c4b1 : (t128.toList != ([] : List UInt8)) = true := bne_iff_ne.mpr c4
    by_cases c8 : a0_1 = true
    · subst c8
      have H1 : (if 1 + t128.size ≤ 9223372036854775807 then (some ((⟨#[45]⟩ : ByteArray) ++ t128)) else (none)) = some r := by rw [if_pos rfl] at H; exact H
      clear H
      have H := H1
      clear H1
      by_cases c9 : 1 + t128.size ≤ 9223372036854775807
      · rw [if_pos c9] at H
        have c9b0 := eq_true c9
        have c9b1 : decide (1 + t128.size ≤ 9223372036854775807) = true := decide_eq_true c9
        try have c9b2 : (9223372036854775807 < 1 + t128.size) = False := eq_false (Nat.not_lt.2 c9)
        obtain rfl := Option.some.inj H
        go_enter Tryz.func111, Tryz.ntmps111
        go_wp2_with (first | ((with_reducible refine gate_dst (N := 2) rfl ?_); refine box_event ?hg (N := 2) ?hd (cs := #[.slice A0_0 l0_0.length c0_0, .bool true, .bool a0_2]) (t := 139) ?hr ?_; (case hd => rfl); (case hg => rfl); (case hr => first | (go_simp; done) | (go_simp; rfl)); intro gb127 hg w10 hbox hb; have n0_ := Aside0.mk (below_step (by repeat (first | (with_reducible first | exact HB.out | apply below_alloc | apply pw_below_drewN | apply below_drew1) | exact HB.out)) hb); have n1_ := Aside0.mk (hbox); have n2_ := Aside0.mk ((by rw [hg]; exact (below_size (by repeat (first | (with_reducible first | exact HB.out | apply below_alloc | apply pw_below_drewN | apply below_drew1) | exact HB.out))) : w.heap.size ≤ gb127)); have n3_ := Aside0.mk ((by rw [hg]; exact (below_size (by repeat (first | (with_reducible first | exact HB.out | apply below_alloc | apply pw_below_drewN | apply below_drew1) | exact HB.out))) : w.heap.size ≤ gb127)); clear HB; have HB := n0_; have BK127 := n1_; have GW127 := n2_; have GE127 := n3_; clear n0_ n1_ n2_ n3_; clear hb hbox hg; have hcz11_0 : w10.cell? ⟨gb127, 0, none⟩ = some (.slice A0_0 l0_0.length c0_0) := (blk_cell BK127.out 0).trans rfl; have hcz11_1 : w10.cell? ⟨gb127, 1, none⟩ = some (.bool true) := (blk_cell BK127.out 1).trans rfl; have hcz11_2 : w10.cell? ⟨gb127, 2, none⟩ = some (.bool a0_2) := (blk_cell BK127.out 2).trans rfl; have hfz11_0 := blk_frozen BK127.out 0; have hfz11_1 := blk_frozen BK127.out 1; have hfz11_2 := blk_frozen BK127.out 2) | ((with_reducible refine gate_callee (f := 142) rfl ?_); refine goesL_ (some 9) rfl rfl Tryz.func142 (by kernel_rfl) rfl #[.slice A0_0 l0_0.length c0_0, .int .i64 a1] rfl (by (try simp only [List.map_toArray, List.map_cons, List.map_nil]); first | done | rfl | (simp only [List.length_drop, List.length_take]; rfl)) ?_; (with_reducible refine (big_based.calls k (fun k_ => k_ < w.heap.size) _ _ l0_0 a1 t128 _ ?side1 A3.out).mono ?_); (case side1 => exact Kd.V_mk HC0_0.out (Kd.F_below (Kd.C_F (Kd.heap_int .u32) HR0_0.out) (by repeat (first | (with_reducible first | exact HB.out | apply below_alloc | apply pw_below_drewN | apply below_drew1 | refine below_set ?_ GE127.out) | exact HB.out)))); rintro e w12 ⟨rfl, hb⟩; refine ⟨_, rfl, ?_⟩; have n0_ := Aside0.mk (blk_below (g := gb127) (o := .cells #[.slice A0_0 l0_0.length c0_0, .bool true, .bool a0_2] 139 (0, 0)) (by (with_reducible repeat (first | refine blk_drewN ?_ _ | refine blk_drew ?_ | refine blk_alloc ?_ _)); exact BK127.out) hb); have n1_ := Aside0.mk (below_step (by repeat (first | (with_reducible first | exact HB.out | apply below_alloc | apply pw_below_drewN | apply below_drew1 | refine below_set ?_ GE127.out) | exact HB.out)) hb); clear BK127; clear HB; have BK127 := n0_; have HB := n1_; clear n0_ n1_; (try clear hb); (try clear hb2); (try clear hk); (try clear hi); have hcz13_0 : w12.cell? ⟨gb127, 0, none⟩ = some (.slice A0_0 l0_0.length c0_0) := (blk_cell BK127.out 0).trans rfl; have hcz13_1 : w12.cell? ⟨gb127, 1, none⟩ = some (.bool true) := (blk_cell BK127.out 1).trans rfl; have hcz13_2 : w12.cell? ⟨gb127, 2, none⟩ = some (.bool a0_2) := (blk_cell BK127.out 2).trans rfl; have hfz13_0 := blk_frozen BK127.out 0; have hfz13_1 := blk_frozen BK127.out 1; have hfz13_2 := blk_frozen BK127.out 2))
        go_ret
        exact ⟨by first | rfl | (simp [errW_none, errW_some] <;> rfl) | (simp [*, errW_none, errW_some] <;> rfl), by repeat (first | (with_reducible first | exact HB.out | apply below_alloc | apply pw_below_drewN | apply below_drew1 | refine below_set ?_ GE127.out) | exact HB.out)⟩
      · rw [if_neg c9] at H
        exact absurd H (by simp)
    · replace c8 := Bool.eq_false_iff.mpr c8
      subst c8
      have H1 : (some t128) = some r := by rw [if_neg (show ¬ (false = true) by decide)] at H; exact H
      clear H
      have H := H1
      clear H1
      obtain rfl := Option.some.inj H
      go_enter Tryz.func111, Tryz.ntmps111
      go_wp2_with (first | ((with_reducible refine gate_dst (N := 2) rfl ?_); refine box_event ?hg (N := 2) ?hd (cs := #[.slice A0_0 l0_0.length c0_0, .bool false, .bool a0_2]) (t := 139) ?hr ?_; (case hd => rfl); (case hg => rfl); (case hr => first | (go_simp; done) | (go_simp; rfl)); intro gb127 hg w14 hbox hb; have n0_ := Aside0.mk (below_step (by repeat (first | (with_reducible first | exact HB.out | apply below_alloc | apply pw_below_drewN | apply below_drew1) | exact HB.out)) hb); have n1_ := Aside0.mk (hbox); have n2_ := Aside0.mk ((by rw [hg]; exact (below_size (by repeat (first | (with_reducible first | exact HB.out | apply below_alloc | apply pw_below_drewN | apply below_drew1) | exact HB.out))) : w.heap.size ≤ gb127)); have n3_ := Aside0.mk ((by rw [hg]; exact (below_size (by repeat (first | (with_reducible first | exact HB.out | apply below_alloc | apply pw_below_drewN | apply below_drew1) | exact HB.out))) : w.heap.size ≤ gb127)); clear HB; have HB := n0_; have BK127 := n1_; have GW127 := n2_; have GE127 := n3_; clear n0_ n1_ n2_ n3_; clear hb hbox hg; have hcz15_0 : w14.cell? ⟨gb127, 0, none⟩ = some (.slice A0_0 l0_0.length c0_0) := (blk_cell BK127.out 0).trans rfl; have hcz15_1 : w14.cell? ⟨gb127, 1, none⟩ = some (.bool false) := (blk_cell BK127.out 1).trans rfl; have hcz15_2 : w14.cell? ⟨gb127, 2, none⟩ = some (.bool a0_2) := (blk_cell BK127.out 2).trans rfl; have hfz15_0 := blk_frozen BK127.out 0; have hfz15_1 := blk_frozen BK127.out 1; have hfz15_2 := blk_frozen BK127.out 2) | ((with_reducible refine gate_callee (f := 142) rfl ?_); refine goesL_ (some 9) rfl rfl Tryz.func142 (by kernel_rfl) rfl #[.slice A0_0 l0_0.length c0_0, .int .i64 a1] rfl (by (try simp only [List.map_toArray, List.map_cons, List.map_nil]); first | done | rfl | (simp only [List.length_drop, List.length_take]; rfl)) ?_; (with_reducible refine (big_based.calls k (fun k_ => k_ < w.heap.size) _ _ l0_0 a1 t128 _ ?side1 A3.out).mono ?_); (case side1 => exact Kd.V_mk HC0_0.out (Kd.F_below (Kd.C_F (Kd.heap_int .u32) HR0_0.out) (by repeat (first | (with_reducible first | exact HB.out | apply below_alloc | apply pw_below_drewN | apply below_drew1 | refine below_set ?_ GE127.out) | exact HB.out)))); rintro e w16 ⟨rfl, hb⟩; refine ⟨_, rfl, ?_⟩; have n0_ := Aside0.mk (blk_below (g := gb127) (o := .cells #[.slice A0_0 l0_0.length c0_0, .bool false, .bool a0_2] 139 (0, 0)) (by (with_reducible repeat (first | refine blk_drewN ?_ _ | refine blk_drew ?_ | refine blk_alloc ?_ _)); exact BK127.out) hb); have n1_ := Aside0.mk (below_step (by repeat (first | (with_reducible first | exact HB.out | apply below_alloc | apply pw_below_drewN | apply below_drew1 | refine below_set ?_ GE127.out) | exact HB.out)) hb); clear BK127; clear HB; have BK127 := n0_; have HB := n1_; clear n0_ n1_; (try clear hb); (try clear hb2); (try clear hk); (try clear hi); have hcz17_0 : w16.cell? ⟨gb127, 0, none⟩ = some (.slice A0_0 l0_0.length c0_0) := (blk_cell BK127.out 0).trans rfl; have hcz17_1 : w16.cell? ⟨gb127, 1, none⟩ = some (.bool false) := (blk_cell BK127.out 1).trans rfl; have hcz17_2 : w16.cell? ⟨gb127, 2, none⟩ = some (.bool a0_2) := (blk_cell BK127.out 2).trans rfl; have hfz17_0 := blk_frozen BK127.out 0; have hfz17_1 := blk_frozen BK127.out 1; have hfz17_2 := blk_frozen BK127.out 2))
      go_ret
      exact ⟨by first | rfl | (simp [errW_none, errW_some] <;> rfl) | (simp [*, errW_none, errW_some] <;> rfl), by repeat (first | (with_reducible first | exact HB.out | apply below_alloc | apply pw_below_drewN | apply below_drew1 | refine below_set ?_ GE127.out) | exact HB.out)⟩
def big_decimal.f (k : Nat) (l0 : List Int) : Option (ByteArray) := (big_based.f k l0 10).bind fun t132 => (some t132)
set_option maxHeartbeats 8000000 in
set_option maxRecDepth 100000 in
theorem big_decimal.calls (k : Nat) (A0 : Option Addr) (c0 : Nat) (l0 : List Int) (r : ByteArray) (w : World) (hr0 : Kd.C (Kd.int .u32) w A0 l0.length l0) (hc0 : l0.length ≤ c0) (h : big_decimal.f k l0 = some r) :
    Calls Tryz.prog 168 #[.slice A0 l0.length c0] w fun e w' => e = .returned (.string r) ∧ Below w.heap.size w w' := by
  have HR0 := Aside0.mk hr0
  have HC0 := Aside0.mk hc0
  clear hr0 hc0
  have HB := Aside0.mk (Below.refl w.heap.size w)
  have H : ((big_based.f k l0 10).bind fun t132 => (some t132)) = some r := h
  clear h
  replace H := Option.bind_eq_some_iff.mp H
  obtain ⟨t132, A20, H⟩ := H
  replace H : (some t132) = some r := H
  have A2 := Aside0.mk A20
  clear A20
  obtain rfl := Option.some.inj H
  go_enter Tryz.func168, Tryz.ntmps168
  go_wp2_with (first | ((with_reducible refine gate_callee (f := 142) rfl ?_); refine goesL_ (some 4) rfl rfl Tryz.func142 (by kernel_rfl) rfl #[.slice A0 l0.length c0, .int .i64 10] rfl (by (try simp only [List.map_toArray, List.map_cons, List.map_nil]); first | done | rfl | (simp only [List.length_drop, List.length_take]; rfl)) ?_; (with_reducible refine (big_based.calls k (fun k_ => k_ < w.heap.size) _ _ l0 10 t132 _ ?side1 A2.out).mono ?_); (case side1 => exact Kd.V_mk HC0.out (Kd.F_below (Kd.C_F (Kd.heap_int .u32) HR0.out) (by repeat (first | (with_reducible first | exact HB.out | apply below_alloc | apply pw_below_drewN | apply below_drew1) | exact HB.out)))); rintro e w3 ⟨rfl, hb⟩; refine ⟨_, rfl, ?_⟩; have n0_ := Aside0.mk (below_step (by repeat (first | (with_reducible first | exact HB.out | apply below_alloc | apply pw_below_drewN | apply below_drew1) | exact HB.out)) hb); clear HB; have HB := n0_; clear n0_; (try clear hb); (try clear hb2); (try clear hk); (try clear hi)))
  go_ret
  exact ⟨by first | rfl | (simp [errW_none, errW_some] <;> rfl) | (simp [*, errW_none, errW_some] <;> rfl), by repeat (first | (with_reducible first | exact HB.out | apply below_alloc | apply pw_below_drewN | apply below_drew1) | exact HB.out)⟩
def big_number_result.f (k : Nat) (l0_0 : List Int) (a0_1 : Bool) (a0_2 : Bool) : Option (ByteArray × Int) := if a0_2 = true then (some ((⟨#[]⟩ : ByteArray), 4)) else ((big_nat_bits.f k l0_0).bind fun t134 => (if t134 > 2010 then (some ((⟨#[]⟩ : ByteArray), 4)) else ((big_decimal.f k l0_0).bind fun t135 => (if (t135.size : Int) > 600 then (some ((⟨#[]⟩ : ByteArray), 4)) else ((big_number_text.f k l0_0 a0_1 a0_2 10).bind fun t136 => (some (t136, 0)))))))
set_option maxHeartbeats 8000000 in
set_option maxRecDepth 100000 in
theorem big_number_result.calls (k : Nat) (A0_0 : Option Addr) (c0_0 : Nat) (l0_0 : List Int) (a0_1 : Bool) (a0_2 : Bool) (r1 : ByteArray) (r2 : Int) (w : World) (hr0_0 : Kd.C (Kd.int .u32) w A0_0 l0_0.length l0_0) (hc0_0 : l0_0.length ≤ c0_0) (h : big_number_result.f k l0_0 a0_1 a0_2 = some (r1, r2)) :
    Calls Tryz.prog 133 #[.agg #[.slice A0_0 l0_0.length c0_0, .bool a0_1, .bool a0_2]] w fun e w' => e = .returned (.tuple #[.string r1, .int .i64 r2]) ∧ Below w.heap.size w w' := by
  have hu139 := Tryz.underlying139
  have HR0_0 := Aside0.mk hr0_0
  have HC0_0 := Aside0.mk hc0_0
  clear hr0_0 hc0_0
  have HB := Aside0.mk (Below.refl w.heap.size w)
  have H : (if a0_2 = true then (some ((⟨#[]⟩ : ByteArray), 4)) else ((big_nat_bits.f k l0_0).bind fun t134 => (if t134 > 2010 then (some ((⟨#[]⟩ : ByteArray), 4)) else ((big_decimal.f k l0_0).bind fun t135 => (if (t135.size : Int) > 600 then (some ((⟨#[]⟩ : ByteArray), 4)) else ((big_number_text.f k l0_0 a0_1 a0_2 10).bind fun t136 => (some (t136, 0)))))))) = some (r1, r2) := h
  clear h
  by_cases c2 : a0_2 = true
  · subst c2
    have H1 : (some ((⟨#[]⟩ : ByteArray), 4)) = some (r1, r2) := by rw [if_pos rfl] at H; exact H
    clear H
    have H := H1
    clear H1
    simp only [Option.some.injEq, Prod.mk.injEq] at H
    obtain ⟨rfl, rfl⟩ := H
    go_enter Tryz.func133, Tryz.ntmps133
    go_wp2_with (first | ((with_reducible refine gate_dst (N := 1) rfl ?_); (try (refine gate_guard (by rfl) ?_; dsimp only)); refine box_event ?hg (N := 1) ?hd (cs := #[.slice A0_0 l0_0.length c0_0, .bool a0_1, .bool true]) (t := 139) ?hr ?_; (case hd => rfl); (case hg => rfl); (case hr => first | (go_simp; done) | (go_simp; rfl)); intro gb133 hg w3 hbox hb; have n0_ := Aside0.mk (below_step (by repeat (first | (with_reducible first | exact HB.out | apply below_alloc | apply pw_below_drewN | apply below_drew1) | exact HB.out)) hb); have n1_ := Aside0.mk (hbox); have n2_ := Aside0.mk ((by rw [hg]; exact (below_size (by repeat (first | (with_reducible first | exact HB.out | apply below_alloc | apply pw_below_drewN | apply below_drew1) | exact HB.out))) : w.heap.size ≤ gb133)); have n3_ := Aside0.mk ((by rw [hg]; exact (below_size (by repeat (first | (with_reducible first | exact HB.out | apply below_alloc | apply pw_below_drewN | apply below_drew1) | exact HB.out))) : w.heap.size ≤ gb133)); clear HB; have HB := n0_; have BK133 := n1_; have GW133 := n2_; have GE133 := n3_; clear n0_ n1_ n2_ n3_; clear hb hbox hg; have hcz4_0 : w3.cell? ⟨gb133, 0, none⟩ = some (.slice A0_0 l0_0.length c0_0) := (blk_cell BK133.out 0).trans rfl; have hcz4_1 : w3.cell? ⟨gb133, 1, none⟩ = some (.bool a0_1) := (blk_cell BK133.out 1).trans rfl; have hcz4_2 : w3.cell? ⟨gb133, 2, none⟩ = some (.bool true) := (blk_cell BK133.out 2).trans rfl; have hfz4_0 := blk_frozen BK133.out 0; have hfz4_1 := blk_frozen BK133.out 1; have hfz4_2 := blk_frozen BK133.out 2))
    go_ret2
    exact ⟨by first | rfl | (simp [errW_none, errW_some] <;> rfl) | (simp [*, errW_none, errW_some] <;> rfl), by repeat (first | (with_reducible first | exact HB.out | apply below_alloc | apply pw_below_drewN | apply below_drew1 | refine below_set ?_ GE133.out) | exact HB.out)⟩
  · replace c2 := Bool.eq_false_iff.mpr c2
    subst c2
    have H1 : ((big_nat_bits.f k l0_0).bind fun t134 => (if t134 > 2010 then (some ((⟨#[]⟩ : ByteArray), 4)) else ((big_decimal.f k l0_0).bind fun t135 => (if (t135.size : Int) > 600 then (some ((⟨#[]⟩ : ByteArray), 4)) else ((big_number_text.f k l0_0 a0_1 false 10).bind fun t136 => (some (t136, 0))))))) = some (r1, r2) := by rw [if_neg (show ¬ (false = true) by decide)] at H; exact H
    clear H
    have H := H1
    clear H1
    replace H := Option.bind_eq_some_iff.mp H
    obtain ⟨t134, A50, H⟩ := H
    replace H : (if t134 > 2010 then (some ((⟨#[]⟩ : ByteArray), 4)) else ((big_decimal.f k l0_0).bind fun t135 => (if (t135.size : Int) > 600 then (some ((⟨#[]⟩ : ByteArray), 4)) else ((big_number_text.f k l0_0 a0_1 false 10).bind fun t136 => (some (t136, 0)))))) = some (r1, r2) := H
    have A5 := Aside0.mk A50
    clear A50
    by_cases c6 : t134 > 2010
    · rw [if_pos c6] at H
      have c6b0 : decide (2010 < t134) = true := decide_eq_true c6
      clear c6
      simp only [Option.some.injEq, Prod.mk.injEq] at H
      obtain ⟨rfl, rfl⟩ := H
      go_enter Tryz.func133, Tryz.ntmps133
      go_wp2_with (first | ((with_reducible refine gate_dst (N := 1) rfl ?_); (try (refine gate_guard (by rfl) ?_; dsimp only)); refine box_event ?hg (N := 1) ?hd (cs := #[.slice A0_0 l0_0.length c0_0, .bool a0_1, .bool false]) (t := 139) ?hr ?_; (case hd => rfl); (case hg => rfl); (case hr => first | (go_simp; done) | (go_simp; rfl)); intro gb133 hg w7 hbox hb; have n0_ := Aside0.mk (below_step (by repeat (first | (with_reducible first | exact HB.out | apply below_alloc | apply pw_below_drewN | apply below_drew1) | exact HB.out)) hb); have n1_ := Aside0.mk (hbox); have n2_ := Aside0.mk ((by rw [hg]; exact (below_size (by repeat (first | (with_reducible first | exact HB.out | apply below_alloc | apply pw_below_drewN | apply below_drew1) | exact HB.out))) : w.heap.size ≤ gb133)); have n3_ := Aside0.mk ((by rw [hg]; exact (below_size (by repeat (first | (with_reducible first | exact HB.out | apply below_alloc | apply pw_below_drewN | apply below_drew1) | exact HB.out))) : w.heap.size ≤ gb133)); clear HB; have HB := n0_; have BK133 := n1_; have GW133 := n2_; have GE133 := n3_; clear n0_ n1_ n2_ n3_; clear hb hbox hg; have hcz8_0 : w7.cell? ⟨gb133, 0, none⟩ = some (.slice A0_0 l0_0.length c0_0) := (blk_cell BK133.out 0).trans rfl; have hcz8_1 : w7.cell? ⟨gb133, 1, none⟩ = some (.bool a0_1) := (blk_cell BK133.out 1).trans rfl; have hcz8_2 : w7.cell? ⟨gb133, 2, none⟩ = some (.bool false) := (blk_cell BK133.out 2).trans rfl; have hfz8_0 := blk_frozen BK133.out 0; have hfz8_1 := blk_frozen BK133.out 1; have hfz8_2 := blk_frozen BK133.out 2) | (go_at_call 166; (with_reducible refine (big_nat_bits.calls k _ _ l0_0 t134 _ ?side1 ?side2 A5.out).mono ?_); (case side1 => repeat (first | exact (Kd.C_below HR0_0.out HB.out) | (with_reducible refine Kd.C_alloc ?_ _) | (with_reducible refine Kd.C_drewN ?_ _) | (with_reducible refine Kd.C_drew ?_))); (case side2 => exact HC0_0.out); rintro e w' ⟨rfl, ⟨nd, rfl⟩⟩))
      go_ret2
      exact ⟨by first | rfl | (simp [errW_none, errW_some] <;> rfl) | (simp [*, errW_none, errW_some] <;> rfl), by repeat (first | (with_reducible first | exact HB.out | apply below_alloc | apply pw_below_drewN | apply below_drew1 | refine below_set ?_ GE133.out) | exact HB.out)⟩
    · rw [if_neg c6] at H
      have c6b0 : decide (2010 < t134) = false := decide_eq_false c6
      clear c6
      replace H := Option.bind_eq_some_iff.mp H
      obtain ⟨t135, A90, H⟩ := H
      replace H : (if (t135.size : Int) > 600 then (some ((⟨#[]⟩ : ByteArray), 4)) else ((big_number_text.f k l0_0 a0_1 false 10).bind fun t136 => (some (t136, 0)))) = some (r1, r2) := H
      have A9 := Aside0.mk A90
      clear A90
      by_cases c10 : (t135.size : Int) > 600
      · rw [if_pos c10] at H
        have c10b0 : decide (600 < (t135.size : Int)) = true := decide_eq_true c10
        have c10b1 : decide (600 < t135.size) = true := decide_eq_true (by omega)
        clear c10
        simp only [Option.some.injEq, Prod.mk.injEq] at H
        obtain ⟨rfl, rfl⟩ := H
        go_enter Tryz.func133, Tryz.ntmps133
        go_wp2_with (first | ((with_reducible refine gate_dst (N := 1) rfl ?_); (try (refine gate_guard (by rfl) ?_; dsimp only)); refine box_event ?hg (N := 1) ?hd (cs := #[.slice A0_0 l0_0.length c0_0, .bool a0_1, .bool false]) (t := 139) ?hr ?_; (case hd => rfl); (case hg => rfl); (case hr => first | (go_simp; done) | (go_simp; rfl)); intro gb133 hg w11 hbox hb; have n0_ := Aside0.mk (below_step (by repeat (first | (with_reducible first | exact HB.out | apply below_alloc | apply pw_below_drewN | apply below_drew1) | exact HB.out)) hb); have n1_ := Aside0.mk (hbox); have n2_ := Aside0.mk ((by rw [hg]; exact (below_size (by repeat (first | (with_reducible first | exact HB.out | apply below_alloc | apply pw_below_drewN | apply below_drew1) | exact HB.out))) : w.heap.size ≤ gb133)); have n3_ := Aside0.mk ((by rw [hg]; exact (below_size (by repeat (first | (with_reducible first | exact HB.out | apply below_alloc | apply pw_below_drewN | apply below_drew1) | exact HB.out))) : w.heap.size ≤ gb133)); clear HB; have HB := n0_; have BK133 := n1_; have GW133 := n2_; have GE133 := n3_; clear n0_ n1_ n2_ n3_; clear hb hbox hg; have hcz12_0 : w11.cell? ⟨gb133, 0, none⟩ = some (.slice A0_0 l0_0.length c0_0) := (blk_cell BK133.out 0).trans rfl; have hcz12_1 : w11.cell? ⟨gb133, 1, none⟩ = some (.bool a0_1) := (blk_cell BK133.out 1).trans rfl; have hcz12_2 : w11.cell? ⟨gb133, 2, none⟩ = some (.bool false) := (blk_cell BK133.out 2).trans rfl; have hfz12_0 := blk_frozen BK133.out 0; have hfz12_1 := blk_frozen BK133.out 1; have hfz12_2 := blk_frozen BK133.out 2) | (go_at_call 166; (with_reducible refine (big_nat_bits.calls k _ _ l0_0 t134 _ ?side1 ?side2 A5.out).mono ?_); (case side1 => repeat (first | exact (Kd.C_below HR0_0.out HB.out) | (with_reducible refine Kd.C_alloc ?_ _) | (with_reducible refine Kd.C_drewN ?_ _) | (with_reducible refine Kd.C_drew ?_))); (case side2 => exact HC0_0.out); rintro e w' ⟨rfl, ⟨nd, rfl⟩⟩) | (go_at_call 168; (with_reducible refine (big_decimal.calls k _ _ l0_0 t135 _ ?side1 ?side2 A9.out).mono ?_); (case side1 => repeat (first | exact (Kd.C_below HR0_0.out (by repeat (first | (with_reducible first | exact HB.out | apply below_alloc | apply pw_below_drewN | apply below_drew1 | refine below_set ?_ GE133.out) | exact HB.out))) | (with_reducible refine Kd.C_alloc ?_ _) | (with_reducible refine Kd.C_drewN ?_ _) | (with_reducible refine Kd.C_drew ?_))); (case side2 => exact HC0_0.out); rintro e w13 ⟨rfl, hb⟩; have n0_ := Aside0.mk (blk_below (g := gb133) (o := .cells #[.slice A0_0 l0_0.length c0_0, .bool a0_1, .bool false] 139 (0, 0)) (by (with_reducible repeat (first | refine blk_drewN ?_ _ | refine blk_drew ?_ | refine blk_alloc ?_ _)); exact BK133.out) hb); have n1_ := Aside0.mk (below_step (by repeat (first | (with_reducible first | exact HB.out | apply below_alloc | apply pw_below_drewN | apply below_drew1 | refine below_set ?_ GE133.out) | exact HB.out)) hb); clear BK133; clear HB; have BK133 := n0_; have HB := n1_; clear n0_ n1_; (try clear hb); (try clear hb2); (try clear hk); (try clear hi)))
        go_ret2
        exact ⟨by first | rfl | (simp [errW_none, errW_some] <;> rfl) | (simp [*, errW_none, errW_some] <;> rfl), by repeat (first | (with_reducible first | exact HB.out | apply below_alloc | apply pw_below_drewN | apply below_drew1 | refine below_set ?_ GE133.out) | exact HB.out)⟩
      · rw [if_neg c10] at H
        have c10b0 : decide (600 < (t135.size : Int)) = false := decide_eq_false c10
        have c10b1 : decide (600 < t135.size) = false := decide_eq_false (by omega)
        clear c10
        replace H := Option.bind_eq_some_iff.mp H
        obtain ⟨t136, A140, H⟩ := H
        replace H : (some (t136, 0)) = some (r1, r2) := H
        have A14 := Aside0.mk A140
        clear A140
        simp only [Option.some.injEq, Prod.mk.injEq] at H
        obtain ⟨rfl, rfl⟩ := H
        go_enter Tryz.func133, Tryz.ntmps133
        go_wp2_with (first | ((with_reducible refine gate_dst (N := 1) rfl ?_); (try (refine gate_guard (by rfl) ?_; dsimp only)); refine box_event ?hg (N := 1) ?hd (cs := #[.slice A0_0 l0_0.length c0_0, .bool a0_1, .bool false]) (t := 139) ?hr ?_; (case hd => rfl); (case hg => rfl); (case hr => first | (go_simp; done) | (go_simp; rfl)); intro gb133 hg w15 hbox hb; have n0_ := Aside0.mk (below_step (by repeat (first | (with_reducible first | exact HB.out | apply below_alloc | apply pw_below_drewN | apply below_drew1) | exact HB.out)) hb); have n1_ := Aside0.mk (hbox); have n2_ := Aside0.mk ((by rw [hg]; exact (below_size (by repeat (first | (with_reducible first | exact HB.out | apply below_alloc | apply pw_below_drewN | apply below_drew1) | exact HB.out))) : w.heap.size ≤ gb133)); have n3_ := Aside0.mk ((by rw [hg]; exact (below_size (by repeat (first | (with_reducible first | exact HB.out | apply below_alloc | apply pw_below_drewN | apply below_drew1) | exact HB.out))) : w.heap.size ≤ gb133)); clear HB; have HB := n0_; have BK133 := n1_; have GW133 := n2_; have GE133 := n3_; clear n0_ n1_ n2_ n3_; clear hb hbox hg; have hcz16_0 : w15.cell? ⟨gb133, 0, none⟩ = some (.slice A0_0 l0_0.length c0_0) := (blk_cell BK133.out 0).trans rfl; have hcz16_1 : w15.cell? ⟨gb133, 1, none⟩ = some (.bool a0_1) := (blk_cell BK133.out 1).trans rfl; have hcz16_2 : w15.cell? ⟨gb133, 2, none⟩ = some (.bool false) := (blk_cell BK133.out 2).trans rfl; have hfz16_0 := blk_frozen BK133.out 0; have hfz16_1 := blk_frozen BK133.out 1; have hfz16_2 := blk_frozen BK133.out 2) | (go_at_call 166; (with_reducible refine (big_nat_bits.calls k _ _ l0_0 t134 _ ?side1 ?side2 A5.out).mono ?_); (case side1 => repeat (first | exact (Kd.C_below HR0_0.out HB.out) | (with_reducible refine Kd.C_alloc ?_ _) | (with_reducible refine Kd.C_drewN ?_ _) | (with_reducible refine Kd.C_drew ?_))); (case side2 => exact HC0_0.out); rintro e w' ⟨rfl, ⟨nd, rfl⟩⟩) | (go_at_call 168; (with_reducible refine (big_decimal.calls k _ _ l0_0 t135 _ ?side1 ?side2 A9.out).mono ?_); (case side1 => repeat (first | exact (Kd.C_below HR0_0.out (by repeat (first | (with_reducible first | exact HB.out | apply below_alloc | apply pw_below_drewN | apply below_drew1 | refine below_set ?_ GE133.out) | exact HB.out))) | (with_reducible refine Kd.C_alloc ?_ _) | (with_reducible refine Kd.C_drewN ?_ _) | (with_reducible refine Kd.C_drew ?_))); (case side2 => exact HC0_0.out); rintro e w17 ⟨rfl, hb⟩; have n0_ := Aside0.mk (blk_below (g := gb133) (o := .cells #[.slice A0_0 l0_0.length c0_0, .bool a0_1, .bool false] 139 (0, 0)) (by (with_reducible repeat (first | refine blk_drewN ?_ _ | refine blk_drew ?_ | refine blk_alloc ?_ _)); exact BK133.out) hb); have n1_ := Aside0.mk (below_step (by repeat (first | (with_reducible first | exact HB.out | apply below_alloc | apply pw_below_drewN | apply below_drew1 | refine below_set ?_ GE133.out) | exact HB.out)) hb); clear BK133; clear HB; have BK133 := n0_; have HB := n1_; clear n0_ n1_; (try clear hb); (try clear hb2); (try clear hk); (try clear hi); have hcz18_0 : w17.cell? ⟨gb133, 0, none⟩ = some (.slice A0_0 l0_0.length c0_0) := (blk_cell BK133.out 0).trans rfl; have hcz18_1 : w17.cell? ⟨gb133, 1, none⟩ = some (.bool a0_1) := (blk_cell BK133.out 1).trans rfl; have hcz18_2 : w17.cell? ⟨gb133, 2, none⟩ = some (.bool false) := (blk_cell BK133.out 2).trans rfl; have hfz18_0 := blk_frozen BK133.out 0; have hfz18_1 := blk_frozen BK133.out 1; have hfz18_2 := blk_frozen BK133.out 2) | ((with_reducible refine gate_callee (f := 111) rfl ?_); refine goesL_ (some 20) rfl rfl Tryz.func111 (by kernel_rfl) rfl #[.agg #[.slice A0_0 l0_0.length c0_0, .bool a0_1, .bool false], .int .i64 10] rfl (by (try simp only [List.map_toArray, List.map_cons, List.map_nil]); first | done | rfl | (simp only [List.length_drop, List.length_take]; rfl)) ?_; (with_reducible refine (big_number_text.calls k _ _ l0_0 a0_1 false 10 t136 _ ?side1 ?side2 A14.out).mono ?_); (case side1 => repeat (first | exact (Kd.C_below HR0_0.out HB.out) | (with_reducible refine Kd.C_alloc ?_ _) | (with_reducible refine Kd.C_drewN ?_ _) | (with_reducible refine Kd.C_drew ?_))); (case side2 => exact HC0_0.out); rintro e w19 ⟨rfl, hb⟩; refine ⟨_, rfl, ?_⟩; have n0_ := Aside0.mk (blk_below (g := gb133) (o := .cells #[.slice A0_0 l0_0.length c0_0, .bool a0_1, .bool false] 139 (0, 0)) (by (with_reducible repeat (first | refine blk_drewN ?_ _ | refine blk_drew ?_ | refine blk_alloc ?_ _)); exact BK133.out) hb); have n1_ := Aside0.mk (below_step (by repeat (first | (with_reducible first | exact HB.out | apply below_alloc | apply pw_below_drewN | apply below_drew1 | refine below_set ?_ GE133.out) | exact HB.out)) hb); clear BK133; clear HB; have BK133 := n0_; have HB := n1_; clear n0_ n1_; (try clear hb); (try clear hb2); (try clear hk); (try clear hi)))
        go_ret2
        exact ⟨by first | rfl | (simp [errW_none, errW_some] <;> rfl) | (simp [*, errW_none, errW_some] <;> rfl), by repeat (first | (with_reducible first | exact HB.out | apply below_alloc | apply pw_below_drewN | apply below_drew1 | refine below_set ?_ GE133.out) | exact HB.out)⟩
end Go.Proofs.YtemogjpgkcbaiaaGreatDoor.Sp
end
section
namespace Go.Proofs.YtemogjpgkcbaiaaGreatDoor.Sp
open Go.RowKit Go.Proofs.YtemogjpgkcbaiaaGreatDoorW.PrintWords Go.Proofs.YtemogjpgkcbaiaaGreatDoorW.PrintLast Go.Proofs.YtemogjpgkcbaiaaGreatDoorW.PrintMore
set_option linter.unusedVariables false
set_option linter.unusedSimpArgs false
def leN (b n : Nat) : List Nat := if h : n = 0 ∨ b < 2 then [] else n % b :: leN b (n / b)
termination_by n
decreasing_by exact Nat.div_lt_self (by omega) (by omega)
def vN (b : Nat) : List Nat → Nat
  | [] => 0
  | d :: l => d + b * vN b l
theorem leN_zero (b : Nat) : leN b 0 = [] := by rw [leN, dif_pos (.inl rfl)]
theorem leN_pos {b n : Nat} (hb : 2 ≤ b) (hn : n ≠ 0) : leN b n = n % b :: leN b (n / b) := by rw [leN, dif_neg (by omega)]
theorem vN_leN {b : Nat} (hb : 2 ≤ b) (n : Nat) : vN b (leN b n) = n := by
  induction n using Nat.strongRecOn with
  | _ n ih =>
    by_cases hn : n = 0
    · subst hn; rw [leN_zero]; rfl
    · rw [leN_pos hb hn, vN, ih _ (Nat.div_lt_self (by omega) (by omega)), Nat.mod_add_div]
theorem leN_dg {b : Nat} (hb : 2 ≤ b) (n : Nat) : ∀ d ∈ leN b n, d < b := by
  induction n using Nat.strongRecOn with
  | _ n ih =>
    intro d hd
    by_cases hn : n = 0
    · subst hn; rw [leN_zero] at hd; cases hd
    · rw [leN_pos hb hn] at hd
      rcases List.mem_cons.1 hd with rfl | h
      · exact Nat.mod_lt _ (by omega)
      · exact ih _ (Nat.div_lt_self (by omega) (by omega)) d h
theorem leN_of {b : Nat} (hb : 2 ≤ b) : ∀ l : List Nat, (∀ d ∈ l, d < b) → l.getLast? ≠ some 0 → leN b (vN b l) = l
  | [], _, _ => leN_zero b
  | d :: l, hd, ht => by
    have h0 := hd d (by simp)
    have ih := leN_of hb l (fun x hx => hd x (by simp [hx]))
    rw [vN]
    cases l with
    | nil =>
      have : d ≠ 0 := fun e => ht (by rw [e]; rfl)
      rw [vN, Nat.mul_zero, Nat.add_zero, leN_pos hb this, Nat.mod_eq_of_lt h0, Nat.div_eq_of_lt h0, leN_zero]
    | cons x l =>
      have ih := ih (by rw [List.getLast?_cons_cons] at ht; exact ht)
      have hne : vN b (x :: l) ≠ 0 := fun e => by rw [e, leN_zero] at ih; cases ih
      have hpos : b * vN b (x :: l) ≠ 0 := Nat.mul_ne_zero (by omega) hne
      rw [leN_pos hb (by omega), Nat.add_mul_mod_self_left, Nat.mod_eq_of_lt h0, Nat.add_mul_div_left _ _ (by omega), Nat.div_eq_of_lt h0, Nat.zero_add, ih]
theorem leN_length {b : Nat} (hb : 2 ≤ b) : ∀ k n : Nat, (leN b n).length ≤ k ↔ n < b ^ k
  | 0, n => by
    by_cases hn : n = 0
    · subst hn; rw [leN_zero]; simp
    · rw [leN_pos hb hn]; simp; omega
  | k + 1, n => by
    by_cases hn : n = 0
    · subst hn; rw [leN_zero]; simp; exact Nat.pow_pos (by omega)
    · rw [leN_pos hb hn, List.length_cons, Nat.add_le_add_iff_right, leN_length hb k, Nat.pow_succ, Nat.div_lt_iff_lt_mul (by omega)]
theorem leN_nil {b n : Nat} (hb : 2 ≤ b) : leN b n = [] ↔ n = 0 := by
  constructor
  · intro h
    by_cases hn : n = 0
    · exact hn
    · rw [leN_pos hb hn] at h; cases h
  · rintro rfl; exact leN_zero b
theorem vN_append (b : Nat) : ∀ l m : List Nat, vN b (l ++ m) = vN b l + b ^ l.length * vN b m
  | [], m => by simp [vN]
  | d :: l, m => by
    rw [List.cons_append, vN, vN, vN_append b l m, List.length_cons, Nat.pow_succ, Nat.mul_add]
    rw [← Nat.add_assoc, Nat.mul_comm (b ^ l.length) b, Nat.mul_assoc]
theorem vN_lt {b : Nat} (hb : 2 ≤ b) : ∀ l : List Nat, (∀ d ∈ l, d < b) → vN b l < b ^ l.length
  | [], _ => by simp [vN]
  | d :: l, h => by
    have h0 := h d (by simp)
    have ih := vN_lt hb l (fun x hx => h x (by simp [hx]))
    rw [vN, List.length_cons, Nat.pow_succ, Nat.mul_comm _ b]
    have : b * (vN b l + 1) ≤ b * b ^ l.length := Nat.mul_le_mul_left _ ih
    rw [Nat.mul_add] at this
    omega
def ci (l : List Nat) : List Int := l.map (fun n : Nat => (n : Int))
theorem ci_len (l : List Nat) : (ci l).length = l.length := by simp [ci]
theorem ci_append (l m : List Nat) : ci (l ++ m) = ci l ++ ci m := by simp [ci]
theorem rd_ci (l : List Nat) (i : Int) : rd (ci l) i = ((l.getD i.toNat 0 : Nat) : Int) := by
  unfold rd ci
  rw [List.getD_eq_getElem?_getD, List.getD_eq_getElem?_getD, List.getElem?_map]
  cases l[i.toNat]? <;> rfl
theorem ci_take (l : List Nat) (n : Nat) : (ci l).take n = ci (l.take n) := by simp [ci, List.map_take]
theorem ci_set (l : List Nat) (n x : Nat) : (ci l).set n (x : Int) = ci (l.set n x) := by simp [ci, List.map_set]
def B32 : Nat := 4294967296
theorem B32_2 : 2 ≤ B32 := by decide
theorem take_succ_getD (l : List Nat) (n : Nat) (h : n < l.length) : l.take (n + 1) = l.take n ++ [l.getD n 0] := by
  rw [List.take_succ_eq_append_getElem h, List.getD_eq_getElem?_getD, List.getElem?_eq_getElem h]; rfl
theorem trim_gen {b : Nat} (hb : 2 ≤ b) (F : Nat → List Int → Int → Option (List Int))
    (hF : ∀ k x0 x3, F (k + 1) x0 x3 = if x3 > 0 then (if 0 ≤ (wrap64 (x3 - 1)) then (if (wrap64 (x3 - 1)) < (x0.length : Int) then (if (rd x0 (wrap64 (x3 - 1))) = 0 then (F k x0 (wrap64 (x3 - 1))) else (if 0 ≤ x3 then (if x3 ≤ (x0.length : Int) then (some (x0.take (x3 : Int).toNat)) else (none)) else (none))) else (none)) else (none)) else (if 0 ≤ x3 then (if x3 ≤ (x0.length : Int) then (some (x0.take (x3 : Int).toNat)) else (none)) else (none)))
    (l : List Nat) (hl : l.length ≤ 1000000) (hd : ∀ d ∈ l, d < b) : ∀ n k : Nat, n ≤ l.length → n < k → F k (ci l) n = some (ci (leN b (vN b (l.take n))))
  | 0, k, hn, hk => by
    obtain ⟨k, rfl⟩ : ∃ q, k = q + 1 := ⟨k - 1, by omega⟩
    rw [hF, if_neg (by omega), if_pos (by omega), if_pos (by rw [ci_len]; omega)]
    simp [vN, leN_zero, ci]
  | n + 1, k, hn, hk => by
    obtain ⟨k, rfl⟩ : ∃ q, k = q + 1 := ⟨k - 1, by omega⟩
    have hw : wrap64 (((n + 1 : Nat) : Int) - 1) = (n : Int) := by unfold wrap64; omega
    rw [hF, hw, if_pos (by omega), if_pos (by omega), if_pos (by rw [ci_len]; omega), rd_ci, Int.toNat_natCast]
    have ht := take_succ_getD l n (by omega)
    by_cases h0 : l.getD n 0 = 0
    · rw [if_pos (by rw [h0]; rfl), trim_gen hb F hF l hl hd n k (by omega) (by omega), ht, vN_append, h0]
      simp [vN]
    · rw [if_neg (by omega), if_pos (by omega), if_pos (by rw [ci_len]; omega), Int.toNat_natCast, ci_take]
      rw [leN_of hb _ (fun d h => hd d (List.mem_of_mem_take h)) (by rw [ht]; simp; exact h0)]
theorem u64_small {x : Int} (h0 : 0 ≤ x) (h1 : x < 18446744073709551616) : IntKind.u64.wrap x = x := by
  simp only [IntKind.wrap, IntKind.bits, IntKind.signed]; simp; omega
theorem small_trim (l : List Nat) (hl : l.length ≤ 1000000) (hd : ∀ d ∈ l, d < B32) (k : Nat) (hk : l.length < k) : Psmall.big_nat_trimmed.f k (ci l) = some (ci (leN B32 (vN B32 l))) := by
  unfold Psmall.big_nat_trimmed.f
  rw [ci_len]
  have := trim_gen B32_2 Psmall.big_nat_trimmed.l0 (fun _ _ _ => rfl) l hl hd l.length k (Nat.le_refl _) hk
  rwa [List.take_length] at this
theorem by_trim (l : List Nat) (hl : l.length ≤ 1000000) (hd : ∀ d ∈ l, d < B32) (k : Nat) (hk : l.length < k) : Pby.big_nat_trimmed.f k (ci l) = some (ci (leN B32 (vN B32 l))) := by
  unfold Pby.big_nat_trimmed.f
  rw [ci_len]
  have := trim_gen B32_2 Pby.big_nat_trimmed.l0 (fun _ _ _ => rfl) l hl hd l.length k (Nat.le_refl _) hk
  rwa [List.take_length] at this
theorem small_l0 (a : Nat) (ha : a < B32) (l : List Nat) (hl : l.length ≤ 100000) (hd : ∀ d ∈ l, d < B32) : ∀ (m k i c : Nat) (out : List Nat), i + m = l.length → out.length = i → (∀ d ∈ out, d < B32) → c < B32 → l.length + m + 3 < k →
    Psmall.big_nat_small.l0 k (a : Int) (ci out) (c : Int) (ci l) (l.length : Int) (i : Int) = some (ci (leN B32 (vN B32 out + B32 ^ i * (c + a * vN B32 (l.drop i)))))
  | 0, k, i, c, out, him, ho, hod, hc, hk => by
    obtain ⟨k, rfl⟩ : ∃ q, k = q + 1 := ⟨k - 1, by omega⟩
    unfold B32 at hc
    simp only [Psmall.big_nat_small.l0]
    rw [if_neg (by omega), if_pos (by rw [ci_len]; omega), show ((c : Int) % 4294967296) = (c : Int) from by omega, show ci out ++ [(c : Int)] = ci (out ++ [c]) from by rw [ci_append]; rfl]
    rw [small_trim _ (by simp; omega) (by intro d h; rcases List.mem_append.1 h with h | h; exact hod d h; rw [List.mem_singleton.1 h]; unfold B32; omega) k (by simp; omega)]
    simp only [Option.bind_some]
    rw [vN_append, ho, List.drop_of_length_le (by omega)]
    simp [vN]
  | m + 1, k, i, c, out, him, ho, hod, hc, hk => by
    obtain ⟨k, rfl⟩ : ∃ q, k = q + 1 := ⟨k - 1, by omega⟩
    have hdi : l.getD i 0 < B32 := by rw [List.getD_eq_getElem?_getD, List.getElem?_eq_getElem (by omega)]; exact hd _ (List.getElem_mem _)
    have hdrop : l.drop i = l.getD i 0 :: l.drop (i + 1) := by rw [List.drop_eq_getElem_cons (by omega), List.getD_eq_getElem?_getD, List.getElem?_eq_getElem (by omega)]; rfl
    generalize hd0 : l.getD i 0 = d at *
    have hprod : d * a ≤ 4294967295 * 4294967295 := Nat.mul_le_mul (by unfold B32 at hdi; omega) (by unfold B32 at ha; omega)
    simp only [Psmall.big_nat_small.l0]
    rw [if_pos (by omega), if_pos (by omega), if_pos (by rw [ci_len]; omega), if_pos (by rw [ci_len]; omega), rd_ci, Int.toNat_natCast, hd0]
    unfold B32 at hdi ha hc
    rw [u64_small (x := (d : Int)) (by omega) (by omega), u64_small (x := (a : Int)) (by omega) (by omega)]
    rw [show (d : Int) * (a : Int) = ((d * a : Nat) : Int) from by simp, u64_small (x := ((d * a : Nat) : Int)) (by omega) (by omega), u64_small (by omega) (by omega)]
    rw [show ((c : Int) + ((d * a : Nat) : Int)) % 4294967296 = (((c + d * a) % B32 : Nat) : Int) from by unfold B32; omega, show ((c : Int) + ((d * a : Nat) : Int)) / 4294967296 = (((c + d * a) / B32 : Nat) : Int) from by unfold B32; omega]
    rw [show wrap64 ((i : Int) + 1) = ((i + 1 : Nat) : Int) from by unfold wrap64; omega, show ci out ++ [(((c + d * a) % B32 : Nat) : Int)] = ci (out ++ [(c + d * a) % B32]) from by rw [ci_append]; rfl]
    rw [small_l0 a (by unfold B32; omega) l hl hd m k (i + 1) ((c + d * a) / B32) (out ++ [(c + d * a) % B32]) (by omega) (by simp; omega) (by intro x h; rcases List.mem_append.1 h with h | h; exact hod x h; rw [List.mem_singleton.1 h]; exact Nat.mod_lt _ (by decide)) (by unfold B32; omega) (by omega)]
    congr 3
    rw [vN_append, ho, hdrop, Nat.pow_succ]
    simp only [vN, Nat.mul_zero, Nat.add_zero]
    have e := Nat.mod_add_div (c + d * a) B32
    generalize vN B32 (l.drop (i + 1)) = V at *
    generalize (c + d * a) % B32 = x at *
    generalize (c + d * a) / B32 = y at *
    rw [Nat.add_assoc, Nat.mul_assoc, ← Nat.mul_add]
    congr 2
    rw [Nat.mul_add, ← Nat.add_assoc, e, Nat.mul_add a, Nat.mul_comm d a, Nat.add_assoc, Nat.mul_left_comm]
theorem small_f (v a c : Nat) (ha : a < B32) (hc : c < B32) (hv : (leN B32 v).length ≤ 1000) (k : Nat) (hk : 3000 ≤ k) :
    Psmall.big_nat_small.f k (ci (leN B32 v)) (a : Int) (c : Int) = some (ci (leN B32 (c + a * v))) := by
  unfold Psmall.big_nat_small.f
  unfold B32 at hc
  rw [u64_small (by omega) (by omega), ci_len]
  have := small_l0 a ha (leN B32 v) (by omega) (leN_dg B32_2 v) (leN B32 v).length k 0 c [] (by omega) rfl (by simp) hc (by omega)
  rw [show ci [] = ([] : List Int) from rfl] at this
  simp only [Int.natCast_zero] at this
  rw [this, List.drop_zero, vN_leN B32_2]
  simp [vN]
end Go.Proofs.YtemogjpgkcbaiaaGreatDoor.Sp
end
section
namespace Go.Proofs.YtemogjpgkcbaiaaGreatDoor.Sp
open Go.RowKit Go.Proofs.YtemogjpgkcbaiaaGreatDoorW.PrintWords Go.Proofs.YtemogjpgkcbaiaaGreatDoorW.PrintLast Go.Proofs.YtemogjpgkcbaiaaGreatDoorW.PrintMore
set_option linter.unusedVariables false
set_option linter.unusedSimpArgs false
theorem vN_digit (b : Nat) (hb : 2 ≤ b) : ∀ (l : List Nat) (q : Nat), (∀ d ∈ l, d < b) → l.getD q 0 = vN b l / b ^ q % b
  | [], q, _ => by simp [vN]
  | d :: l, 0, h => by
    have h0 := h d (by simp)
    simp [vN, Nat.mod_eq_of_lt h0]
  | d :: l, q + 1, h => by
    have h0 := h d (by simp)
    rw [List.getD_cons_succ, vN_digit b hb l q (fun x hx => h x (by simp [hx])), vN, Nat.pow_succ, Nat.mul_comm (b ^ q) b, ← Nat.div_div_eq_div_mul, Nat.add_mul_div_left _ _ (by omega), Nat.div_eq_of_lt h0, Nat.zero_add]
theorem at_f (l : List Nat) (i : Nat) : Pbits.big_nat_at.f (ci l) (i : Int) = some ((l.getD i 0 : Nat) : Int) := by
  unfold Pbits.big_nat_at.f
  by_cases h : i < l.length
  · rw [if_pos (by rw [ci_len]; omega), if_pos (by omega), rd_ci, Int.toNat_natCast]
  · rw [if_neg (by rw [ci_len]; omega), List.getD_eq_getElem?_getD, List.getElem?_eq_none (by omega)]; rfl
theorem wraps_u32 (n : Int) (h₀ : 0 ≤ n) (h₁ : n < 2 ^ 32) : IntKind.u32.wrap n = n := by rw [IntKind.wrap_u32]; omega
theorem wraps_u64 (n : Int) (h₀ : 0 ≤ n) (h₁ : n < 2 ^ 64) : IntKind.u64.wrap n = n := u64_small h₀ (by omega)
theorem bit_f (l : List Nat) (hd : ∀ d ∈ l, d < B32) (i : Nat) (hi : i < 100000000) : Pbits.big_nat_bit.f (ci l) (i : Int) = some ((vN B32 l).testBit i) := by
  unfold Pbits.big_nat_bit.f
  have h1 : wrap64 (Int.tdiv (i : Int) 32) = ((i / 32 : Nat) : Int) := by
    rw [Int.tdiv_eq_ediv_of_nonneg (by omega)]; unfold wrap64; omega
  have h2 : Int.tmod (i : Int) 32 = ((i % 32 : Nat) : Int) := by
    rw [Int.tmod_eq_emod_of_nonneg (by omega)]; omega
  rw [h1, at_f, vN_digit B32 B32_2 l _ hd]
  simp only [Option.bind_some]
  rw [h2, if_pos (by omega)]
  congr 1
  have hr : i % 32 < 32 := Nat.mod_lt _ (by decide)
  unfold shr
  have hb : IntKind.bits .u32 = 32 := rfl
  rw [Int.toNat_natCast, hb, Nat.min_eq_left (by omega)]
  have hx : ((vN B32 l / B32 ^ (i / 32) % B32 : Nat) : Int) / 2 ^ (i % 32) = ((vN B32 l / B32 ^ (i / 32) % B32 / 2 ^ (i % 32) : Nat) : Int) := by
    rw [Int.natCast_ediv]; simp
  rw [hx]
  have hlt : vN B32 l / B32 ^ (i / 32) % B32 / 2 ^ (i % 32) < B32 := Nat.lt_of_le_of_lt (Nat.div_le_self _ _) (Nat.mod_lt _ (by decide))
  have hm : ∀ Y : Nat, Y < B32 → bits .and .u32 (Y : Int) 1 = ((Y % 2 : Nat) : Int) := by
    intro Y hY
    have hm := bits_mask .u32 32 (by decide) wraps_u32 1 (by decide) (Y : Int) (by omega) (by unfold B32 at hY; omega)
    rw [show ((2 : Int) ^ 1 - 1) = 1 from rfl] at hm
    rw [hm]; omega
  rw [hm _ hlt]
  have hB : B32 ^ (i / 32) = 2 ^ (32 * (i / 32)) := by unfold B32; rw [Nat.pow_mul]
  have key : (vN B32 l / B32 ^ (i / 32) % B32).testBit (i % 32) = (vN B32 l).testBit i := by
    rw [hB, show B32 = 2 ^ 32 from rfl, Nat.testBit_mod_two_pow, Nat.testBit_div_two_pow]
    rw [show i % 32 + 32 * (i / 32) = i from by omega]
    simp [hr]
  rw [← key, Nat.testBit_eq_decide_div_mod_eq]
  generalize vN B32 l / B32 ^ (i / 32) % B32 / 2 ^ (i % 32) = y
  rw [Bool.eq_iff_iff, beq_iff_eq, decide_eq_true_eq]
  omega
theorem bits_l0 (l : List Nat) (hd : ∀ d ∈ l, d < B32) : ∀ (n k : Nat), n < 100000000 → vN B32 l < 2 ^ n → n < k → ∃ r : Nat, Pbits.big_nat_bits.l0 k (ci l) (n : Int) = some (r : Int) ∧ vN B32 l < 2 ^ r ∧ (r = 0 ∨ 2 ^ (r - 1) ≤ vN B32 l)
  | 0, k, hn, hv, hk => by
    obtain ⟨k, rfl⟩ : ∃ q, k = q + 1 := ⟨k - 1, by omega⟩
    simp only [Pbits.big_nat_bits.l0]
    rw [if_neg (by omega)]
    exact ⟨0, rfl, hv, .inl rfl⟩
  | n + 1, k, hn, hv, hk => by
    obtain ⟨k, rfl⟩ : ∃ q, k = q + 1 := ⟨k - 1, by omega⟩
    simp only [Pbits.big_nat_bits.l0]
    rw [if_pos (by omega), show wrap64 (((n + 1 : Nat) : Int) - 1) = (n : Int) from by unfold wrap64; omega, bit_f l hd n (by omega)]
    simp only [Option.bind_some]
    by_cases ht : (vN B32 l).testBit n = true
    · rw [if_pos ht]
      exact ⟨n + 1, rfl, hv, .inr (by rw [Nat.add_sub_cancel]; exact Nat.ge_two_pow_of_testBit ht)⟩
    · rw [if_neg ht]
      refine bits_l0 l hd n k (by omega) ?_ (by omega)
      have h2 : (vN B32 l).testBit n = false := by simpa using ht
      rw [Nat.testBit_eq_decide_div_mod_eq] at h2
      have h3 : vN B32 l / 2 ^ n < 2 := by rw [Nat.div_lt_iff_lt_mul (Nat.two_pow_pos n), ← Nat.pow_succ']; exact hv
      have h4 : vN B32 l / 2 ^ n % 2 ≠ 1 := of_decide_eq_false h2
      have h5 : vN B32 l / 2 ^ n = 0 := by
        generalize vN B32 l / 2 ^ n = z at *
        omega
      rcases Nat.div_eq_zero_iff.1 h5 with h | h
      · have := Nat.two_pow_pos n; omega
      · exact h
theorem bits_f (M : Nat) (hM : M = 2010) (l : List Nat) (hl : l.length ≤ 100000) (hd : ∀ d ∈ l, d < B32) (k : Nat) (hk : 32 * l.length < k) : ∃ r : Int, Pbits.big_nat_bits.f k (ci l) = some r ∧ (r > 2010 ↔ 2 ^ M ≤ vN B32 l) := by
  unfold Pbits.big_nat_bits.f
  rw [ci_len, show wrap64 (32 * (l.length : Int)) = ((32 * l.length : Nat) : Int) from by unfold wrap64; omega]
  have hv : vN B32 l < 2 ^ (32 * l.length) := by rw [Nat.pow_mul]; exact vN_lt B32_2 l hd
  obtain ⟨r, h1, h2, h3⟩ := bits_l0 l hd (32 * l.length) k (by omega) hv hk
  refine ⟨r, h1, ?_⟩
  constructor
  · intro h
    rcases h3 with h3 | h3
    · omega
    · exact Nat.le_trans (Nat.pow_le_pow_right (by decide) (by omega)) h3
  · intro h
    have := Nat.lt_of_le_of_lt h h2
    have := (Nat.pow_lt_pow_iff_right (a := 2) (by decide)).1 this
    omega
theorem by_l0 (a : Nat) (ha0 : 0 < a) (ha : a < B32) (l : List Nat) (hl : l.length ≤ 100000) (hd : ∀ d ∈ l, d < B32) : ∀ (n k rest : Nat) (out : List Nat), n ≤ l.length → out.length = l.length → (∀ d ∈ out, d < B32) → rest < a → l.length + n + 3 < k →
    Pby.big_nat_by.l0 k (ci l) (a : Int) (ci out) (rest : Int) ((n : Int) - 1) = some (ci (leN B32 ((B32 ^ n * (vN B32 (out.drop n) * a + rest) + vN B32 (l.take n)) / a)), (((B32 ^ n * (vN B32 (out.drop n) * a + rest) + vN B32 (l.take n)) % a : Nat) : Int))
  | 0, k, rest, out, hn, ho, hod, hr, hk => by
    obtain ⟨k, rfl⟩ : ∃ q, k = q + 1 := ⟨k - 1, by omega⟩
    unfold B32 at ha
    simp only [Pby.big_nat_by.l0]
    rw [if_neg (by omega), by_trim out (by omega) hod k (by omega)]
    simp only [Option.bind_some, Nat.pow_zero, Nat.one_mul, List.drop_zero, List.take_zero, vN, Nat.add_zero]
    rw [Nat.mul_comm _ a, Nat.mul_add_div ha0, Nat.div_eq_of_lt hr, Nat.add_zero, Nat.mul_add_mod, Nat.mod_eq_of_lt hr]
    congr 2
    omega
  | n + 1, k, rest, out, hn, ho, hod, hr, hk => by
    obtain ⟨k, rfl⟩ : ∃ q, k = q + 1 := ⟨k - 1, by omega⟩
    have hdi : l.getD n 0 < B32 := by rw [List.getD_eq_getElem?_getD, List.getElem?_eq_getElem (by omega)]; exact hd _ (List.getElem_mem _)
    have ht := take_succ_getD l n (by omega)
    generalize hd0 : l.getD n 0 = d at *
    simp only [Pby.big_nat_by.l0]
    rw [show ((n + 1 : Nat) : Int) - 1 = (n : Int) from by omega]
    unfold B32 at hdi ha
    rw [u64_small (x := (a : Int)) (by omega) (by omega)]
    rw [if_pos (by omega), if_pos (by omega), if_pos (by rw [ci_len]; omega), if_neg (by omega), if_pos (by rw [ci_len]; omega), rd_ci, Int.toNat_natCast, hd0]
    rw [u64_small (x := (rest : Int) * 4294967296) (by omega) (by omega), u64_small (x := (d : Int)) (by omega) (by omega)]
    rw [bits_join .u64 64 (by decide) wraps_u64 32 _ _ (by omega) (by omega) (by omega) (by omega) (by omega) (by omega)]
    rw [show (rest : Int) * 4294967296 + (d : Int) = ((B32 * rest + d : Nat) : Int) from by unfold B32; omega]
    rw [Int.tdiv_eq_ediv_of_nonneg (by omega), Int.tmod_eq_emod_of_nonneg (by omega), ← Int.natCast_ediv, ← Int.natCast_emod]
    have hx : (B32 * rest + d) / a < B32 := by
      rw [Nat.div_lt_iff_lt_mul ha0]
      have : B32 * (rest + 1) ≤ B32 * a := Nat.mul_le_mul_left _ hr
      rw [Nat.mul_add] at this
      unfold B32 at *; omega
    have hq : ∀ Y : Nat, Y < B32 → IntKind.u64.wrap (Y : Int) % 4294967296 = (Y : Int) := by
      intro Y hY
      unfold B32 at hY
      rw [u64_small (by omega) (by omega)]; omega
    rw [hq _ hx, ci_set]
    rw [show wrap64 ((n : Int) - 1) = (n : Int) - 1 from by unfold wrap64; omega]
    rw [by_l0 a ha0 (by unfold B32; omega) l hl hd n k ((B32 * rest + d) % a) (out.set n ((B32 * rest + d) / a)) (by omega) (by simp; exact ho) (by
      intro y hy
      rcases List.mem_or_eq_of_mem_set hy with h | h
      · exact hod y h
      · rw [h]; exact hx) (Nat.mod_lt _ ha0) (by omega)]
    have hdr : (out.set n ((B32 * rest + d) / a)).drop n = (B32 * rest + d) / a :: out.drop (n + 1) := by
      rw [List.drop_eq_getElem_cons (by simp; omega), List.getElem_set_self, List.drop_set_of_lt (by omega)]
    have hT : B32 ^ n * (vN B32 ((out.set n ((B32 * rest + d) / a)).drop n) * a + (B32 * rest + d) % a) + vN B32 (l.take n) = B32 ^ (n + 1) * (vN B32 (out.drop (n + 1)) * a + rest) + vN B32 (l.take (n + 1)) := by
      rw [hdr, vN, ht, vN_append, List.length_take, Nat.min_eq_left (by omega), Nat.pow_succ]
      simp only [vN, Nat.mul_zero, Nat.add_zero]
      have e := Nat.mod_add_div (B32 * rest + d) a
      generalize vN B32 (out.drop (n + 1)) = V at *
      generalize (B32 * rest + d) / a = y at *
      generalize (B32 * rest + d) % a = x at *
      generalize vN B32 (l.take n) = T at *
      generalize B32 ^ n = P at *
      have : (y + B32 * V) * a + x = B32 * (V * a + rest) + d := by
        rw [Nat.add_mul, Nat.mul_add, Nat.mul_assoc, Nat.mul_comm y a]
        omega
      rw [this, Nat.mul_add, Nat.mul_assoc]
      omega
    rw [hT]
theorem by_f (v a : Nat) (ha0 : 0 < a) (ha : a < B32) (hv : (leN B32 v).length ≤ 1000) (k : Nat) (hk : 3000 ≤ k) :
    Pby.big_nat_by.f k (ci (leN B32 v)) (a : Int) = some (ci (leN B32 (v / a)), ((v % a : Nat) : Int)) := by
  unfold Pby.big_nat_by.f
  rw [ci_len, if_pos (by omega), if_pos (by rw [Int.toNat_natCast]; omega), Int.toNat_natCast, show wrap64 (((leN B32 v).length : Int) - 1) = ((leN B32 v).length : Int) - 1 from by unfold wrap64; omega]
  have := by_l0 a ha0 ha (leN B32 v) (by omega) (leN_dg B32_2 v) (leN B32 v).length k 0 (List.replicate (leN B32 v).length 0) (Nat.le_refl _) (by simp) (by intro d h; rw [List.eq_of_mem_replicate h]; decide) ha0 (by omega)
  rw [show ci (List.replicate (leN B32 v).length 0) = List.replicate (leN B32 v).length 0 from by simp [ci], Int.natCast_zero] at this
  rw [this, List.take_length, vN_leN B32_2, List.drop_of_length_le (by simp)]
  simp [vN]
end Go.Proofs.YtemogjpgkcbaiaaGreatDoor.Sp
end
section
namespace Go.Proofs.YtemogjpgkcbaiaaGreatDoor.Sp
open Go.RowKit Go.Proofs.YtemogjpgkcbaiaaGreatDoorW.PrintWords Go.Proofs.YtemogjpgkcbaiaaGreatDoorW.PrintLast Go.Proofs.YtemogjpgkcbaiaaGreatDoorW.PrintMore
set_option linter.unusedVariables false
set_option linter.unusedSimpArgs false
def letB : ByteArray := ⟨#[48, 49, 50, 51, 52, 53, 54, 55, 56, 57, 97, 98, 99, 100, 101, 102, 103, 104, 105, 106, 107, 108, 109, 110, 111, 112, 113, 114, 115, 116, 117, 118, 119, 120, 121, 122]⟩
def ltr (d : Nat) : Int := bt letB (d : Int)
def dtx (b v : Nat) : ByteArray := strOfNums ((leN b v).map ltr).reverse
theorem dtx_size (b v : Nat) : (dtx b v).size = (leN b v).length := by simp [dtx, strOfNums, ByteArray.size]
theorem rd_get (l : List Int) (i : Int) : rd l i = l.getD i.toNat 0 := rfl
theorem rev_l1 (o : List Int) (hL : o.length ≤ 1000000) : ∀ (m k i : Nat) (x : List Int), i + m = o.length / 2 → x.length = o.length → (∀ j, j < o.length → x[j]? = if j < i ∨ o.length - i ≤ j then o[o.length - 1 - j]? else o[j]?) → m < k →
    big_based.l1 k x (wrap64 ((o.length : Int) / 2)) (i : Int) = some (strOfNums o.reverse)
  | 0, k, i, x, him, hx, hj, hk => by
    obtain ⟨k, rfl⟩ : ∃ q, k = q + 1 := ⟨k - 1, by omega⟩
    simp only [big_based.l1]
    rw [show wrap64 ((o.length : Int) / 2) = ((o.length / 2 : Nat) : Int) from by unfold wrap64; omega, if_neg (by omega)]
    congr 2
    refine List.ext_getElem? fun j => ?_
    by_cases h : j < o.length
    · rw [hj j h, List.getElem?_reverse h]
      by_cases h2 : j < i ∨ o.length - i ≤ j
      · rw [if_pos h2]
      · rw [if_neg h2, show o.length - 1 - j = j from by omega]
    · rw [List.getElem?_eq_none (by omega), List.getElem?_eq_none (by simp; omega)]
  | m + 1, k, i, x, him, hx, hj, hk => by
    obtain ⟨k, rfl⟩ : ∃ q, k = q + 1 := ⟨k - 1, by omega⟩
    simp only [big_based.l1]
    have e1 : wrap64 ((o.length : Int) / 2) = ((o.length / 2 : Nat) : Int) := by unfold wrap64; omega
    have e2 : wrap64 (wrap64 ((x.length : Int) - 1) - (i : Int)) = ((o.length - 1 - i : Nat) : Int) := by rw [hx]; unfold wrap64; omega
    rw [e1, e2, if_pos (by omega), if_pos (by omega), if_pos (by omega), if_pos (by omega), if_pos (by omega), rd_get, rd_get, Int.toNat_natCast, Int.toNat_natCast, show wrap64 ((i : Int) + 1) = ((i + 1 : Nat) : Int) from by unfold wrap64; omega, ← e1]
    refine rev_l1 o hL m k (i + 1) _ (by omega) (by simp; exact hx) ?_ (by omega)
    intro j hjl
    have hi := hj i (by omega)
    have hi2 := hj (o.length - 1 - i) (by omega)
    rw [if_neg (by omega)] at hi hi2
    by_cases c1 : j = o.length - 1 - i
    · subst c1
      rw [List.getElem?_set_self (by simp; omega), if_pos (by omega), List.getD_eq_getElem?_getD, hi, show o.length - 1 - (o.length - 1 - i) = i from by omega, List.getElem?_eq_getElem (by omega)]
      rfl
    · rw [List.getElem?_set_ne (by omega)]
      by_cases c2 : j = i
      · subst c2
        rw [List.getElem?_set_self (by omega), if_pos (by omega), List.getD_eq_getElem?_getD, hi2, List.getElem?_eq_getElem (by omega)]
        rfl
      · rw [List.getElem?_set_ne (by omega), hj j hjl]
        by_cases c3 : j < i ∨ o.length - i ≤ j
        · rw [if_pos c3, if_pos (by omega)]
        · rw [if_neg c3, if_neg (by omega)]
theorem based_end (b : Nat) (k : Nat) (acc : List Int) (hacc : acc.length ≤ 1000000) (hk : acc.length + 10 < k) : big_based.l0 k (ci (leN B32 0)) (b : Int) acc = some (strOfNums (acc ++ (leN b 0).map ltr).reverse) := by
  obtain ⟨k, rfl⟩ : ∃ q, k = q + 1 := ⟨k - 1, by omega⟩
  simp only [big_based.l0]
  rw [leN_zero, leN_zero, if_neg (by simp [ci])]
  have := rev_l1 acc hacc (acc.length / 2) k 0 acc (by omega) rfl (fun j h => by rw [if_neg (by omega)]) (by omega)
  rw [Int.natCast_zero] at this
  rw [this]
  simp
theorem based_step (b : Nat) (hb : 2 ≤ b) (hb2 : b ≤ 36) (k v : Nat) (acc : List Int) (hv : (leN B32 v).length ≤ 1000) (h0 : v ≠ 0) (hacc : acc.length ≤ 1000000) (hk : 4000 < k) :
    big_based.l0 (k + 1) (ci (leN B32 v)) (b : Int) acc = big_based.l0 k (ci (leN B32 (v / b))) (b : Int) (acc ++ [ltr (v % b)]) := by
  have hne : leN B32 v ≠ [] := fun h => h0 ((leN_nil B32_2).1 h)
  have hpos : 0 < (leN B32 v).length := List.length_pos_iff.2 hne
  simp only [big_based.l0]
  rw [if_pos (by rw [ci_len]; omega), show (b : Int) % 4294967296 = (b : Int) from by omega, by_f v b (by omega) (by unfold B32; omega) hv k (by omega)]
  have hmod : v % b < b := Nat.mod_lt _ (by omega)
  simp only [Option.bind_some]
  rw [if_pos (by omega), if_pos (by omega), if_pos (by omega)]
  rfl
theorem based_l0 (b : Nat) (hb : 2 ≤ b) (hb2 : b ≤ 36) (m : Nat) : ∀ (k v : Nat) (acc : List Int), (leN B32 v).length ≤ 1000 → (leN b v).length ≤ m → acc.length + m ≤ 1000000 → acc.length + 2 * m + 4010 < k →
    big_based.l0 k (ci (leN B32 v)) (b : Int) acc = some (strOfNums (acc ++ (leN b v).map ltr).reverse) := by
  induction m with
  | zero =>
    intro k v acc hv hm hacc hk
    have h0 : v = 0 := (leN_nil hb).1 (List.length_eq_zero_iff.1 (by omega))
    subst h0
    exact based_end b k acc (by omega) (by omega)
  | succ m ih =>
    intro k v acc hv hm hacc hk
    by_cases h0 : v = 0
    · subst h0
      exact based_end b k acc (by omega) (by omega)
    · obtain ⟨k, rfl⟩ : ∃ q, k = q + 1 := ⟨k - 1, by omega⟩
      have hlen : (leN b v).length = (leN b (v / b)).length + 1 := by rw [leN_pos hb h0]; simp
      have hv2 : (leN B32 (v / b)).length ≤ 1000 := by
        rw [leN_length B32_2] at hv ⊢
        exact Nat.lt_of_le_of_lt (Nat.div_le_self _ _) hv
      rw [based_step b hb hb2 k v acc hv h0 (by omega) (by omega), ih k (v / b) (acc ++ [ltr (v % b)]) hv2 (by omega) (by simp; omega) (by simp; omega), leN_pos hb h0]
      simp
theorem based_f (b v : Nat) (hb : 2 ≤ b) (hb2 : b ≤ 36) (hv : (leN B32 v).length ≤ 1000) (hv2 : (leN b v).length ≤ 100000) (k : Nat) (hk : 300000 ≤ k) : big_based.f k (ci (leN B32 v)) (b : Int) = some (dtx b v) := by
  unfold big_based.f
  rw [based_l0 b hb hb2 100000 k v [] hv hv2 (by simp) (by simp; omega)]
  simp [dtx]
def ntx (neg : Bool) (b v : Nat) : ByteArray := if v = 0 then ⟨#[48]⟩ else if neg = true then ⟨#[45]⟩ ++ dtx b v else dtx b v
theorem toList_nil (x : ByteArray) : x.toList = [] ↔ x.size = 0 := by
  rw [Lib.toList_data]
  obtain ⟨⟨l⟩⟩ := x
  cases l <;> simp [ByteArray.size]
theorem text_f (neg long : Bool) (b v : Nat) (hb : 2 ≤ b) (hb2 : b ≤ 36) (hv : (leN B32 v).length ≤ 1000) (hv2 : (leN b v).length ≤ 100000) (k : Nat) (hk : 300000 ≤ k) : big_number_text.f k (ci (leN B32 v)) neg long (b : Int) = some (ntx neg b v) := by
  unfold big_number_text.f
  rw [based_f b v hb hb2 hv hv2 k hk]
  simp only [Option.bind_some]
  unfold ntx
  by_cases h0 : v = 0
  · rw [if_pos (by rw [toList_nil, dtx_size, h0, leN_zero]; rfl), if_pos h0]
  · rw [if_neg (by rw [toList_nil, dtx_size]; intro h; exact h0 ((leN_nil hb).1 (List.length_eq_zero_iff.1 h))), if_neg h0]
    by_cases hn : neg = true
    · rw [if_pos hn, if_pos hn, if_pos (by rw [dtx_size]; omega)]
    · rw [if_neg hn, if_neg hn]
def M2010 : Nat := 2010
def M600 : Nat := 600
def M5 : Nat := 100000
def fitsN (v : Nat) : Bool := decide (v < 10 ^ M600)
theorem pow_600 : 10 ^ M600 ≤ 2 ^ M2010 := by decide +kernel
theorem result_f (neg : Bool) (v : Nat) (hv : (leN B32 v).length ≤ 1000) (k : Nat) (hk : 300000 ≤ k) : big_number_result.f k (ci (leN B32 v)) neg false = some (if fitsN v then (ntx neg 10 v, 0) else (⟨#[]⟩, 4)) := by
  unfold big_number_result.f
  rw [if_neg (by simp)]
  obtain ⟨r, h1, h2⟩ := bits_f M2010 rfl (leN B32 v) (by omega) (leN_dg B32_2 v) k (by omega)
  rw [h1, vN_leN B32_2] at *
  simp only [Option.bind_some]
  have h3 := pow_600
  have h10 : (leN 10 v).length ≤ 600 ↔ v < 10 ^ M600 := leN_length (by decide) M600 v
  by_cases hb : 2 ^ M2010 ≤ v
  · rw [if_pos (h2.2 hb), if_neg (by unfold fitsN; simp; omega)]
  · rw [if_neg (fun h => hb (h2.1 h))]
    have hN : ∀ N, M2010 ≤ N → v < 10 ^ N := fun N h => Nat.lt_of_lt_of_le (Nat.lt_of_not_le hb) (Nat.le_trans (Nat.pow_le_pow_left (by decide : 2 ≤ 10) _) (Nat.pow_le_pow_right (by decide) h))
    have hv10 : (leN 10 v).length ≤ 100000 := (leN_length (by decide) M5 v).2 (hN M5 (by decide))
    unfold big_decimal.f
    have hbf := based_f 10 v (by decide) (by decide) hv hv10 k hk
    rw [show ((10 : Nat) : Int) = 10 from rfl] at hbf
    rw [hbf]
    simp only [Option.bind_some]
    rw [dtx_size]
    by_cases hf : v < 10 ^ M600
    · have htf := text_f neg false 10 v (by decide) (by decide) hv hv10 k hk
      rw [show ((10 : Nat) : Int) = 10 from rfl] at htf
      rw [if_neg (by have := h10.2 hf; omega), htf, if_pos (by unfold fitsN; simp; exact hf)]
      rfl
    · rw [if_pos (by have := fun h => hf (h10.1 h); omega), if_neg (by unfold fitsN; simp; omega)]
end Go.Proofs.YtemogjpgkcbaiaaGreatDoor.Sp
end
section
namespace Go.Proofs.YtemogjpgkcbaiaaGreatDoor.Sp
open Go.RowKit Go.Proofs.YtemogjpgkcbaiaaGreatDoorW.PrintWords Go.Proofs.YtemogjpgkcbaiaaGreatDoorW.PrintLast Go.Proofs.YtemogjpgkcbaiaaGreatDoorW.PrintMore
open Go.Proofs.YtemogjpgkcbaiaaGreatDoor.Pread
set_option linter.unusedVariables false
set_option linter.unusedSimpArgs false
structure Chg (S : Nat → Prop) (w w' : World) : Prop where
  os : w'.os = w.os
  tape : w'.tape = w.tape
  output : w'.output = w.output
  size : w.heap.size ≤ w'.heap.size
  block : ∀ k, k < w.heap.size → ¬ S k → w'.heap[k]? = w.heap[k]?
theorem Chg.refl (S : Nat → Prop) (w : World) : Chg S w w := ⟨rfl, rfl, rfl, Nat.le_refl _, fun _ _ _ => rfl⟩
theorem Chg.trans {S : Nat → Prop} {a b c : World} (h : Chg S a b) (k : Chg S b c) : Chg S a c :=
  ⟨k.os.trans h.os, k.tape.trans h.tape, k.output.trans h.output, Nat.le_trans h.size k.size, fun i hi hs => (k.block i (Nat.lt_of_lt_of_le hi h.size) hs).trans (h.block i hi hs)⟩
theorem Chg.mono {S T : Nat → Prop} {a b : World} (h : Chg S a b) (hs : ∀ k, S k → T k) : Chg T a b :=
  ⟨h.os, h.tape, h.output, h.size, fun i hi ht => h.block i hi (fun k => ht (hs i k))⟩
theorem Chg.trans' {S T : Nat → Prop} {a b c : World} (h : Chg S a b) (k : Chg T b c) (ht : ∀ i, T i → S i ∨ a.heap.size ≤ i) : Chg S a c :=
  ⟨k.os.trans h.os, k.tape.trans h.tape, k.output.trans h.output, Nat.le_trans h.size k.size, fun i hi hs =>
    (k.block i (Nat.lt_of_lt_of_le hi h.size) (fun hk => (ht i hk).elim hs (fun hge => by omega))).trans (h.block i hi hs)⟩
theorem Chg.of_below {S : Nat → Prop} {a b : World} (h : Below a.heap.size a b) : Chg S a b :=
  ⟨h.os, h.tape, h.output, h.size, fun i hi _ => h.block i hi⟩
theorem Chg.below {S : Nat → Prop} {B : Nat} {a b : World} (h : Chg S a b) (hB : B ≤ a.heap.size) (hs : ∀ i, S i → B ≤ i) : Below B a b :=
  ⟨h.os, h.tape, h.output, h.size, fun i hi => h.block i (by omega) (fun hk => by have := hs i hk; omega)⟩
theorem Chg.setCell {S : Nat → Prop} {a b : World} (h : Chg S a b) (p : Addr) (v : Value) (hp : S p.block ∨ a.heap.size ≤ p.block) : Chg S a (b.setCell p v) :=
  ⟨h.os, h.tape, h.output, by have := h.size; simpa [World.setCell] using this, fun i hi hs => by
    have hne : i ≠ p.block := fun e => hp.elim (fun hh => hs (e ▸ hh)) (fun hh => by omega)
    exact (Below.heap_setCell b p v i hne).trans (h.block i hi hs)⟩
theorem Chg.alloc {S : Nat → Prop} {a b : World} (h : Chg S a b) (o : Obj) : Chg S a (b.alloc o) :=
  ⟨h.os, h.tape, h.output, by have := h.size; simp; omega, fun i hi hs =>
    (Below.heap_alloc b o i (Nat.lt_of_lt_of_le hi h.size)).trans (h.block i hi hs)⟩
theorem Chg.drew {S : Nat → Prop} {a b : World} (h : Chg S a b) : Chg S a b.drew := ⟨h.os, h.tape, h.output, h.size, h.block⟩
theorem Chg.drewN {S : Nat → Prop} {a b : World} (h : Chg S a b) (n : Nat) : Chg S a (b.drewN n) := ⟨h.os, h.tape, h.output, h.size, h.block⟩
def RD (w : World) (R : Nat) (s : ByteArray) (p : Int) : Prop := w.heap[R]? = some (.cells #[.string s, .int .i64 p] 94 (0, 0))
theorem RD.lt {w : World} {R : Nat} {s : ByteArray} {p : Int} (h : RD w R s p) : R < w.heap.size := (Array.getElem?_eq_some_iff.1 h).1
def cutAt (w : World) (R : Nat) : World := { w with heap := w.heap.extract 0 R }
theorem cutAt_size {w : World} {R : Nat} (h : R < w.heap.size) : (cutAt w R).heap.size = R := by simp [cutAt]; omega
theorem below_cutAt {w : World} {R : Nat} (h : R < w.heap.size) : Below (cutAt w R).heap.size (cutAt w R) w := by
  refine ⟨rfl, rfl, rfl, by rw [cutAt_size h]; omega, fun k hk => ?_⟩
  rw [cutAt_size h] at hk
  simp [cutAt, Array.getElem?_extract, hk]
  omega
theorem chg_of_keep {w w' : World} {R : Nat} (hR : R < w.heap.size) (hb : Below (cutAt w R).heap.size (cutAt w R) w') (hk : KeepBut w w' R none) : Chg (fun k => k = R) w w' :=
  ⟨hb.os, hb.tape, hb.output, hk.1, fun i hi hs => hk.2 i hi hs (by simp)⟩
def tk (s : ByteArray) (p : Int) (c : Int) : Bool := decide (p < s.size) && (bt s p == c)
theorem tk_f (s : ByteArray) (p c : Int) (h0 : 0 ≤ p) : spell_reader_take.f s p c = some (tk s p c, s, if tk s p c then wrap64 (p + 1) else p) := by
  unfold spell_reader_take.f tk
  by_cases h : p < s.size
  · by_cases h2 : bt s p = c <;> simp [h, h0, h2]
  · simp [h]
theorem take_calls (w : World) (R : Nat) (s : ByteArray) (p c : Int) (h : RD w R s p) (h0 : 0 ≤ p) :
    Calls Tryz.prog 87 #[.pointer (some ⟨R, 0, none⟩), .int .u8 c] w fun e w' => e = .returned (.bool (tk s p c)) ∧ RD w' R s (if tk s p c then wrap64 (p + 1) else p) ∧ Chg (fun k => k = R) w w' := by
  refine (spell_reader_take.calls R s p c _ _ _ (cutAt w R) w ⟨h, by rw [cutAt_size h.lt]; exact Nat.le_refl _⟩ (below_cutAt h.lt) (tk_f s p c h0)).mono ?_
  rintro e w' ⟨rfl, hI, hb, hk⟩
  exact ⟨rfl, hI.1, chg_of_keep h.lt hb hk⟩
def isDig (c : Int) : Bool := decide (48 ≤ c) && decide (c ≤ 57)
theorem digit_f (c : Int) : spell_digit.f c = some (isDig c) := by
  unfold spell_digit.f isDig
  by_cases h : 48 ≤ c <;> simp [h]
def nmGo (s : ByteArray) : Nat → Int → Int → Int × Int
  | 0, n, p => (n, p)
  | m + 1, n, p => if p < s.size ∧ isDig (bt s p) = true then nmGo s m (10 * n + (bt s p - 48)) (p + 1) else (n, p)
def nm (s : ByteArray) (m : Nat) (p : Int) : Int × Int := (if (nmGo s m 0 p).2 = p then -1 else (nmGo s m 0 p).1, (nmGo s m 0 p).2)
def bnd : Nat → Int
  | 0 => 100000
  | m + 1 => (bnd m - 9) / 10
theorem bnd_le (m : Nat) : bnd m ≤ 100000 := by
  induction m with
  | zero => decide
  | succ m ih => have : bnd (m + 1) = (bnd m - 9) / 10 := rfl; omega
theorem wrap_small {x : Int} (h0 : -1000000000000000000 ≤ x) (h1 : x ≤ 1000000000000000000) : wrap64 x = x := by unfold wrap64; omega
theorem isDig_iff {c : Int} : isDig c = true ↔ 48 ≤ c ∧ c ≤ 57 := by simp [isDig]
theorem nmGo_pos (s : ByteArray) (m : Nat) : ∀ n p, p ≤ (nmGo s m n p).2 ∧ (nmGo s m n p).2 ≤ p + m ∧ (p ≤ s.size → (nmGo s m n p).2 ≤ s.size) ∧ (0 ≤ n → 0 ≤ (nmGo s m n p).1) := by
  induction m with
  | zero => intro n p; simp [nmGo]
  | succ m ih =>
    intro n p
    simp only [nmGo]
    split
    · rename_i h
      have := isDig_iff.1 h.2
      obtain ⟨a, b, c, d⟩ := ih (10 * n + (bt s p - 48)) (p + 1)
      refine ⟨by omega, by omega, fun _ => c (by omega), fun _ => d (by omega)⟩
    · simp; omega
theorem number_l0 (s : ByteArray) (hs : s.size ≤ 100000) (m : Nat) : ∀ (k : Nat) (n j p : Int), m < k → 0 ≤ n → n ≤ bnd m → 0 ≤ j → j + m ≤ 1000 → 0 ≤ p → m ≤ 1000 →
    spell_reader_number.l0 k (j + m) n j s p = some (if j + ((nmGo s m n p).2 - p) = 0 then -1 else (nmGo s m n p).1, s, (nmGo s m n p).2) := by
  induction m with
  | zero =>
    intro k n j p hk h0 hn hj hj2 hp hm
    obtain ⟨k, rfl⟩ : ∃ q, k = q + 1 := ⟨k - 1, by omega⟩
    simp only [spell_reader_number.l0, nmGo]
    by_cases h : j = 0 <;> simp [h]
  | succ m ih =>
    intro k n j p hk h0 hn hj hj2 hp hm
    obtain ⟨k, rfl⟩ : ∃ q, k = q + 1 := ⟨k - 1, by omega⟩
    simp only [spell_reader_number.l0]
    rw [if_pos (by omega)]
    by_cases h : p < s.size
    · rw [if_pos h, if_pos hp, digit_f]
      simp only [Option.bind_some]
      by_cases hd : isDig (bt s p) = true
      · have hdd := isDig_iff.1 hd
        have hb : bnd (m + 1) = (bnd m - 9) / 10 := rfl
        have hb2 := bnd_le m
        rw [if_pos hd, show nmGo s (m + 1) n p = nmGo s m (10 * n + (bt s p - 48)) (p + 1) from if_pos ⟨h, hd⟩]
        rw [wrap_small (x := 10 * n) (by omega) (by omega), wrap_small (x := p + 1) (by omega) (by omega), wrap_small (x := j + 1) (by omega) (by omega)]
        rw [show (bt s p - 48) % 256 = bt s p - 48 from by omega, wrap_small (by omega) (by omega)]
        rw [show j + ((m + 1 : Nat) : Int) = (j + 1) + m from by omega]
        rw [ih k (10 * n + (bt s p - 48)) (j + 1) (p + 1) (by omega) (by omega) (by omega) (by omega) (by omega) (by omega) (by omega)]
        rw [show j + 1 + ((nmGo s m (10 * n + (bt s p - 48)) (p + 1)).2 - (p + 1)) = j + ((nmGo s m (10 * n + (bt s p - 48)) (p + 1)).2 - p) from by omega]
      · rw [if_neg hd, show nmGo s (m + 1) n p = (n, p) from if_neg (fun hh => hd hh.2)]
        by_cases hj0 : j = 0 <;> simp [hj0]
    · rw [if_neg h, show nmGo s (m + 1) n p = (n, p) from if_neg (fun hh => h hh.1)]
      by_cases hj0 : j = 0 <;> simp [hj0]
theorem number_f (s : ByteArray) (hs : s.size ≤ 100000) (m : Nat) (hm : m ≤ 3) (p : Int) (hp : 0 ≤ p) :
    spell_reader_number.f 5 s p m = some ((nm s m p).1, s, (nm s m p).2) := by
  have h0 : 0 ≤ bnd m := by
    have : m = 0 ∨ m = 1 ∨ m = 2 ∨ m = 3 := by omega
    rcases this with rfl | rfl | rfl | rfl <;> decide
  have := number_l0 s hs m 5 0 0 p (by omega) (by omega) h0 (by omega) (by omega) hp (by omega)
  unfold spell_reader_number.f nm
  simp only [Int.zero_add] at this
  rw [this]
  by_cases h : (nmGo s m 0 p).2 = p
  · rw [if_pos (by omega), if_pos h]
  · rw [if_neg (by omega), if_neg h]
theorem number_calls (w : World) (R : Nat) (s : ByteArray) (p m : Int) (h : RD w R s p) (h0 : 0 ≤ p) (hs : s.size ≤ 100000) (hm0 : 0 ≤ m) (hm : m ≤ 3) :
    Calls Tryz.prog 88 #[.pointer (some ⟨R, 0, none⟩), .int .i64 m] w fun e w' => e = .returned (.int .i64 (nm s m.toNat p).1) ∧ RD w' R s (nm s m.toNat p).2 ∧ Chg (fun k => k = R) w w' := by
  have hf := number_f s hs m.toNat (by omega) p h0
  rw [show ((m.toNat : Nat) : Int) = m from by omega] at hf
  refine (spell_reader_number.calls 5 R s p m _ _ _ (cutAt w R) w ⟨h, by rw [cutAt_size h.lt]; exact Nat.le_refl _⟩ (below_cutAt h.lt) hf).mono ?_
  rintro e w' ⟨rfl, hI, hb, hk⟩
  exact ⟨rfl, hI.1, chg_of_keep h.lt hb hk⟩
def nx (s : ByteArray) (p : Int) : Int := if p < s.size then bt s p else 0
theorem next_f (s : ByteArray) (p : Int) (h0 : 0 ≤ p) (h1 : p ≤ s.size) : spell_reader_next.f s p = some (nx s p, s, p) := by
  unfold spell_reader_next.f nx
  by_cases h : p = s.size
  · rw [if_pos h, if_neg (by omega)]
  · rw [if_neg h, if_pos h0, if_pos (by omega), if_pos (by omega)]
theorem next_calls (w : World) (R : Nat) (s : ByteArray) (p : Int) (h : RD w R s p) (h0 : 0 ≤ p) (h1 : p ≤ s.size) :
    Calls Tryz.prog 90 #[.pointer (some ⟨R, 0, none⟩)] w fun e w' => e = .returned (.int .u8 (nx s p)) ∧ RD w' R s p ∧ Chg (fun k => k = R) w w' := by
  refine (spell_reader_next.calls R s p _ _ _ (cutAt w R) w ⟨h, by rw [cutAt_size h.lt]; exact Nat.le_refl _⟩ (below_cutAt h.lt) (next_f s p h0 h1)).mono ?_
  rintro e w' ⟨rfl, hI, hb, hk⟩
  exact ⟨rfl, hI.1, chg_of_keep h.lt hb hk⟩
def wd (s : ByteArray) (p : Int) : Int × Int := if nx s p = 48 then (-1, p) else nm s 3 p
theorem wide_f (s : ByteArray) (hs : s.size ≤ 100000) (p : Int) (h0 : 0 ≤ p) (h1 : p ≤ s.size) : spell_reader_wide.f 5 s p = some ((wd s p).1, s, (wd s p).2) := by
  unfold spell_reader_wide.f wd
  rw [next_f s p h0 h1]
  simp only [Option.bind_some]
  by_cases h : nx s p = 48
  · rw [if_pos h, if_pos h]
  · rw [if_neg h, if_neg h]
    have := number_f s hs 3 (by omega) p h0
    rw [show ((3 : Nat) : Int) = 3 from rfl] at this
    rw [this]; rfl
theorem wide_calls (w : World) (R : Nat) (s : ByteArray) (p : Int) (h : RD w R s p) (h0 : 0 ≤ p) (h1 : p ≤ s.size) (hs : s.size ≤ 100000) :
    Calls Tryz.prog 89 #[.pointer (some ⟨R, 0, none⟩)] w fun e w' => e = .returned (.int .i64 (wd s p).1) ∧ RD w' R s (wd s p).2 ∧ Chg (fun k => k = R) w w' := by
  refine (spell_reader_wide.calls 5 R s p _ _ _ (cutAt w R) w ⟨h, by rw [cutAt_size h.lt]; exact Nat.le_refl _⟩ (below_cutAt h.lt) (wide_f s hs p h0 h1)).mono ?_
  rintro e w' ⟨rfl, hI, hb, hk⟩
  exact ⟨rfl, hI.1, chg_of_keep h.lt hb hk⟩
end Go.Proofs.YtemogjpgkcbaiaaGreatDoor.Sp
end
section
namespace Go.Proofs.YtemogjpgkcbaiaaGreatDoor.Sp
open Go.RowKit Go.Proofs.YtemogjpgkcbaiaaGreatDoorW.PrintWords Go.Proofs.YtemogjpgkcbaiaaGreatDoorW.PrintLast Go.Proofs.YtemogjpgkcbaiaaGreatDoorW.PrintMore
set_option linter.unusedVariables false
set_option linter.unusedSimpArgs false
theorem i64_small {x : Int} (h0 : -1000000000000000000 ≤ x) (h1 : x ≤ 1000000000000000000) : IntKind.i64.wrap x = x := IntWalk.i64_in _ (by omega)
structure Cv where
  at_ : Int := 0
  text : ByteArray := ByteArray.empty
  place : Int := 0
  flags : ByteArray := ByteArray.empty
  width : Int := 0
  prec : Int := 0
  wide : Bool := false
  precise : Bool := false
  letter : Int := 0
  quiet : Bool := false
  set : ByteArray := ByteArray.empty
def Cv.cells (c : Cv) : List Value := [.int .i64 c.at_, .string c.text, .int .i64 c.place, .string c.flags, .int .i64 c.width, .int .i64 c.prec, .bool c.wide, .bool c.precise, .int .u8 c.letter, .bool c.quiet, .string c.set]
def CV (w : World) (C : Nat) (c : Cv) : Prop := w.heap[C]? = some (.cells c.cells.toArray 51 (0, 0))
theorem CV.lt {w : World} {C : Nat} {c : Cv} (h : CV w C c) : C < w.heap.size := (Array.getElem?_eq_some_iff.1 h).1
theorem CV.chg {S : Nat → Prop} {w w' : World} {C : Nat} {c : Cv} (h : CV w C c) (k : Chg S w w') (hs : ¬ S C) : CV w' C c := (k.block C h.lt hs).trans h
theorem heap_setCell_same {w : World} {b i : Nat} {cs : Array Value} {t : TypeId} {f : Nat × Nat} {v : Value} (h : w.heap[b]? = some (.cells cs t f)) :
    (w.setCell ⟨b, i, none⟩ v).heap[b]? = some (.cells (cs.setIfInBounds i v) t f) := by
  obtain ⟨hlt, he⟩ := Array.getElem?_eq_some_iff.1 h
  simp [World.setCell, hlt, he, Array.getElem_modify_self]
theorem RD.set_ne {w : World} {R C i : Nat} {s : ByteArray} {p : Int} {v : Value} (h : RD w R s p) (hne : C ≠ R) : RD (w.setCell ⟨C, i, none⟩ v) R s p :=
  (Below.heap_setCell w ⟨C, i, none⟩ v R (fun e => hne e.symm)).trans h
theorem CV.set_ne {w : World} {R C i : Nat} {c : Cv} {v : Value} (h : CV w C c) (hne : R ≠ C) : CV (w.setCell ⟨R, i, none⟩ v) C c :=
  (Below.heap_setCell w ⟨R, i, none⟩ v C (fun e => hne e.symm)).trans h
theorem RD.set_pos {w : World} {R : Nat} {s : ByteArray} {p q : Int} (h : RD w R s p) : RD (w.setCell ⟨R, 1, none⟩ (.int .i64 q)) R s q := heap_setCell_same h
theorem CV.set2 {w : World} {C : Nat} {c : Cv} {v : Int} (h : CV w C c) : CV (w.setCell ⟨C, 2, none⟩ (.int .i64 v)) C { c with place := v } := heap_setCell_same h
theorem CV.set3 {w : World} {C : Nat} {c : Cv} {v : ByteArray} (h : CV w C c) : CV (w.setCell ⟨C, 3, none⟩ (.string v)) C { c with flags := v } := heap_setCell_same h
theorem CV.set4 {w : World} {C : Nat} {c : Cv} {v : Int} (h : CV w C c) : CV (w.setCell ⟨C, 4, none⟩ (.int .i64 v)) C { c with width := v } := heap_setCell_same h
theorem CV.set5 {w : World} {C : Nat} {c : Cv} {v : Int} (h : CV w C c) : CV (w.setCell ⟨C, 5, none⟩ (.int .i64 v)) C { c with prec := v } := heap_setCell_same h
theorem CV.set6 {w : World} {C : Nat} {c : Cv} {v : Bool} (h : CV w C c) : CV (w.setCell ⟨C, 6, none⟩ (.bool v)) C { c with wide := v } := heap_setCell_same h
theorem CV.set7 {w : World} {C : Nat} {c : Cv} {v : Bool} (h : CV w C c) : CV (w.setCell ⟨C, 7, none⟩ (.bool v)) C { c with precise := v } := heap_setCell_same h
theorem CV.set8 {w : World} {C : Nat} {c : Cv} {v : Int} (h : CV w C c) : CV (w.setCell ⟨C, 8, none⟩ (.int .u8 v)) C { c with letter := v } := heap_setCell_same h
theorem CV.set9 {w : World} {C : Nat} {c : Cv} {v : Bool} (h : CV w C c) : CV (w.setCell ⟨C, 9, none⟩ (.bool v)) C { c with quiet := v } := heap_setCell_same h
theorem CV.set10 {w : World} {C : Nat} {c : Cv} {v : ByteArray} (h : CV w C c) : CV (w.setCell ⟨C, 10, none⟩ (.string v)) C { c with set := v } := heap_setCell_same h
theorem cell_of {w : World} {b : Nat} {cs : Array Value} {t : TypeId} {f : Nat × Nat} (h : w.heap[b]? = some (.cells cs t f)) (i : Nat) {v : Value} (hi : cs[i]? = some v) : w.cell? ⟨b, i, none⟩ = some v := by
  simp [World.cell?, h, hi]
theorem RD.c0 {w : World} {R : Nat} {s : ByteArray} {p : Int} (h : RD w R s p) : w.cell? ⟨R, 0, none⟩ = some (.string s) := cell_of h 0 rfl
theorem RD.c1 {w : World} {R : Nat} {s : ByteArray} {p : Int} (h : RD w R s p) : w.cell? ⟨R, 1, none⟩ = some (.int .i64 p) := cell_of h 1 rfl
section
variable {w : World} {C : Nat} {c : Cv} (h : CV w C c)
theorem CV.c0 (h : CV w C c) : w.cell? ⟨C, 0, none⟩ = some (.int .i64 c.at_) := cell_of h 0 rfl
theorem CV.c1 (h : CV w C c) : w.cell? ⟨C, 1, none⟩ = some (.string c.text) := cell_of h 1 rfl
theorem CV.c2 (h : CV w C c) : w.cell? ⟨C, 2, none⟩ = some (.int .i64 c.place) := cell_of h 2 rfl
theorem CV.c3 (h : CV w C c) : w.cell? ⟨C, 3, none⟩ = some (.string c.flags) := cell_of h 3 rfl
theorem CV.c4 (h : CV w C c) : w.cell? ⟨C, 4, none⟩ = some (.int .i64 c.width) := cell_of h 4 rfl
theorem CV.c5 (h : CV w C c) : w.cell? ⟨C, 5, none⟩ = some (.int .i64 c.prec) := cell_of h 5 rfl
theorem CV.c6 (h : CV w C c) : w.cell? ⟨C, 6, none⟩ = some (.bool c.wide) := cell_of h 6 rfl
theorem CV.c7 (h : CV w C c) : w.cell? ⟨C, 7, none⟩ = some (.bool c.precise) := cell_of h 7 rfl
theorem CV.c8 (h : CV w C c) : w.cell? ⟨C, 8, none⟩ = some (.int .u8 c.letter) := cell_of h 8 rfl
theorem CV.c9 (h : CV w C c) : w.cell? ⟨C, 9, none⟩ = some (.bool c.quiet) := cell_of h 9 rfl
theorem CV.c10 (h : CV w C c) : w.cell? ⟨C, 10, none⟩ = some (.string c.set) := cell_of h 10 rfl
end
def plOk (s : ByteArray) (p : Int) : Bool := decide (1 ≤ (nm s 2 p).1) && (bt s p != 48) && tk s (nm s 2 p).2 36
def plc (s : ByteArray) (p : Int) : Int × Int := if plOk s p then ((nm s 2 p).1, (nm s 2 p).2 + 1) else (0, p)
theorem nm_pos (s : ByteArray) (m : Nat) (p : Int) : p ≤ (nm s m p).2 ∧ (nm s m p).2 ≤ p + m ∧ (p ≤ s.size → (nm s m p).2 ≤ s.size) := by
  obtain ⟨a, b, c, _⟩ := nmGo_pos s m 0 p
  exact ⟨a, b, c⟩
theorem nm_in (s : ByteArray) (m : Nat) (p : Int) (h : 1 ≤ (nm s m p).1) : p < s.size := by
  cases m with
  | zero => simp [nm, nmGo] at h
  | succ m =>
    by_cases hc : p < s.size ∧ isDig (bt s p) = true
    · exact hc.1
    · have e : nmGo s (m + 1) 0 p = (0, p) := if_neg hc
      simp only [nm, e] at h
      simp at h
def ix (l : List UInt8) (c : Int) : Int := Lib.indexByte l c.toNat.toUInt8
def flagBytes : ByteArray := ⟨#[45, 43, 48, 35, 32]⟩
def letterBytes : ByteArray := ⟨#[100, 120, 88, 111, 98, 99, 115, 113]⟩
def isFlag (c : Int) : Bool := decide (0 ≤ ix flagBytes.data.toList c)
def isLetter (c : Int) : Bool := decide (0 ≤ ix letterBytes.data.toList c)
theorem ix_calls (s : ByteArray) (c : Int) (w : World) : Calls Tryz.prog 48 #[.string s, .int .u8 c] w fun e w' => e = .returned (.int .i64 (ix s.data.toList c)) ∧ w' = w := Tryz.strings_IndexByte s c w
def flGo (s : ByteArray) : Nat → Int → Int
  | 0, p => p
  | k + 1, p => if p < s.size ∧ isFlag (bt s p) = true then flGo s k (p + 1) else p
def flE (s : ByteArray) (p : Int) : Int := flGo s (s.size - p).toNat p
theorem flE_yes {s : ByteArray} {p : Int} (h : p < s.size) (hf : isFlag (bt s p) = true) : flE s p = flE s (p + 1) := by
  unfold flE
  obtain ⟨k, hk⟩ : ∃ k, (s.size - p).toNat = k + 1 := ⟨(s.size - p).toNat - 1, by omega⟩
  rw [hk, show flGo s (k + 1) p = flGo s k (p + 1) from if_pos ⟨h, hf⟩, show (s.size - (p + 1)).toNat = k from by omega]
theorem flE_no {s : ByteArray} {p : Int} (h : ¬ (p < s.size ∧ isFlag (bt s p) = true)) : flE s p = p := by
  unfold flE
  cases (s.size - p).toNat with
  | zero => rfl
  | succ k => exact if_neg h
def cut (s : ByteArray) (p q : Int) : ByteArray := s.extract p.toNat q.toNat
def fin (s : ByteArray) (c : Cv) (p : Int) : Bool × Cv × Int := (nx s p != 0 && isLetter (nx s p), { c with letter := nx s p }, p + 1)
def pwB (s : ByteArray) (c : Cv) (p : Int) : Bool × Cv × Int :=
  if tk s p 46 then
    if tk s (p + 1) 42 then fin s { c with precise := true } (p + 2)
    else if (nm s 3 (p + 1)).1 < 0 then (false, c, p) else fin s { c with precise := false, prec := (nm s 3 (p + 1)).1 } (nm s 3 (p + 1)).2
  else fin s c p
def pwA (s : ByteArray) (c : Cv) (p : Int) : Bool × Cv × Int :=
  if tk s p 42 then pwB s { c with wide := true } (p + 1) else pwB s { c with wide := false, width := (wd s p).1 } (wd s p).2
def pwr (s : ByteArray) (a p : Int) : Bool × Cv × Int :=
  if tk s p 37 then (true, { at_ := a, width := -1, prec := -1, letter := 37 }, p + 1)
  else pwA s { at_ := a, place := (plc s p).1, flags := cut s (plc s p).2 (flE s (plc s p).2), width := -1, prec := -1 } (flE s (plc s p).2)
theorem cut_step (s : ByteArray) (p q : Int) (h0 : 0 ≤ p) (h1 : p ≤ q) (h2 : q < s.size) : cut s p q ++ s.extract q.toNat (q + 1).toNat = cut s p (q + 1) := by
  unfold cut
  apply ByteArray.ext
  simp only [ByteArray.data_append, ByteArray.data_extract, Array.extract_append_extract]
  rw [Nat.min_eq_left (by omega), Nat.max_eq_right (by omega)]
theorem cut_size (s : ByteArray) (p q : Int) : (cut s p q).size ≤ s.size := by unfold cut; simp; omega
def S2 (R C : Nat) : Nat → Prop := fun k => k = R ∨ k = C
theorem tk_lt {s : ByteArray} {p c : Int} (h : tk s p c = true) : p < s.size := by
  simp only [tk, Bool.and_eq_true, decide_eq_true_eq] at h; exact h.1
theorem wd_pos (s : ByteArray) (p : Int) : p ≤ (wd s p).2 ∧ (wd s p).2 ≤ p + 3 ∧ (p ≤ s.size → (wd s p).2 ≤ s.size) := by
  unfold wd
  split
  · exact ⟨by simp, by simp; omega, fun h => h⟩
  · exact nm_pos s 3 p
set_option maxHeartbeats 2000000 in
set_option maxRecDepth 100000 in
theorem written_calls (w : World) (R C : Nat) (hRC : R ≠ C) (s : ByteArray) (p a : Int) (hs : s.size ≤ 100000) (h0 : 0 ≤ p) (h1 : p ≤ s.size) (hR : RD w R s p) (hC : CV w C { at_ := a }) :
   Calls Tryz.prog 49 #[.pointer (some ⟨R, 0, none⟩), .pointer (some ⟨C, 0, none⟩)] w fun e w' => e = .returned (.bool (pwr s a p).1) ∧ Chg (S2 R C) w w' ∧ ((pwr s a p).1 = true → RD w' R s (pwr s a p).2.2 ∧ CV w' C (pwr s a p).2.1) := by
  have hCR : C ≠ R := hRC.symm
  have hSR : ∀ k, k = R → S2 R C k := fun k h => .inl h
  have f4 := blk_frozen hC 4
  have f5 := blk_frozen hC 5
  have c4 := hC.c4
  have c5 := hC.c5
  go_enter Tryz.func49, Tryz.ntmps49
  go_wp2_with fail
  refine (take_calls _ R s p 37 ?_ h0).mono ?_
  · exact (hR.set_ne hCR).set_ne hCR
  rintro e w1 ⟨rfl, hR1, hk1⟩
  have hC1 : CV w1 C { at_ := a, width := -1, prec := -1 } := CV.chg ((hC.set4).set5) hk1 (fun e => hRC e.symm)
  have K1 : Chg (S2 R C) w w1 := (((Chg.refl _ _).setCell ⟨C, 4, none⟩ _ (.inl (.inr rfl))).setCell ⟨C, 5, none⟩ _ (.inl (.inr rfl))).trans (hk1.mono hSR)
  have f8 := blk_frozen hC1 8
  have c8 := hC1.c8
  have r1 := hR1.c1
  clear f4 f5 c4 c5 hk1
  by_cases h37 : tk s p 37 = true
  · have hlt := tk_lt h37
    have e1 : wrap64 (p + 1) = p + 1 := wrap_small (by omega) (by omega)
    have hp : pwr s a p = (true, { at_ := a, width := -1, prec := -1, letter := 37 }, p + 1) := by unfold pwr; rw [if_pos h37]
    rw [h37] at hR1 r1
    rw [if_pos rfl, e1] at hR1 r1
    have HP := Lib.hid hp
    clear hp e1
    go_wp2_with fail
    go_ret
    rw [HP.out]
    exact ⟨rfl, K1.setCell ⟨C, 8, none⟩ _ (.inl (.inr rfl)), fun _ => ⟨hR1.set_ne hCR, hC1.set8⟩⟩
  · replace h37 : tk s p 37 = false := by simpa using h37
    rw [h37] at hR1 r1
    simp only [Bool.false_eq_true, if_false] at hR1 r1
    clear f8 c8
    go_wp2_with fail
    refine (number_calls _ R s p 2 hR1 h0 hs (by omega) (by omega)).mono ?_
    rw [show Int.toNat 2 = 2 from rfl]
    rintro e w2 ⟨rfl, hR2, hk2⟩
    have hC2 := hC1.chg hk2 (fun e => hRC e.symm)
    have K2 := K1.trans (hk2.mono hSR)
    clear r1 hk2
    go_upto_region 7 with fail
    go_cut [38] (fun s38 wx => s38 = .bool (plOk s p) ∧ RD wx R s (if plOk s p then (nm s 2 p).2 + 1 else (nm s 2 p).2) ∧ CV wx C { at_ := a, width := -1, prec := -1 } ∧ Chg (S2 R C) w wx)
    case first =>
      have r0 := hR2.c0
      have np := nm_pos s 2 p
      by_cases hg : 1 ≤ (nm s 2 p).1 ∧ bt s p ≠ 48
      · have hlt := nm_in s 2 p hg.1
        have g1 : decide (1 ≤ (nm s 2 p).1) = true := by simpa using hg.1
        have g2 : (bt s p != 48) = true := by simpa using hg.2
        have hpl : plOk s p = tk s (nm s 2 p).2 36 := by unfold plOk; rw [g1, g2]; rfl
        have HPL := Lib.hid hpl
        have p5 := eq_true h0
        have q5 := eq_true hlt
        have hx5 := bt_at s p
        clear hpl
        go_wp2_with fail
        refine (take_calls _ R s _ 36 hR2 (by omega)).mono ?_
        rintro e w3 ⟨rfl, hR3, hk3⟩
        go_wp2_with fail
        go_meet
        rw [HPL.out]
        refine ⟨rfl, ?_, hC2.chg hk3 (fun e => hRC e.symm), K2.trans (hk3.mono hSR)⟩
        by_cases h : tk s (nm s 2 p).2 36 = true
        · have := tk_lt h
          rw [if_pos h] at hR3 ⊢
          rwa [wrap_small (by omega) (by omega)] at hR3
        · rw [if_neg h] at hR3 ⊢; exact hR3
      · have hpl : plOk s p = false := by
          unfold plOk
          by_cases hn : 1 ≤ (nm s 2 p).1
          · have : bt s p = 48 := by
              by_cases h : bt s p = 48
              · exact h
              · exact absurd ⟨hn, h⟩ hg
            simp [this]
          · simp [hn]
        by_cases hn : 1 ≤ (nm s 2 p).1
        · have hlt := nm_in s 2 p hn
          have h48 : bt s p = 48 := by
            by_cases h : bt s p = 48
            · exact h
            · exact absurd ⟨hn, h⟩ hg
          have g1 : decide (1 ≤ (nm s 2 p).1) = true := by simpa using hn
          have g2 : (bt s p != 48) = false := by rw [h48]; rfl
          have p5 := eq_true h0
          have q5 := eq_true hlt
          have hx5 := bt_at s p
          have HPL := Lib.hid hpl
          clear hpl hg h48
          go_wp2_with fail
          go_meet
          rw [HPL.out]
          exact ⟨rfl, hR2, hC2, K2⟩
        · have g1 : decide (1 ≤ (nm s 2 p).1) = false := by simpa using hn
          have HPL := Lib.hid hpl
          clear hpl hg
          go_wp2_with fail
          go_meet
          rw [HPL.out]
          exact ⟨rfl, hR2, hC2, K2⟩
    case rest =>
      obtain ⟨hs38, hR3, hC3, K3⟩ := hcut
      obtain ⟨pb, hpb⟩ : ∃ b, plOk s p = b := ⟨_, rfl⟩
      rw [hpb] at hs38 hR3
      subst hs38
      have HPB := Lib.hid hpb
      clear hpb
      have f2 := blk_frozen hC3 2
      have c2 := hC3.c2
      have f1 := blk_frozen hR3 1
      have r1 := hR3.c1
      go_upto_if 38 with fail
      go_cut [] (fun wx => RD wx R s (plc s p).2 ∧ CV wx C { at_ := a, place := (plc s p).1, width := -1, prec := -1 } ∧ Chg (S2 R C) w wx)
      case first =>
        cases pb with
        | true =>
          rw [if_pos rfl] at hR3 r1
          have HP : Hid (plc s p = ((nm s 2 p).1, (nm s 2 p).2 + 1)) := Lib.hid (by unfold plc; rw [if_pos HPB.out])
          go_wp2_with fail
          go_meet
          rw [HP.out]
          exact ⟨hR3.set_ne hCR, hC3.set2, K3.setCell ⟨C, 2, none⟩ _ (.inl (.inr rfl))⟩
        | false =>
          rw [if_neg (by simp)] at hR3 r1
          have HP : Hid (plc s p = (0, p)) := Lib.hid (by unfold plc; rw [if_neg (by simp [HPB.out])])
          go_wp2_with fail
          go_meet
          rw [HP.out]
          exact ⟨hR3.set_pos, hC3.set_ne hRC, K3.setCell ⟨R, 1, none⟩ _ (.inl (.inl rfl))⟩
      case rest =>
        obtain ⟨hR4, hC4, K4⟩ := hcut
        have hp1 : 0 ≤ (plc s p).2 ∧ (plc s p).2 ≤ s.size := by
          have np := nm_pos s 2 p
          unfold plc
          by_cases hpl : plOk s p = true
          · rw [if_pos hpl]
            have : tk s (nm s 2 p).2 36 = true := by
              simp only [plOk, Bool.and_eq_true] at hpl; exact hpl.2
            have := tk_lt this
            exact ⟨by simp; omega, by simp; omega⟩
          · rw [if_neg hpl]; exact ⟨h0, h1⟩
        have HP := Lib.hid (show pwr s a p = pwA s { at_ := a, place := (plc s p).1, flags := cut s (plc s p).2 (flE s (plc s p).2), width := -1, prec := -1 } (flE s (plc s p).2) from by unfold pwr; rw [if_neg (by simp [h37])])
        clear h37
        generalize (plc s p).2 = p1 at *
        generalize (plc s p).1 = pl at *
        clear f2 c2 f1 r1 HPB hR3 hC3 K3 hR2 hC2 K2 hR1 hC1 K1 hR hC
        go_upto_block 0 with fail
        go_cut [] (fun wx => RD wx R s (flE s p1) ∧ CV wx C { at_ := a, place := pl, flags := cut s p1 (flE s p1), width := -1, prec := -1 } ∧ Chg (S2 R C) w wx ∧ p1 ≤ flE s p1 ∧ flE s p1 ≤ s.size)
        case first =>
          go_wp2_with fail
          go_loopg [] (s.size - p1).toNat (fun g wr => ∃ q : Int, p1 ≤ q ∧ q ≤ s.size ∧ (g : Int) = s.size - q ∧ flE s p1 = flE s q ∧ RD wr R s q ∧ CV wr C { at_ := a, place := pl, flags := cut s p1 q, width := -1, prec := -1 } ∧ Chg (S2 R C) w wr)
          case atStart =>
            refine ⟨p1, Int.le_refl _, hp1.2, by omega, rfl, hR4, ?_, K4⟩
            have : cut s p1 p1 = ByteArray.empty := by unfold cut; apply ByteArray.ext; simp
            rw [this]; exact hC4
          case round =>
            obtain ⟨q, hq1, hq2, hg, hfl, hR5, hC5, K5⟩ := hrel
            have r0 := hR5.c0
            have r1 := hR5.c1
            have f1 := blk_frozen hR5 1
            have c3 := hC5.c3
            have f3 := blk_frozen hC5 3
            have HG := Lib.hid hg
            have HFL := Lib.hid hfl
            clear hg hfl hR4 hC4 K4
            have stop : ¬ (q < s.size ∧ isFlag (bt s q) = true) → flE s p1 = q := fun h => HFL.out.trans (flE_no h)
            by_cases hlt : q < s.size
            · have g1 : decide (q < (s.size : Int)) = true := by simpa using hlt
              have p5 := eq_true (show 0 ≤ q by omega)
              have q5 := eq_true hlt
              have hx5 := bt_at s q
              by_cases hf : isFlag (bt s q) = true
              · have g2 : decide (0 ≤ ix flagBytes.data.toList (bt s q)) = true := hf
                clear stop
                unfold flagBytes at g2
                go_upto_region 10 with fail
                go_quiet ((go_at_call 48; exact Calls.quiet_of_same (ix_calls _ _ _)))
                go_upto_region 11 with fail
                have hR6 : RD (wr.drewN nq) R s q := hR5
                have hC6 : CV (wr.drewN nq) C { at_ := a, place := pl, flags := cut s p1 q, width := -1, prec := -1 } := hC5
                have K6 := K5.drewN nq
                clear r0 r1 f1 c3 f3 hR5 hC5 K5
                generalize wr.drewN nq = W at *
                have r0 := hR6.c0
                have r1 := hR6.c1
                have c3 := hC6.c3
                have f3 := blk_frozen hC6 3
                have f1 := blk_frozen hR6 1
                have w1 : IntKind.i64.wrap (q + 1) = q + 1 := i64_small (by omega) (by omega)
                have b1 : 0 ≤ q + 1 := by omega
                have b2 : q + 1 ≤ s.size := by omega
                have b3 : q ≤ q + 1 := by omega
                have hnl : (9223372036854775807 < (cut s p1 q).size + ((q + 1).toNat - q.toNat)) = False := eq_false (by have := cut_size s p1 q; omega)
                go_still_tail 21, (by kernel_rfl)
                go_wp2_with fail
                go_roundg (s.size - (q + 1)).toNat
                case measure => have := HG.out; omega
                case rel =>
                  refine ⟨q + 1, by omega, by omega, by omega, HFL.out.trans (flE_yes hlt hf), ?_, ?_, ?_⟩
                  · exact RD.set_pos (RD.set_ne hR6 hCR)
                  · have := (hC6.set3 (v := cut s p1 q ++ s.extract q.toNat (q + 1).toNat)).set_ne (i := 1) (v := .int .i64 (q + 1)) hRC
                    rw [cut_step s p1 q (by omega) (by omega) hlt] at this
                    rw [cut_step s p1 q (by omega) (by omega) hlt]
                    exact this
                  · exact ((K6.setCell ⟨C, 3, none⟩ _ (.inl (.inr rfl))).setCell ⟨R, 1, none⟩ _ (.inl (.inl rfl))).drew
              · have g2 : decide (0 ≤ ix flagBytes.data.toList (bt s q)) = false := by simpa [isFlag] using hf
                have hst := stop (fun h => hf h.2)
                clear stop
                have HST := Lib.hid hst
                clear hst
                unfold flagBytes at g2
                go_upto_region 10 with fail
                go_quiet ((go_at_call 48; exact Calls.quiet_of_same (ix_calls _ _ _)))
                go_wp2_with fail
                go_meet
                rw [HST.out]
                exact ⟨hR5, hC5, K5.drewN _, by omega, by omega⟩
            · have g1 : decide (q < (s.size : Int)) = false := by simpa using hlt
              have hst := stop (fun h => hlt h.1)
              clear stop
              have HST := Lib.hid hst
              clear hst
              go_upto_region 10 with fail
              go_quiet ((go_at_call 48; exact Calls.quiet_of_same (ix_calls _ _ _)))
              go_wp2_with fail
              go_meet
              rw [HST.out]
              exact ⟨hR5, hC5, K5.drewN _, by omega, by omega⟩
        case rest =>
          obtain ⟨hR7, hC7, K7, hq1, hq2⟩ := hcut
          generalize flE s p1 = p2 at *
          generalize ({ at_ := a, place := pl, flags := cut s p1 p2, width := -1, prec := -1 } : Cv) = c0 at *
          have p20 : 0 ≤ p2 := by omega
          clear hR4 hC4 K4
          go_wp2_with fail
          refine (take_calls _ R s p2 42 hR7 p20).mono ?_
          rintro e w8 ⟨rfl, hR8, hk8⟩
          have hC8 := hC7.chg hk8 (fun e => hRC e.symm)
          have K8 := K7.trans (hk8.mono hSR)
          clear hk8
          obtain ⟨b42, hb42⟩ : ∃ b, tk s p2 42 = b := ⟨_, rfl⟩
          rw [hb42] at hR8 ⊢
          have HB42 := Lib.hid hb42
          have hlt42 : b42 = true → p2 < s.size := fun h => tk_lt (hb42.trans h)
          clear hb42
          have f6 := blk_frozen hC8 6
          have c6 := hC8.c6
          have f4 := blk_frozen hC8 4
          have c4 := hC8.c4
          go_upto_if 107 with fail
          go_cut [] (fun wx => ∃ c' q, pwr s a p = pwB s c' q ∧ 0 ≤ q ∧ q ≤ s.size ∧ RD wx R s q ∧ CV wx C c' ∧ Chg (S2 R C) w wx)
          case first =>
            cases b42 with
            | true =>
              have hlt := hlt42 rfl
              rw [if_pos rfl, wrap_small (by omega) (by omega)] at hR8
              clear hlt42
              go_wp2_with fail
              go_meet
              refine ⟨{ c0 with wide := true }, p2 + 1, ?_, by omega, by omega, hR8.set_ne hCR, hC8.set6, K8.setCell ⟨C, 6, none⟩ _ (.inl (.inr rfl))⟩
              rw [HP.out]; unfold pwA; rw [if_pos HB42.out]
            | false =>
              rw [if_neg (by simp)] at hR8
              clear hlt42
              go_wp2_with fail
              refine (wide_calls _ R s p2 (hR8.set_ne hCR) p20 hq2 hs).mono ?_
              rintro e w9 ⟨rfl, hR9, hk9⟩
              have hC9 := CV.chg (hC8.set6 (v := false)) hk9 (fun e => hRC e.symm)
              have K9 := (K8.setCell ⟨C, 6, none⟩ (.bool false) (.inl (.inr rfl))).trans (hk9.mono hSR)
              have wp := wd_pos s p2
              clear hk9 f6 c6 f4 c4
              have f4 := blk_frozen hC9 4
              have c4 := hC9.c4
              go_wp2_with fail
              go_meet
              refine ⟨_, (wd s p2).2, ?_, by omega, wp.2.2 hq2, hR9.set_ne hCR, hC9.set4, K9.setCell ⟨C, 4, none⟩ _ (.inl (.inr rfl))⟩
              rw [HP.out]; unfold pwA; rw [if_neg (by simp [HB42.out])]
          case rest =>
            obtain ⟨c1, q, hpw, q0, q1, hR9, hC9, K9⟩ := hcut
            have HP1 := Lib.hid hpw
            clear hpw HB42 hlt42 f6 c6 f4 c4 hR8 hC8 K8 hR7 hC7 K7 HP
            go_wp2_with fail
            refine (take_calls _ R s q 46 hR9 q0).mono ?_
            rintro e w10 ⟨rfl, hR10, hk10⟩
            have hC10 := hC9.chg hk10 (fun e => hRC e.symm)
            have K10 := K9.trans (hk10.mono hSR)
            clear hk10
            obtain ⟨b46, hb46⟩ : ∃ b, tk s q 46 = b := ⟨_, rfl⟩
            rw [hb46] at hR10 ⊢
            have HB46 := Lib.hid hb46
            have hlt46 : b46 = true → q < s.size := fun h => tk_lt (hb46.trans h)
            clear hb46
            go_upto_if 114 with fail
            go_cut [] (fun wx => ∃ c' q', pwr s a p = fin s c' q' ∧ 0 ≤ q' ∧ q' ≤ s.size ∧ RD wx R s q' ∧ CV wx C c' ∧ Chg (S2 R C) w wx)
            case first =>
              cases b46 with
              | true =>
                have hlt := hlt46 rfl
                rw [if_pos rfl, wrap_small (by omega) (by omega)] at hR10
                clear hlt46
                go_wp2_with fail
                refine (take_calls _ R s (q + 1) 42 hR10 (by omega)).mono ?_
                rintro e w11 ⟨rfl, hR11, hk11⟩
                have hC11 := hC10.chg hk11 (fun e => hRC e.symm)
                have K11 := K10.trans (hk11.mono hSR)
                clear hk11
                obtain ⟨b42, hb42⟩ : ∃ b, tk s (q + 1) 42 = b := ⟨_, rfl⟩
                rw [hb42] at hR11 ⊢
                have HB42 := Lib.hid hb42
                have hlt42 : b42 = true → q + 1 < s.size := fun h => tk_lt (hb42.trans h)
                clear hb42
                have f7 := blk_frozen hC11 7
                have c7 := hC11.c7
                cases b42 with
                | true =>
                  have hlt2 := hlt42 rfl
                  rw [if_pos rfl, wrap_small (by omega) (by omega)] at hR11
                  clear hlt42
                  go_wp2_with fail
                  go_meet
                  refine ⟨{ c1 with precise := true }, q + 2, ?_, by omega, by omega, ?_, hC11.set7, K11.setCell ⟨C, 7, none⟩ _ (.inl (.inr rfl))⟩
                  · rw [HP1.out]; unfold pwB; rw [if_pos HB46.out, if_pos HB42.out]
                  · have := hR11.set_ne (i := 7) (v := .bool true) hCR
                    rwa [show q + 1 + 1 = q + 2 from by omega] at this
                | false =>
                  rw [if_neg (by simp)] at hR11
                  clear hlt42
                  go_wp2_with fail
                  refine (number_calls _ R s (q + 1) 3 (hR11.set_ne hCR) (by omega) hs (by omega) (by omega)).mono ?_
                  rw [show Int.toNat 3 = 3 from rfl]
                  rintro e w12 ⟨rfl, hR12, hk12⟩
                  have hC12 := CV.chg (hC11.set7 (v := false)) hk12 (fun e => hRC e.symm)
                  have K12 := (K11.setCell ⟨C, 7, none⟩ (.bool false) (.inl (.inr rfl))).trans (hk12.mono hSR)
                  have np := nm_pos s 3 (q + 1)
                  clear hk12 f7 c7
                  have f5 := blk_frozen hC12 5
                  have c5 := hC12.c5
                  by_cases hneg : (nm s 3 (q + 1)).1 < 0
                  · have g : decide ((nm s 3 (q + 1)).1 < 0) = true := by simpa using hneg
                    have HX := Lib.hid (show (pwr s a p).1 = false from by rw [HP1.out]; unfold pwB; rw [if_pos HB46.out, if_neg (by simp [HB42.out]), if_pos hneg])
                    go_wp2_with fail
                    go_ret
                    rw [HX.out]
                    exact ⟨rfl, K12.setCell ⟨C, 5, none⟩ _ (.inl (.inr rfl)), fun h => by cases h⟩
                  · have g : decide ((nm s 3 (q + 1)).1 < 0) = false := by simpa using hneg
                    have HX := Lib.hid (show pwr s a p = fin s { c1 with precise := false, prec := (nm s 3 (q + 1)).1 } (nm s 3 (q + 1)).2 from by rw [HP1.out]; unfold pwB; rw [if_pos HB46.out, if_neg (by simp [HB42.out]), if_neg hneg])
                    clear hneg
                    go_wp2_with fail
                    go_meet
                    exact ⟨_, _, HX.out, by omega, np.2.2 (by omega), hR12.set_ne hCR, hC12.set5, K12.setCell ⟨C, 5, none⟩ _ (.inl (.inr rfl))⟩
              | false =>
                rw [if_neg (by simp)] at hR10
                clear hlt46
                go_wp2_with fail
                go_meet
                exact ⟨c1, q, by rw [HP1.out]; unfold pwB; rw [if_neg (by simp [HB46.out])], q0, q1, hR10, hC10, K10⟩
            case rest =>
              obtain ⟨c2, q', hpw, r0, r1, hR13, hC13, K13⟩ := hcut
              have HP2 := Lib.hid hpw
              clear hpw HP1 HB46 hlt46 hR10 hC10 K10 hR9 hC9 K9
              go_wp2_with fail
              refine (next_calls _ R s q' hR13 r0 r1).mono ?_
              rintro e w14 ⟨rfl, hR14, hk14⟩
              have hC14 := hC13.chg hk14 (fun e => hRC e.symm)
              have K14 := K13.trans (hk14.mono hSR)
              clear hk14 hR13 hC13 K13
              have f8 := blk_frozen hC14 8
              have c8 := hC14.c8
              have f1 := blk_frozen hR14 1
              have d1 := hR14.c1
              have e1 : wrap64 (q' + 1) = q' + 1 := wrap_small (by omega) (by omega)
              have HX := Lib.hid (show (fin s c2 q').1 = (nx s q' != 0 && isLetter (nx s q')) from rfl)
              have HY := Lib.hid (show (fin s c2 q').2 = ({ c2 with letter := nx s q' }, q' + 1) from rfl)
              have KE : Chg (S2 R C) w ((w14.setCell ⟨C, 8, none⟩ (.int .u8 (nx s q'))).setCell ⟨R, 1, none⟩ (.int .i64 (q' + 1))) :=
                (K14.setCell ⟨C, 8, none⟩ _ (.inl (.inr rfl))).setCell ⟨R, 1, none⟩ _ (.inl (.inl rfl))
              have RE : RD ((w14.setCell ⟨C, 8, none⟩ (.int .u8 (nx s q'))).setCell ⟨R, 1, none⟩ (.int .i64 (q' + 1))) R s (q' + 1) := (hR14.set_ne hCR).set_pos
              have CE : CV ((w14.setCell ⟨C, 8, none⟩ (.int .u8 (nx s q'))).setCell ⟨R, 1, none⟩ (.int .i64 (q' + 1))) C { c2 with letter := nx s q' } := (hC14.set8).set_ne hRC
              by_cases hz : nx s q' = 0
              · have g : (nx s q' != 0) = false := by rw [hz]; rfl
                have HG := Lib.hid g
                clear hz
                go_wp2_with fail
                go_ret
                rw [HP2.out, HX.out, HY.out, HG.out]
                exact ⟨rfl, KE, fun h => by simp at h⟩
              · have g : (nx s q' != 0) = true := by simpa using hz
                have HG := Lib.hid g
                have HL := Lib.hid (show isLetter (nx s q') = decide (0 ≤ ix letterBytes.data.toList (nx s q')) from rfl)
                unfold letterBytes at HL
                clear hz
                go_wp2_with ((go_at_call 48; refine (ix_calls _ _ _).mono ?_; rintro e w' ⟨rfl, rfl⟩))
                go_ret
                rw [HP2.out, HX.out, HY.out, HG.out, HL.out]
                exact ⟨rfl, KE, fun _ => ⟨RE, CE⟩⟩
end Go.Proofs.YtemogjpgkcbaiaaGreatDoor.Sp
end
