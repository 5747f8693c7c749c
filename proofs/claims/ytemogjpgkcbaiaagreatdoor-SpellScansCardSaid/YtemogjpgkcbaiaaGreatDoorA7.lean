/- Part 7 of 11 of the proof of SpellScans: contracts of functions that its law calls; no condition. -/
import Derived.Test.YtemogjpgkcbaiaaGreatDoorA6
section
namespace Go.Proofs.YtemogjpgkcbaiaaGreatDoor.Sp
open Go.RowKit Go.Proofs.YtemogjpgkcbaiaaGreatDoorW.PrintWords Go.Proofs.YtemogjpgkcbaiaaGreatDoorW.PrintLast Go.Proofs.YtemogjpgkcbaiaaGreatDoorW.PrintMore
set_option linter.unusedVariables false
set_option linter.unusedSimpArgs false
set_option maxRecDepth 100000
def vlb (c : Int) : Int := if 48 ≤ c ∧ c ≤ 57 then c - 48 else if 97 ≤ c ∧ c ≤ 122 then c - 87 else if 65 ≤ c ∧ c ≤ 90 then c - 55 else 36
theorem vlb_range (c : Int) : 0 ≤ vlb c ∧ vlb c ≤ 36 := by unfold vlb; split <;> (try split) <;> (try split) <;> omega
theorem ret_i64 {a b : Int} (h : a = b) : Ending.returned (.int .i64 a) = .returned (.int .i64 b) := by rw [h]
set_option maxHeartbeats 1000000 in
theorem bigvalue_calls (c : Int) (h0 : 0 ≤ c) (h1 : c ≤ 255) (w : World) : Calls Tryz.prog 163 #[.int .u8 c] w fun e w' => e = .returned (.int .i64 (vlb c)) ∧ w' = w := by
  by_cases a1 : 48 ≤ c
  · by_cases a2 : c ≤ 57
    · have hv : vlb c = c - 48 := by unfold vlb; rw [if_pos ⟨a1, a2⟩]
      have HV := Lib.hid hv
      clear hv
      go_enter Tryz.func163, Tryz.ntmps163
      go_wp2
      go_ret
      exact ⟨by rw [HV.out]; try (apply ret_i64; omega), rfl⟩
    · by_cases a3 : 97 ≤ c
      · by_cases a4 : c ≤ 122
        · have hv : vlb c = c - 87 := by unfold vlb; rw [if_neg (by omega), if_pos ⟨a3, a4⟩]
          have HV := Lib.hid hv
          clear hv
          go_enter Tryz.func163, Tryz.ntmps163
          go_wp2
          go_ret
          exact ⟨by rw [HV.out]; apply ret_i64; omega, rfl⟩
        · have hv : vlb c = 36 := by unfold vlb; rw [if_neg (by omega), if_neg (by omega), if_neg (by omega)]
          have HV := Lib.hid hv
          have a5 : 65 ≤ c := by omega
          have a6 : ¬ c ≤ 90 := by omega
          clear hv
          go_enter Tryz.func163, Tryz.ntmps163
          go_wp2
          go_ret
          exact ⟨by rw [HV.out]; rfl, rfl⟩
      · by_cases a5 : 65 ≤ c
        · by_cases a6 : c ≤ 90
          · have hv : vlb c = c - 55 := by unfold vlb; rw [if_neg (by omega), if_neg (by omega), if_pos ⟨a5, a6⟩]
            have HV := Lib.hid hv
            clear hv
            go_enter Tryz.func163, Tryz.ntmps163
            go_wp2
            go_ret
            exact ⟨by rw [HV.out]; apply ret_i64; omega, rfl⟩
          · have hv : vlb c = 36 := by unfold vlb; rw [if_neg (by omega), if_neg (by omega), if_neg (by omega)]
            have HV := Lib.hid hv
            clear hv
            go_enter Tryz.func163, Tryz.ntmps163
            go_wp2
            go_ret
            exact ⟨by rw [HV.out]; rfl, rfl⟩
        · have hv : vlb c = 36 := by unfold vlb; rw [if_neg (by omega), if_neg (by omega), if_neg (by omega)]
          have HV := Lib.hid hv
          clear hv
          go_enter Tryz.func163, Tryz.ntmps163
          go_wp2
          go_ret
          exact ⟨by rw [HV.out]; rfl, rfl⟩
  · have hv : vlb c = 36 := by unfold vlb; rw [if_neg (by omega), if_neg (by omega), if_neg (by omega)]
    have HV := Lib.hid hv
    have a3 : ¬ 97 ≤ c := by omega
    have a5 : ¬ 65 ≤ c := by omega
    clear hv
    go_enter Tryz.func163, Tryz.ntmps163
    go_wp2
    go_ret
    exact ⟨by rw [HV.out]; rfl, rfl⟩
def isWhb (c : Int) : Bool := decide (9 ≤ c ∧ c ≤ 13) || c == 32
theorem bigwhite_calls (c : Int) (w : World) : Calls Tryz.prog 141 #[.int .u8 c] w fun e w' => e = .returned (.bool (isWhb c)) ∧ w' = w := by
  have ht : ∀ {a b : Bool}, a = b → Ending.returned (.bool a) = .returned (.bool b) := fun h => by rw [h]
  by_cases a1 : 9 ≤ c
  · by_cases a2 : c ≤ 13
    · have HV := Lib.hid (show isWhb c = true by unfold isWhb; simp [a1, a2])
      go_enter Tryz.func141, Tryz.ntmps141
      go_wp2
      go_ret
      exact ⟨by rw [HV.out]; rfl, rfl⟩
    · have HV := Lib.hid (show isWhb c = (c == 32) by unfold isWhb; simp [a1, a2])
      go_enter Tryz.func141, Tryz.ntmps141
      go_wp2
      go_ret
      exact ⟨by rw [HV.out]; rfl, rfl⟩
  · have HV := Lib.hid (show isWhb c = (c == 32) by unfold isWhb; simp [a1])
    go_enter Tryz.func141, Tryz.ntmps141
    go_wp2
    go_ret
    exact ⟨by rw [HV.out]; rfl, rfl⟩
theorem far_calls (b : Int) (h0 : 2 ≤ b) (h1 : b ≤ 36) (w : World) : Calls Tryz.prog 110 #[.int .i64 b] w fun e w' => e = .returned (.bool false) ∧ w' = w := by
  go_enter Tryz.func110, Tryz.ntmps110
  go_wp2
  go_ret
  refine ⟨?_, rfl⟩
  show Ending.returned (.bool (decide (b < 2) || decide (36 < b))) = _
  rw [decide_eq_false (by omega), decide_eq_false (by omega)]; rfl
def numv (v : Value) (neg long : Bool) : Value := .agg #[v, .bool neg, .bool long]
theorem of_calls (A : Option Addr) (n c : Nat) (neg : Bool) (w : World) : Calls Tryz.prog 167 #[.slice A n c, .bool neg] w fun e w' => e = .returned (numv (.slice A n c) (neg && decide (0 < n)) false) ∧ Below w.heap.size w w' := by
  cases neg
  · go_enter Tryz.func167, Tryz.ntmps167
    go_wp2
    exact bodyPost_ret (v := numv (.slice A n c) false false) (by simp [results, Tryz.results167, go_sem, numv]) rfl ⟨rfl, by repeat (first | exact Below.refl _ _ | apply below_alloc | apply below_drew1)⟩
  · go_enter Tryz.func167, Tryz.ntmps167
    go_wp2
    exact bodyPost_ret (v := numv (.slice A n c) (decide (0 < n)) false) (by simp [results, Tryz.results167, go_sem, numv]) rfl ⟨rfl, by repeat (first | exact Below.refl _ _ | apply below_alloc | apply below_drew1)⟩
end Go.Proofs.YtemogjpgkcbaiaaGreatDoor.Sp
end
section
namespace Go.Proofs.YtemogjpgkcbaiaaGreatDoor.Sp
open Go.RowKit Go.Proofs.YtemogjpgkcbaiaaGreatDoorW.PrintWords Go.Proofs.YtemogjpgkcbaiaaGreatDoorW.PrintLast Go.Proofs.YtemogjpgkcbaiaaGreatDoorW.PrintMore
set_option linter.unusedVariables false
set_option linter.unusedSimpArgs false
set_option maxRecDepth 100000
def dv (c : UInt8) : Nat := (vlb c.toNat).toNat
def dOk (b : Nat) (c : UInt8) : Bool := decide (dv c < b)
def rdok (b : Nat) (l : List UInt8) : Bool := !l.isEmpty && l.all (dOk b)
def foV (b : Nat) (l : List UInt8) (a : Nat) : Nat := l.foldl (fun a c => dv c + b * a) a
theorem foV_append (b : Nat) (l m : List UInt8) (a : Nat) : foV b (l ++ m) a = foV b m (foV b l a) := by simp [foV]
theorem foV_ge {b : Nat} (hb : 1 ≤ b) : ∀ (l : List UInt8) (a : Nat), a ≤ foV b l a
  | [], a => Nat.le_refl _
  | c :: l, a => by
    show a ≤ foV b l (dv c + b * a)
    have h1 := foV_ge hb l (dv c + b * a)
    have h2 : 1 * a ≤ b * a := Nat.mul_le_mul_right _ hb
    omega
theorem foV_pow {b : Nat} : ∀ (l : List UInt8) (a : Nat), b ^ l.length * a ≤ foV b l a
  | [], a => by simp [foV]
  | c :: l, a => by
    show _ ≤ foV b l (dv c + b * a)
    have h1 := foV_pow (b := b) l (dv c + b * a)
    rw [List.length_cons, Nat.pow_succ, Nat.mul_assoc]
    rw [Nat.mul_add] at h1
    omega
theorem dv_48 : dv 48 = 0 := by decide
theorem trimLeftB_cons (c : UInt8) (l : List UInt8) : Lib.trimLeftB (c :: l) 48 = if c = 48 then Lib.trimLeftB l 48 else c :: l := by
  unfold Lib.trimLeftB
  by_cases h : c = 48 <;> simp [List.dropWhile_cons, h]
theorem foV_trim (b : Nat) : ∀ l : List UInt8, foV b (Lib.trimLeftB l 48) 0 = foV b l 0
  | [] => rfl
  | c :: l => by
    rw [trimLeftB_cons]
    by_cases h : c = 48
    · subst h
      rw [if_pos rfl, foV_trim b l]
      show _ = foV b l (dv 48 + b * 0)
      rw [dv_48, Nat.mul_zero]
    · rw [if_neg h]
theorem trim_len : ∀ l : List UInt8, (Lib.trimLeftB l 48).length ≤ l.length
  | [] => Nat.le_refl _
  | c :: l => by
    rw [trimLeftB_cons]
    split
    · have := trim_len l; simp; omega
    · exact Nat.le_refl _
theorem dv_pos {c : UInt8} (h : c ≠ 48) : 1 ≤ dv c := by
  have : ∀ n : Fin 256, n.val ≠ 48 → 1 ≤ (vlb (n.val : Nat)).toNat := by decide
  have h2 := this ⟨c.toNat, c.toNat_lt⟩ (fun e => h (UInt8.toNat_inj.1 e))
  exact h2
theorem trim_great {b : Nat} (hb : 2 ≤ b) : ∀ l : List UInt8, M2010 < (Lib.trimLeftB l 48).length → 2 ^ M2010 ≤ foV b l 0
  | [], h => absurd h (by simp [Lib.trimLeftB])
  | c :: l, h => by
    rw [trimLeftB_cons] at h
    split at h
    · rename_i hc
      subst hc
      have := trim_great hb l h
      show _ ≤ foV b l (dv 48 + b * 0)
      rw [dv_48, Nat.mul_zero]; exact this
    · rename_i hc
      show _ ≤ foV b l (dv c + b * 0)
      rw [Nat.mul_zero, Nat.add_zero]
      have h1 := foV_pow (b := b) l (dv c)
      have h2 := dv_pos hc
      have h3 : M2010 ≤ l.length := by rw [List.length_cons] at h; exact Nat.le_of_lt_succ h
      refine Nat.le_trans ?_ h1
      refine Nat.le_trans ?_ (Nat.le_mul_of_pos_right _ h2)
      exact Nat.le_trans (Nat.pow_le_pow_left hb _) (Nat.pow_le_pow_right (by omega) h3)
def NM (neg : Bool) (V : Nat) (l : List Nat) (neg' long' : Bool) : Prop :=
  (2 ^ M2010 ≤ V ∧ l = [] ∧ neg' = neg ∧ long' = true) ∨ (V < 2 ^ M2010 ∧ l = leN B32 V ∧ neg' = (neg && decide (V ≠ 0)) ∧ long' = !fitsN V)
theorem R_chg {α : Type} {d : Kd α} {e base : Nat} {S ok : Nat → Prop} {w w' : World} {v : Value} {xs : List α} (h : d.R e w base ok v xs) (c : Chg S w w') (hs : ∀ k, ok k → ¬ S k) : d.R e w' base ok v xs :=
  Kd.R_step h (fun k ho hk => c.block k hk (hs k ho))
def RdPost (b : Nat) (s : ByteArray) (neg : Bool) (w : World) (e : Ending) (w' : World) : Prop :=
  Chg (fun _ => False) w w' ∧
  ((rdok b s.data.toList = false ∧ e = .returned (.tuple #[numv (.slice none 0 0) false false, .bool false])) ∨
   (rdok b s.data.toList = true ∧ ∃ v l neg' long', e = .returned (.tuple #[numv v neg' long', .bool true]) ∧ NM neg (foV b s.data.toList 0) l neg' long' ∧ Kd.R (Kd.int .u32) 149 w' w.heap.size (fun k => w.heap.size ≤ k) v (ci l)))
theorem bt_data (s : ByteArray) (k : Nat) (h : k < s.size) : bt s (k : Int) = ((s.data.toList[k]'(by rw [Array.length_toList]; exact h)).toNat : Int) := by
  unfold bt
  rw [dif_pos (by rw [Int.toNat_natCast]; exact h)]
  simp only [Int.toNat_natCast, Array.getElem_toList]
  rfl
theorem bt_nat (s : ByteArray) (k : Nat) : ∀ h : k < s.size, ((s[k]'h).toNat : Int) = bt s (k : Int) := fun h => bt_at s (k : Int) (by rw [Int.toNat_natCast]; exact h)
theorem dv_bt (s : ByteArray) (k : Nat) (h : k < s.size) : ∃ c, s.data.toList[k]? = some c ∧ bt s (k : Int) = (c.toNat : Int) ∧ vlb (bt s (k : Int)) = (dv c : Int) := by
  refine ⟨_, List.getElem?_eq_getElem (by rw [Array.length_toList]; exact h), bt_data s k h, ?_⟩
  rw [bt_data s k h]
  unfold dv
  have := vlb_range ((s.data.toList[k]'(by rw [Array.length_toList]; exact h)).toNat : Int)
  omega
theorem all_snoc {p : UInt8 → Bool} {l : List UInt8} {k : Nat} {c : UInt8} (h : (l.take k).all p = true) (hc : l[k]? = some c) (hp : p c = true) : (l.take (k + 1)).all p = true := by
  rw [List.take_add_one, hc, List.all_append, h]
  simp [hp]
theorem all_not {p : UInt8 → Bool} {l : List UInt8} {k : Nat} {c : UInt8} (hc : l[k]? = some c) (hp : p c = false) : l.all p = false := by
  rw [List.all_eq_false]
  exact ⟨c, List.mem_of_getElem? hc, by simp [hp]⟩
def LR1 (b : Nat) (s : ByteArray) (W0 : World) (gk : Nat) (v14 : Value) (wr : World) : Prop :=
  ∃ k : Nat, v14 = .int .i64 k ∧ wr = W0 ∧ k ≤ s.size ∧ gk = s.size - k ∧ (s.data.toList.take k).all (dOk b) = true
def NB (w : World) (B : Nat) (v : Value) (neg long : Bool) : Prop := w.heap[B]? = some (.cells #[v, .bool neg, .bool long] 139 (0, 0))
theorem NB.lt {w : World} {B : Nat} {v : Value} {n l : Bool} (h : NB w B v n l) : B < w.heap.size := (Array.getElem?_eq_some_iff.1 h).1
theorem NB.set3 {w : World} {B : Nat} {v v' : Value} {n l n' l' : Bool} (h : NB w B v n l) : NB (((w.setCell ⟨B, 0, none⟩ v').setCell ⟨B, 1, none⟩ (.bool n')).setCell ⟨B, 2, none⟩ (.bool l')) B v' n' l' :=
  heap_setCell_same (heap_setCell_same (heap_setCell_same h))
theorem NB.chg3 {S : Nat → Prop} {a w : World} {B : Nat} {x y z : Value} (h : Chg S a w) (hB : S B ∨ a.heap.size ≤ B) : Chg S a (((w.setCell ⟨B, 0, none⟩ x).setCell ⟨B, 1, none⟩ y).setCell ⟨B, 2, none⟩ z) :=
  ((h.setCell ⟨B, 0, none⟩ _ hB).setCell ⟨B, 1, none⟩ _ hB).setCell ⟨B, 2, none⟩ _ hB
theorem read_end {tmps : Array Value} {W : World} {B : Nat} {v : Value} {n l ok : Bool} {R : Ending → World → Prop} (h6 : tmps[6]? = some (.pointer (some ⟨B, 0, none⟩))) (h7 : tmps[7]? = some (.bool ok)) (hB : NB W B v n l) (h : R (.returned (.tuple #[numv v n l, .bool ok])) W) :
    bodyPost Tryz.prog Tryz.f132 R Exit.ret ⟨tmps, []⟩ W := by
  have c0 := cell_of hB 0 rfl
  have c1 := cell_of hB 1 rfl
  have c2 := cell_of hB 2 rfl
  exact bodyPost_ret (v := .tuple #[numv v n l, .bool ok]) (by simp [results, Tryz.results132, go_sem, h6, h7, c0, c1, c2, numv]) rfl h
def LR2 (b : Nat) (tl : List UInt8) (w W0 : World) (gk : Nat) (v9 v37 : Value) (wr : World) : Prop :=
  ∃ k : Nat, v37 = .int .i64 k ∧ k ≤ tl.length ∧ gk = tl.length - k ∧ foV b (tl.take k) 0 < 2 ^ M2010 ∧
    Kd.R (Kd.int .u32) 149 wr w.heap.size (fun j => W0.heap.size ≤ j) v9 (ci (leN B32 (foV b (tl.take k) 0))) ∧ Chg (fun _ => False) W0 wr
theorem pow_B63 : 2 ^ M2010 * 64 ≤ B32 ^ 63 := by decide +kernel
theorem len_small {V : Nat} (h : V < 2 ^ M2010 * 64) : (leN B32 V).length ≤ 63 := (leN_length B32_2 63 V).2 (Nat.lt_of_lt_of_le h pow_B63)
theorem foV_snoc {b : Nat} {tl : List UInt8} {k : Nat} {c : UInt8} (hc : tl[k]? = some c) : foV b (tl.take (k + 1)) 0 = dv c + b * foV b (tl.take k) 0 := by
  rw [List.take_add_one, hc, foV_append]; rfl
theorem foV_take {b : Nat} (hb : 1 ≤ b) (tl : List UInt8) (k : Nat) : foV b (tl.take k) 0 ≤ foV b tl 0 := by
  have : foV b tl 0 = foV b (tl.drop k) (foV b (tl.take k) 0) := by rw [← foV_append, List.take_append_drop]
  rw [this]; exact foV_ge hb _ _
theorem dv_lt (c : UInt8) : dv c ≤ 36 := by unfold dv; have := vlb_range (c.toNat : Int); omega
set_option maxHeartbeats 2000000 in
theorem read_big_calls (w : World) (s : ByteArray) (hs : s.size ≤ 100000) (b : Nat) (hb : 2 ≤ b) (hb2 : b ≤ 36) (neg : Bool) :
    Calls Tryz.prog 132 #[.string s, .int .i64 (b : Int), .bool neg] w (RdPost b s neg w) := by
  go_enter Tryz.func132, Tryz.ntmps132
  go_wp2_with fail
  obtain ⟨W0, hW0⟩ : ∃ W0, W0 = w.alloc (Obj.cells #[Value.slice none 0 0, Value.bool false, Value.bool false] 139) := ⟨_, rfl⟩
  have h6 : W0.heap[w.heap.size]? = some (.cells #[Value.slice none 0 0, Value.bool false, Value.bool false] 139 (0, 0)) := by rw [hW0]; exact World.alloc_heap_new w _
  have k0 : Chg (fun _ => False) w W0 := by rw [hW0]; exact (Chg.refl _ w).alloc _
  have z0 : W0.heap.size = w.heap.size + 1 := by rw [hW0]; simp
  rw [← hW0]
  clear hW0
  obtain ⟨B, hB⟩ : ∃ B, B = w.heap.size := ⟨_, rfl⟩
  rw [← hB] at h6 z0 ⊢
  have HB := Lib.hid hB
  have H6 := Lib.hid h6
  have HZ := Lib.hid z0
  clear hB h6 z0
  go_loopg [14] s.size (fun gk v14 wr => LR1 b s W0 gk v14 wr)
  case atStart => exact ⟨0, rfl, rfl, by omega, by omega, by simp⟩
  case round =>
    obtain ⟨k, rfl, rfl, hk, hg, hA⟩ := hrel
    have HA := Lib.hid hA
    have HG := Lib.hid hg
    clear hA hg
    obtain ⟨i, hi⟩ : ∃ i : Int, i = (k : Int) := ⟨_, rfl⟩
    rw [← hi]
    by_cases hlt : i < s.size
    · have hb1 := bt_at s i
      have hr := bt_range s i
      obtain ⟨c, hc, hcb, hd⟩ := dv_bt s k (by omega)
      rw [← hi] at hd hcb
      have p4 : (0 ≤ i) = True := eq_true (by omega)
      have q4 : (i < (s.size : Int)) = True := eq_true (by omega)
      have HL := Lib.hid hlt
      have g1 : decide (i < (s.size : Int)) = true := by simpa using hlt
      have w1 : IntKind.i64.wrap (i + 1) = i + 1 := i64_small (by omega) (by omega)
      have hcall := bigvalue_calls _ hr.1 hr.2 wr
      rw [hd] at hcall
      have HC := Lib.hid hcall
      have HCC := Lib.hid hc
      have HI := Lib.hid hi
      clear hcb hd hlt hc hcall hr hi hk
      by_cases hdb : dv c < b
      · have g2 : decide (b ≤ dv c) = false := by simp; omega
        have HDB := Lib.hid hdb
        clear hdb
        go_wp2_with fail
        refine HC.out.mono ?_
        rintro e w' ⟨rfl, rfl⟩
        go_wp2_with fail
        go_roundg (s.size - (k + 1))
        case measure => have := HG.out; have := HL.out; have := HI.out; omega
        case rel => exact ⟨k + 1, by rw [HI.out]; simp, rfl, by have := HL.out; have := HI.out; omega, rfl, all_snoc HA.out HCC.out (by unfold dOk; simpa using HDB.out)⟩
      · have g2 : decide (b ≤ dv c) = true := by simp; omega
        have HDB := Lib.hid hdb
        clear hdb
        go_wp2_with fail
        refine HC.out.mono ?_
        rintro e w' ⟨rfl, rfl⟩
        have h6 := H6.out
        have c60 := cell_of h6 0 rfl
        have f60 := blk_frozen h6 0
        have c61 := cell_of h6 1 rfl
        have f61 := blk_frozen h6 1
        have c62 := cell_of h6 2 rfl
        have f62 := blk_frozen h6 2
        go_wp2_with fail
        refine read_end rfl rfl (NB.set3 h6) ⟨NB.chg3 k0 (.inr (by rw [HB.out]; exact Nat.le_refl _)), .inl ⟨?_, rfl⟩⟩
        unfold rdok
        rw [all_not HCC.out (by unfold dOk; simpa using HDB.out), Bool.and_false]
    · have hks : k = s.size := by omega
      have g1 : decide (i < (s.size : Int)) = false := by simpa using hlt
      have hall : s.data.toList.all (dOk b) = true := by
        have := HA.out
        rwa [hks, List.take_of_length_le (by rw [Array.length_toList]; exact Nat.le_refl _)] at this
      have HALL := Lib.hid hall
      have g0 : decide (i < (0 : Int)) = false := by simp; omega
      clear hall hks hlt hi hk
      by_cases hemp : s = ⟨#[]⟩
      · subst hemp
        have h6 := H6.out
        have c60 := cell_of h6 0 rfl
        have f60 := blk_frozen h6 0
        have c61 := cell_of h6 1 rfl
        have f61 := blk_frozen h6 1
        have c62 := cell_of h6 2 rfl
        have f62 := blk_frozen h6 2
        go_wp2_with fail
        exact read_end rfl rfl (NB.set3 h6) ⟨NB.chg3 k0 (.inr (by rw [HB.out]; exact Nat.le_refl _)), .inl ⟨rfl, rfl⟩⟩
      · have hne := empty_false hemp
        have HNE := Lib.hid hemp
        have hok : rdok b s.data.toList = true := by
          unfold rdok
          rw [HALL.out, Bool.and_true]
          rw [Lib.toList_data] at hne
          rw [hne]; rfl
        have HOK := Lib.hid hok
        have htr : ∀ W, Calls Tryz.prog 164 #[.string s, .string ⟨#[48]⟩] W fun e w' => e = .returned (.string ⟨(Lib.trimLeftB s.data.toList 48).toArray⟩) ∧ w' = W := fun W => Tryz.strings_TrimLeft_one s 48 (by decide) W
        obtain ⟨tl, htl⟩ : ∃ tl, tl = Lib.trimLeftB s.data.toList 48 := ⟨_, rfl⟩
        rw [← htl] at htr
        have HTR := Lib.hid htr
        have HTL := Lib.hid htl
        clear hok hemp htr htl
        go_wp2_with fail
        refine (HTR.out _).mono ?_
        rintro e w' ⟨rfl, rfl⟩
        have htlen : tl.length ≤ 100000 := by rw [HTL.out]; have h1 := trim_len s.data.toList; have h2 : s.data.toList.length = s.size := Array.length_toList; omega
        have hts : (⟨tl.toArray⟩ : ByteArray).size = tl.length := by simp [ByteArray.size]
        have HTS := Lib.hid hts
        clear hts
        by_cases hlong : 2010 < tl.length
        · have h6 := H6.out
          have c60 := cell_of h6 0 rfl
          have f60 := blk_frozen h6 0
          have c61 := cell_of h6 1 rfl
          have f61 := blk_frozen h6 1
          have c62 := cell_of h6 2 rfl
          have f62 := blk_frozen h6 2
          have hV : 2 ^ M2010 ≤ foV b s.data.toList 0 := trim_great hb _ (by rw [← HTL.out]; exact hlong)
          have HV := Lib.hid hV
          clear hV
          obtain ⟨ts, hts⟩ : ∃ ts : ByteArray, ts = ⟨tl.toArray⟩ := ⟨_, rfl⟩
          rw [← hts]
          have h2 : 2010 < ts.size := by rw [hts, HTS.out]; exact hlong
          clear hts hlong
          go_wp2_with fail
          exact read_end rfl rfl (NB.set3 h6) ⟨NB.chg3 k0 (.inr (by rw [HB.out]; exact Nat.le_refl _)), .inr ⟨HOK.out, _, [], neg, true, rfl, .inl ⟨HV.out, rfl, rfl, rfl⟩, Kd.R_nil _ _ _ _ _⟩⟩
        · obtain ⟨ts, hts⟩ : ∃ ts : ByteArray, ts = ⟨tl.toArray⟩ := ⟨_, rfl⟩
          rw [← hts]
          have h2 : decide ((2010 : Int) < (ts.size : Int)) = false := by rw [hts, HTS.out]; simp; omega
          have h2z : ts.size = tl.length := by rw [hts, HTS.out]
          have htd : ts.data.toList = tl := by rw [hts]
          have HTD := Lib.hid htd
          have H2Z := Lib.hid h2z
          clear htd h2z hts HTS hne hlong
          have htl2 : tl.length ≤ 2010 := by have := of_decide_eq_false h2; have := H2Z.out; omega
          clear g0 g1
          go_wp2_with fail
          go_loopg [9, 37] tl.length (fun gk v9 v37 wr => LR2 b tl w w' gk v9 v37 wr)
          case atStart => exact ⟨0, rfl, by omega, by omega, Nat.two_pow_pos _, by rw [show foV b (tl.take 0) 0 = 0 from rfl, leN_zero]; exact Kd.R_nil _ _ _ _ _, Chg.refl _ _⟩
          case round =>
            obtain ⟨k2, rfl, hk2, hg2, hV, hR, hC⟩ := hrel
            obtain ⟨A9, c9, rfl, hc9, hread⟩ := Kd.R_reads hR
            have z6 := H6.out
            have h6 : NB wr B (.slice none 0 0) false false := (hC.block B (by rw [HZ.out]; omega) (fun h => h)).trans z6
            clear z6
            obtain ⟨i2, hi2⟩ : ∃ i : Int, i = (k2 : Int) := ⟨_, rfl⟩
            rw [← hi2]
            have HV := Lib.hid hV
            have HG2 := Lib.hid hg2
            have hlen := len_small (show foV b (tl.take k2) 0 < 2 ^ M2010 * 64 by omega)
            clear hV hg2
            by_cases hlt2 : k2 < tl.length
            · obtain ⟨c, hcb⟩ : ∃ c, tl[k2]? = some c := ⟨_, List.getElem?_eq_getElem hlt2⟩
              have hbt := bt_at ts i2
              have hr2 := bt_range ts i2
              obtain ⟨c', hc', hcb', hd2⟩ := dv_bt ts k2 (by rw [H2Z.out]; exact hlt2)
              rw [HTD.out, hcb] at hc'
              obtain rfl := Option.some.inj hc'
              rw [← hi2] at hd2
              have p4 : (0 ≤ i2) = True := eq_true (by omega)
              have q4 : (i2 < (ts.size : Int)) = True := eq_true (by rw [H2Z.out]; omega)
              have g1 : decide (i2 < (ts.size : Int)) = true := by rw [H2Z.out]; simp; omega
              have w1 : IntKind.i64.wrap (i2 + 1) = i2 + 1 := i64_small (by omega) (by omega)
              have hcall := fun W => bigvalue_calls _ hr2.1 hr2.2 W
              simp only [hd2] at hcall
              have HC2 := Lib.hid hcall
              have hdl := dv_lt c
              have u1 : IntKind.u32.wrap (b : Int) = (b : Int) := wraps_u32 _ (by omega) (by omega)
              have u2 : IntKind.u32.wrap (dv c : Int) = (dv c : Int) := wraps_u32 _ (by omega) (by omega)
              have hsn := foV_snoc (b := b) hcb
              have hsm := small_f (foV b (tl.take k2) 0) b (dv c) (by unfold B32; omega) (by unfold B32; omega) (by omega) 3000 (by omega)
              rw [← hsn] at hsm
              have hV2 : foV b (tl.take (k2 + 1)) 0 < 2 ^ M2010 * 64 := by
                rw [hsn]
                have h1 : b * foV b (tl.take k2) 0 ≤ 36 * foV b (tl.take k2) 0 := Nat.mul_le_mul_right _ hb2
                have := HV.out
                omega
              have hlen2 := len_small hV2
              obtain ⟨r, hbits, hr⟩ := bits_f M2010 rfl (leN B32 (foV b (tl.take (k2 + 1)) 0)) (by omega) (leN_dg B32_2 _) 3000 (by omega)
              rw [vN_leN B32_2] at hr
              have HSM := Lib.hid hsm
              have HBI := Lib.hid hbits
              have HR := Lib.hid hr
              have HLT := Lib.hid hlt2
              have HI2 := Lib.hid hi2
              clear hcb' hd2 hcall hc' hsn hsm hbits hr hlt2 hr2 hi2 hcb hk2 hdl
              go_wp2_with fail
              refine (HC2.out _).mono ?_
              rintro e w3 ⟨rfl, rfl⟩
              go_wp2_with fail
              refine (Psmall.big_nat_small.calls 3000 A9 c9 _ (b : Int) (dv c : Int) _ w3 hread hc9 HSM.out).mono ?_
              rintro e w4 ⟨v4, rfl, hR4, hB4⟩
              obtain ⟨A10, c10, rfl, hc10, hread10⟩ := Kd.R_reads hR4
              have hC4 : Chg (fun _ => False) w' w4 := hC.trans (Chg.of_below hB4)
              have h64 : NB w4 B (.slice none 0 0) false false := (hB4.block B h6.lt).trans h6
              have hR5 : Kd.R (Kd.int .u32) 149 w4 w.heap.size (fun j => w'.heap.size ≤ j) (.slice A10 (ci (leN B32 (foV b (tl.take (k2 + 1)) 0))).length c10) (ci (leN B32 (foV b (tl.take (k2 + 1)) 0))) := by
                have hz := hC.size
                have hz2 := HZ.out
                have hz3 := HB.out
                exact Kd.R_lower (Kd.R_mono (Kd.R_bound hR4) (fun j hj => by have := hj.2.1; omega)) (by omega)
              clear hR hread hC h6 hR4 hB4 hc9
              go_wp2_with fail
              refine (Pbits.big_nat_bits.calls 3000 A10 c10 _ _ w4 hread10 hc10 HBI.out).mono ?_
              rintro e w5 ⟨rfl, ⟨n5, rfl⟩⟩
              have h65 : NB (w4.drewN n5) B (.slice none 0 0) false false := h64
              have hC5 : Chg (fun _ => False) w' (w4.drewN n5) := hC4.drewN n5
              have hR6 := Kd.R_drewN hR5 n5
              clear h64 hC4 hR5 hread10 hc10
              generalize w4.drewN n5 = W5 at *
              have c60 := cell_of h65 0 rfl
              have f60 := blk_frozen h65 0
              have c61 := cell_of h65 1 rfl
              have f61 := blk_frozen h65 1
              have c62 := cell_of h65 2 rfl
              have f62 := blk_frozen h65 2
              by_cases hrr : r > 2010
              · have g2 : decide (2010 < r) = true := by simpa using hrr
                have hbig : 2 ^ M2010 ≤ foV b s.data.toList 0 := by
                  have h1 := HR.out.1 hrr
                  have h2 := foV_take (b := b) (by omega) tl (k2 + 1)
                  rw [HTL.out, foV_trim] at h2
                  rw [HTL.out] at h1
                  exact Nat.le_trans h1 h2
                have HBIG := Lib.hid hbig
                clear hbig hrr
                go_wp2_with fail
                exact read_end rfl rfl (NB.set3 h65) ⟨NB.chg3 (k0.trans hC5) (.inr (by rw [HB.out]; exact Nat.le_refl _)), .inr ⟨HOK.out, _, [], neg, true, rfl, .inl ⟨HBIG.out, rfl, rfl, rfl⟩, Kd.R_nil _ _ _ _ _⟩⟩
              · have g2 : decide (2010 < r) = false := by simpa using hrr
                have hsm2 : foV b (tl.take (k2 + 1)) 0 < 2 ^ M2010 := Nat.lt_of_not_le (fun h => hrr (HR.out.2 h))
                have HSM2 := Lib.hid hsm2
                clear hsm2 hrr
                go_wp2_with fail
                go_roundg (tl.length - (k2 + 1))
                case measure => have := HG2.out; have := HLT.out; omega
                case rel => exact ⟨k2 + 1, by rw [HI2.out]; simp, by have := HLT.out; omega, rfl, HSM2.out, hR6, hC5⟩
            · have hk3 : k2 = tl.length := by omega
              have g1 : decide (i2 < (ts.size : Int)) = false := by rw [H2Z.out]; simp; omega
              obtain ⟨V, hVe⟩ : ∃ V, V = foV b s.data.toList 0 := ⟨_, rfl⟩
              have hVt : foV b (tl.take k2) 0 = V := by rw [hk3, List.take_length, HTL.out, foV_trim, hVe]
              rw [hVt] at hread hR hlen hc9 ⊢
              have hVs : V < 2 ^ M2010 := by rw [← hVt]; exact HV.out
              have HVS := Lib.hid hVs
              have HVE := Lib.hid hVe
              have hll : (ci (leN B32 V)).length = (leN B32 V).length := ci_len _
              have hlp : decide (0 < (ci (leN B32 V)).length) = decide (V ≠ 0) := by
                rw [hll]
                by_cases hv0 : V = 0
                · subst hv0; rw [leN_zero]; rfl
                · have : leN B32 V ≠ [] := fun h => hv0 ((leN_nil B32_2).1 h)
                  rw [decide_eq_true (List.length_pos_iff.2 this), decide_eq_true hv0]
              have HLP := Lib.hid hlp
              have hdt : (dtx 10 V).size = (leN 10 V).length := dtx_size 10 V
              have h10 : ∀ N : Nat, (leN 10 V).length ≤ N ↔ V < 10 ^ N := fun N => leN_length (by decide) N V
              have hlong : decide (600 < (dtx 10 V).size) = !fitsN V := by
                rw [hdt]
                unfold fitsN
                by_cases hf : V < 10 ^ M600
                · rw [decide_eq_true hf, decide_eq_false (by have := (h10 M600).2 hf; unfold M600 at this; omega)]; rfl
                · have h6 : 600 < (leN 10 V).length := Nat.lt_of_not_le (fun h => hf ((h10 M600).1 h))
                  rw [decide_eq_false hf, decide_eq_true h6]; rfl
              have hdec : big_decimal.f 400000 (ci (leN B32 V)) = some (dtx 10 V) := by
                unfold big_decimal.f
                have hv10 : (leN 10 V).length ≤ 100000 := (h10 M5).2 (Nat.lt_of_lt_of_le hVs (Nat.le_trans (Nat.pow_le_pow_left (by decide : 2 ≤ 10) _) (Nat.pow_le_pow_right (by decide) (by decide))))
                have hbf := based_f 10 V (by decide) (by decide) (by omega) hv10 400000 (by omega)
                rw [show ((10 : Nat) : Int) = 10 from rfl] at hbf
                rw [hbf]; rfl
              have HDEC := Lib.hid hdec
              have HLONG := Lib.hid hlong
              clear hlong hdec hdt h10 hlp hll hVs hVe hVt hk3 hlt2 hi2 hk2 HV
              go_wp2_with fail
              refine (of_calls A9 _ c9 neg wr).mono ?_
              rintro e w3 ⟨rfl, hB3⟩
              have hread3 := Kd.C_below hread hB3
              have hR3 := Kd.R_below hR hB3
              have h63 : NB w3 B (.slice none 0 0) false false := (hB3.block B h6.lt).trans h6
              have hC3 : Chg (fun _ => False) w' w3 := hC.trans (Chg.of_below hB3)
              clear hread hR h6 hC hB3
              unfold numv
              rw [HLP.out]
              go_wp2_with fail
              obtain ⟨W4, hW4⟩ : ∃ W4, W4 = w3.alloc (Obj.cells #[Value.slice A9 (ci (leN B32 V)).length c9, Value.bool (neg && !decide (V = 0)), Value.bool false] 139) := ⟨_, rfl⟩
              have h11 : NB W4 w3.heap.size (Value.slice A9 (ci (leN B32 V)).length c9) (neg && !decide (V = 0)) false := by rw [hW4]; exact World.alloc_heap_new w3 _
              have hb4 : Below w3.heap.size w3 W4 := by rw [hW4]; exact (Below.refl _ _).alloc (Nat.le_refl _) _
              rw [← hW4]
              clear hW4
              have hread4 := Kd.C_below hread3 hb4
              have hR4 : Kd.R (Kd.int .u32) 149 W4 w.heap.size (fun j => w'.heap.size ≤ j ∧ j < w3.heap.size) (.slice A9 (ci (leN B32 V)).length c9) (ci (leN B32 V)) :=
                Kd.R_below (Kd.R_mono (Kd.R_bound hR3) (fun j hj => ⟨hj.1, hj.2.2.1⟩)) hb4
              have h64 : NB W4 B (.slice none 0 0) false false := (hb4.block B h63.lt).trans h63
              have hC4 : Chg (fun _ => False) w' W4 := hC3.trans (Chg.of_below hb4)
              have hB11 : B < w3.heap.size := h63.lt
              obtain ⟨B11, hB11e⟩ : ∃ B11, B11 = w3.heap.size := ⟨_, rfl⟩
              rw [← hB11e] at h11 hR4 hB11 ⊢
              have hw11 : w'.heap.size ≤ B11 := by rw [hB11e]; exact hC3.size
              clear hread3 hR3 h63 hC3 hb4 hB11e
              refine (big_decimal.calls 400000 A9 c9 _ _ W4 hread4 hc9 HDEC.out).mono ?_
              rintro e w5 ⟨rfl, hb5⟩
              have h115 : NB w5 B11 (Value.slice A9 (ci (leN B32 V)).length c9) (neg && !decide (V = 0)) false := (hb5.block B11 h11.lt).trans h11
              have hR5 := Kd.R_below hR4 hb5
              have h65 : NB w5 B (.slice none 0 0) false false := (hb5.block B h64.lt).trans h64
              have hC5 : Chg (fun _ => False) w' w5 := hC4.trans (Chg.of_below hb5)
              clear hread4 hR4 h64 hC4 h11 hb5 hc9
              have c60 := cell_of h65 0 rfl
              have f60 := blk_frozen h65 0
              have c61 := cell_of h65 1 rfl
              have f61 := blk_frozen h65 1
              have c62 := cell_of h65 2 rfl
              have f62 := blk_frozen h65 2
              have d0 := cell_of h115 0 rfl
              have d1 := cell_of h115 1 rfl
              have d2 := cell_of h115 2 rfl
              have e2 := blk_frozen h115 2
              have hne1 : B ≠ B11 := by omega
              have hne2 : B11 ≠ B := by omega
              have hz := HZ.out
              have hb := HB.out
              have HK := Lib.hid (And.intro hz (And.intro hb hw11))
              clear hz hb hw11
              go_wp2_with fail
              have hli : decide ((600 : Int) < ((dtx 10 V).size : Int)) = !fitsN V := by rw [← HLONG.out]; exact decide_eq_decide.2 (by omega)
              rw [hli]
              obtain ⟨hz, hb, hw11⟩ := HK.out
              have h66 : NB (w5.setCell ⟨B11, 2, none⟩ (.bool (!fitsN V))) B (.slice none 0 0) false false := (Below.heap_setCell w5 _ _ B (by simp; omega)).trans h65
              refine read_end rfl rfl (NB.set3 h66) ⟨NB.chg3 ((k0.trans hC5).setCell ⟨B11, 2, none⟩ _ (.inr (by simp; omega))) (.inr (by omega)), .inr ⟨HOK.out, _, leN B32 V, _, _, rfl, ?_, ?_⟩⟩
              · rw [← HVE.out]
                refine .inr ⟨HVS.out, rfl, ?_, rfl⟩
                congr 1
                simp
              · refine Kd.R_mono (ok := fun j => w'.heap.size ≤ j ∧ j < B11) ?_ (fun j hj => (by have := hj.1; omega : w.heap.size ≤ j))
                exact Kd.R_far (Kd.R_far (Kd.R_far (Kd.R_far hR5 (fun j hj => by simp; omega) _) (fun j hj => by simp; omega) _) (fun j hj => by simp; omega) _) (fun j hj => by simp; omega) _
end Go.Proofs.YtemogjpgkcbaiaaGreatDoor.Sp
end
section
namespace Go.Proofs.YtemogjpgkcbaiaaGreatDoor.Sp
open Go.RowKit Go.Proofs.YtemogjpgkcbaiaaGreatDoorW.PrintWords Go.Proofs.YtemogjpgkcbaiaaGreatDoorW.PrintLast Go.Proofs.YtemogjpgkcbaiaaGreatDoorW.PrintMore
set_option exponentiation.threshold 3000
set_option linter.unusedVariables false
set_option linter.unusedSimpArgs false
set_option maxRecDepth 100000
def numRes (neg : Bool) (V : Nat) : ByteArray × Int := if fitsN V then (ntx neg 10 V, 0) else (⟨#[]⟩, 4)
theorem ntx_neg (neg : Bool) (b V : Nat) : ntx (neg && decide (V ≠ 0)) b V = ntx neg b V := by
  unfold ntx
  by_cases h : V = 0
  · rw [if_pos h, if_pos h]
  · rw [if_neg h, if_neg h, decide_eq_true h, Bool.and_true]
theorem not_fits {V : Nat} (h : 2 ^ M2010 ≤ V) : fitsN V = false := by
  exact decide_eq_false (Nat.not_lt.2 (Nat.le_trans pow_600 h))
theorem NM_long {neg : Bool} {V : Nat} {l : List Nat} {n' l' : Bool} (h : NM neg V l n' l') : l' = !fitsN V := by
  rcases h with ⟨h1, rfl, rfl, rfl⟩ | ⟨h1, rfl, rfl, rfl⟩
  · rw [not_fits h1]; rfl
  · rfl
theorem NM_short {neg : Bool} {V : Nat} {l : List Nat} {n' l' : Bool} (h : NM neg V l n' l') (hf : fitsN V = true) : l = leN B32 V ∧ n' = (neg && decide (V ≠ 0)) ∧ l' = false ∧ V < 2 ^ M2010 := by
  rcases h with ⟨h1, rfl, rfl, rfl⟩ | ⟨h1, rfl, rfl, rfl⟩
  · rw [not_fits h1] at hf; cases hf
  · exact ⟨rfl, rfl, by rw [hf]; rfl, h1⟩
theorem result_NM {neg : Bool} {V : Nat} {l : List Nat} {n' l' : Bool} (h : NM neg V l n' l') : big_number_result.f 400000 (ci l) n' l' = some (numRes neg V) := by
  have hl := NM_long h
  unfold numRes
  by_cases hf : fitsN V = true
  · obtain ⟨rfl, rfl, rfl, hv⟩ := NM_short h hf
    rw [result_f _ V (by have := len_small (show V < 2 ^ M2010 * 64 by omega); omega) 400000 (by omega), if_pos hf, if_pos hf, ntx_neg]
  · have : fitsN V = false := by simpa using hf
    rw [this] at hl
    rw [hl, if_neg hf]
    unfold big_number_result.f
    rw [if_pos (by rfl)]
def bRead (s : ByteArray) (b : Nat) : ByteArray × Int :=
  if rdok b (Lib.trimPrefix s.data.toList [45]) then numRes (Lib.hasPrefix s.data.toList [45]) (foV b (Lib.trimPrefix s.data.toList [45]) 0) else (⟨#[]⟩, 2)
theorem trimPrefix_len (l p : List UInt8) : (Lib.trimPrefix l p).length ≤ l.length := by
  unfold Lib.trimPrefix
  split
  · simp
  · exact Nat.le_refl _
theorem chg_mono0 {S : Nat → Prop} {w w' : World} (h : Chg (fun _ => False) w w') : Chg S w w' := h.mono (fun _ h => h.elim)
theorem ba_data (l : List UInt8) : (⟨l.toArray⟩ : ByteArray).data.toList = l := rfl
theorem ba_size (l : List UInt8) : (⟨l.toArray⟩ : ByteArray).size = l.length := by simp [ByteArray.size]
set_option maxHeartbeats 1000000 in
theorem Read_calls (s : ByteArray) (hs : s.size ≤ 100000) (b : Nat) (hb : 2 ≤ b) (hb2 : b ≤ 36) (w : World) :
    Calls Tryz.prog 100 #[.string s, .int .i64 (b : Int)] w fun e w' => e = .returned (.tuple #[.string (bRead s b).1, .int .i64 (bRead s b).2]) ∧ Chg (fun _ => False) w w' := by
  obtain ⟨n, hn⟩ : ∃ n, n = Lib.hasPrefix s.data.toList [45] := ⟨_, rfl⟩
  obtain ⟨r, hr⟩ : ∃ r, r = Lib.trimPrefix s.data.toList [45] := ⟨_, rfl⟩
  have hrl : r.length ≤ 100000 := by
    rw [hr]
    have h1 := trimPrefix_len s.data.toList [45]
    have h2 : s.data.toList.length = s.size := Array.length_toList
    omega
  have hB : bRead s b = if rdok b r then numRes n (foV b r 0) else (⟨#[]⟩, 2) := by unfold bRead; rw [← hn, ← hr]
  have hcp : ∀ W, Calls Tryz.prog 79 #[.string s, .string ⟨#[45]⟩] W fun e w' => e = .returned (.tuple #[.string ⟨r.toArray⟩, .bool n]) ∧ w' = W := fun W => by rw [hn, hr]; exact Tryz.strings_CutPrefix s ⟨#[45]⟩ W
  have HCP := Lib.hid hcp
  have HBR := Lib.hid hB
  clear hcp hB hn hr
  have hfar := fun W => far_calls (b : Int) (by omega) (by omega) W
  have HF := Lib.hid hfar
  clear hfar
  go_enter Tryz.func100, Tryz.ntmps100
  go_wp2_with fail
  refine (HF.out _).mono ?_
  rintro e w1 ⟨rfl, rfl⟩
  go_wp2_with fail
  refine (HCP.out _).mono ?_
  rintro e w2 ⟨rfl, rfl⟩
  go_wp2_with fail
  have hrd := read_big_calls w2 ⟨r.toArray⟩ (by rw [ba_size]; exact hrl) b hb hb2 n
  rw [show RdPost b (⟨r.toArray⟩ : ByteArray) n w2 = fun e w' => RdPost b (⟨r.toArray⟩ : ByteArray) n w2 e w' from rfl] at hrd
  refine hrd.mono ?_
  clear hrd
  rintro e w3 ⟨k3, h3⟩
  rcases h3 with ⟨hok, rfl⟩ | ⟨hok, v, l, n', l', rfl, hNM, hR⟩
  · have HOK := Lib.hid hok
    clear hok
    unfold numv
    go_wp2
    go_ret2
    refine ⟨?_, k3.alloc _⟩
    have h2 : rdok b r = false := HOK.out
    rw [HBR.out, h2]; rfl
  · obtain ⟨A, c, rfl, hc, hread⟩ := Kd.R_reads hR
    have hok' : rdok b r = true := hok
    have hres := result_NM hNM
    rw [ba_data] at hres
    have HRES := Lib.hid hres
    have HOK := Lib.hid hok'
    clear hok hok' hres hNM hR
    unfold numv
    go_wp2_with fail
    obtain ⟨W4, hW4⟩ : ∃ W4, W4 = w3.alloc (Obj.cells #[Value.slice A (ci l).length c, Value.bool n', Value.bool l'] 139) := ⟨_, rfl⟩
    have hb4 : Below w3.heap.size w3 W4 := by rw [hW4]; exact (Below.refl _ _).alloc (Nat.le_refl _) _
    rw [← hW4]
    clear hW4
    refine (big_number_result.calls 400000 A c (ci l) n' l' _ _ W4 (Kd.C_below hread hb4) hc HRES.out).mono ?_
    rintro e w5 ⟨rfl, hb5⟩
    go_wp2_with fail
    go_ret2
    refine ⟨?_, (k3.trans (Chg.of_below hb4)).trans (Chg.of_below hb5)⟩
    rw [HBR.out, HOK.out]; rfl
end Go.Proofs.YtemogjpgkcbaiaaGreatDoor.Sp
end
section
namespace Go.Proofs.YtemogjpgkcbaiaaGreatDoor.Sp
open Go.RowKit Go.Proofs.YtemogjpgkcbaiaaGreatDoorW.PrintWords Go.Proofs.YtemogjpgkcbaiaaGreatDoorW.PrintLast Go.Proofs.YtemogjpgkcbaiaaGreatDoorW.PrintMore
set_option linter.unusedVariables false
set_option linter.unusedSimpArgs false
set_option maxRecDepth 100000
theorem ix_run (s : ByteArray) (i : Nat) (h : i < s.size) (w : World) : (Instr.index 9 (.string s) (.int .i64 (i : Int))).run Tryz.prog w = .ok (.int .u8 (bt s (i : Int))) w := by
  have hb := bt_nat s i h
  simp [go_sem, h, hb]
theorem ix_run0 (s : ByteArray) (h : 0 < s.size) (w : World) : (Instr.index 9 (.string s) (.int .i64 0)).run Tryz.prog w = .ok (.int .u8 (bt s 0)) w := ix_run s 0 h w
theorem sl_run1 (s : ByteArray) (h : 0 < s.size) (w : World) : (Instr.slice 9 (.string s) (some (.int .i64 1)) none none).run Tryz.prog w = .ok (.string (s.extract 1 s.size)) w := by
  have h1 : 1 ≤ s.size := h
  simp [go_sem, h1]
  intro h2; omega
theorem sl_runN (s : ByteArray) (n : Int) (h0 : 0 ≤ n) (h : n ≤ s.size) (w : World) : (Instr.slice 9 (.string s) none (some (.int .i64 n)) none).run Tryz.prog w = .ok (.string (s.extract 0 n.toNat)) w := by
  have h1 : n.toNat ≤ s.size := by omega
  simp [go_sem, h0, h, h1]
def wb (c : UInt8) : Bool := isWhb c.toNat
def stripW (l : List UInt8) : List UInt8 := ((l.dropWhile wb).reverse.dropWhile wb).reverse
def uns (l : List UInt8) : Bool × List UInt8 := (Lib.hasPrefix l [45], if (Lib.hasPrefix l [45] || Lib.hasPrefix l [43]) = true then l.tail else l)
def unb (l : List UInt8) : Nat × List UInt8 :=
  if Lib.hasPrefix l [48, 120] = true then (16, Lib.trimPrefix l [48, 120])
  else if Lib.hasPrefix l [48, 111] = true then (8, Lib.trimPrefix l [48, 111])
  else if Lib.hasPrefix l [48, 98] = true then (2, Lib.trimPrefix l [48, 98])
  else (10, l)
def prs (l : List UInt8) : Option (Bool × Nat) :=
  if rdok (unb (uns (stripW l)).2).1 (unb (uns (stripW l)).2).2 = true then some ((uns (stripW l)).1, foV (unb (uns (stripW l)).2).1 (unb (uns (stripW l)).2).2 0) else none
def PsPost (l : List UInt8) (w : World) (e : Ending) (w' : World) : Prop :=
  Chg (fun _ => False) w w' ∧
  ((prs l = none ∧ e = .returned (.tuple #[numv (.slice none 0 0) false false, .bool false])) ∨
   (∃ neg V, prs l = some (neg, V) ∧ ∃ v ds n' g', e = .returned (.tuple #[numv v n' g', .bool true]) ∧ NM neg V ds n' g' ∧ Kd.R (Kd.int .u32) 149 w' w.heap.size (fun k => w.heap.size ≤ k) v (ci ds)))
theorem parse_end {tmps : Array Value} {W : World} {B : Nat} {v : Value} {n l ok : Bool} {R : Ending → World → Prop} (h6 : tmps[2]? = some (.pointer (some ⟨B, 0, none⟩))) (h7 : tmps[3]? = some (.bool ok)) (hB : NB W B v n l) (h : R (.returned (.tuple #[numv v n l, .bool ok])) W) :
    bodyPost Tryz.prog Tryz.f109 R Exit.ret ⟨tmps, []⟩ W := by
  have c0 := cell_of hB 0 rfl
  have c1 := cell_of hB 1 rfl
  have c2 := cell_of hB 2 rfl
  exact bodyPost_ret (v := .tuple #[numv v n l, .bool ok]) (by simp [results, Tryz.results109, go_sem, h6, h7, c0, c1, c2, numv]) rfl h
def LP1 (l : List UInt8) (W0 : World) (gk : Nat) (v0 : Value) (wr : World) : Prop :=
  ∃ t : List UInt8, v0 = .string ⟨t.toArray⟩ ∧ wr = W0 ∧ gk = t.length ∧ t.length ≤ l.length ∧ t.dropWhile wb = l.dropWhile wb
def LP2 (m : List UInt8) (W0 : World) (gk : Nat) (v0 : Value) (wr : World) : Prop :=
  ∃ t : List UInt8, v0 = .string ⟨t.toArray⟩ ∧ wr = W0 ∧ gk = t.length ∧ t.length ≤ m.length ∧ t.reverse.dropWhile wb = m.reverse.dropWhile wb
theorem ba_ext {x y : ByteArray} (h : x.data.toList = y.data.toList) : x = y := by
  obtain ⟨⟨a⟩⟩ := x
  obtain ⟨⟨b⟩⟩ := y
  simp only at h
  rw [h]
theorem bt0_cons (x : ByteArray) (c : UInt8) (t : List UInt8) (h : x = ⟨(c :: t).toArray⟩) : 0 < x.size ∧ bt x 0 = (c.toNat : Int) ∧ x.extract 1 x.size = ⟨t.toArray⟩ ∧ x.toList.isEmpty = false ∧ x.size = t.length + 1 := by
  subst h
  refine ⟨by simp [ByteArray.size], ?_, ?_, ?_, by simp [ByteArray.size]⟩
  · have := bt_data (⟨(c :: t).toArray⟩ : ByteArray) 0 (by simp [ByteArray.size])
    simpa using this
  · apply ba_ext; rw [Lib.extract_data]; simp [ByteArray.size]
  · rw [Lib.toList_data]; rfl
theorem btN_snoc (x : ByteArray) (c : UInt8) (t : List UInt8) (h : x = ⟨(t ++ [c]).toArray⟩) : x.size = t.length + 1 ∧ bt x (t.length : Int) = (c.toNat : Int) ∧ x.extract 0 t.length = ⟨t.toArray⟩ ∧ x.toList.isEmpty = false := by
  subst h
  refine ⟨by simp [ByteArray.size], ?_, ?_, ?_⟩
  · have := bt_data (⟨(t ++ [c]).toArray⟩ : ByteArray) t.length (by simp [ByteArray.size])
    rw [this]; simp
  · apply ba_ext; rw [Lib.extract_data]; simp [ByteArray.size]
  · rw [Lib.toList_data]; simp
theorem prs_none {l y : List UInt8} {ng : Bool} {b : Nat} {r : List UInt8} (hu : uns (stripW l) = (ng, y)) (hb : unb y = (b, r)) (h : rdok b r = false) : prs l = none := by
  unfold prs
  rw [hu, hb]
  simp [h]
theorem prs_some {l y : List UInt8} {ng : Bool} {b : Nat} {r : List UInt8} (hu : uns (stripW l) = (ng, y)) (hb : unb y = (b, r)) (h : rdok b r = true) : prs l = some (ng, foV b r 0) := by
  unfold prs
  rw [hu, hb]
  simp [h]
def LP3 (y : List UInt8) (W0 : World) (gk : Nat) (v46 : Value) (wr : World) : Prop :=
  ∃ i : Nat, v46 = .int .i64 i ∧ i ≤ 3 ∧ gk = 3 - i ∧ Chg (fun _ => False) W0 wr ∧ (1 ≤ i → Lib.hasPrefix y [48, 120] = false) ∧ (2 ≤ i → Lib.hasPrefix y [48, 111] = false) ∧ (3 ≤ i → Lib.hasPrefix y [48, 98] = false)
theorem sl_tail (u : List UInt8) (h : 0 < u.length) (w : World) : (Instr.slice 9 (.string ⟨u.toArray⟩) (some (.int .i64 1)) none none).run Tryz.prog w = .ok (.string ⟨u.tail.toArray⟩) w := by
  cases u with
  | nil => simp at h
  | cons c t =>
    have := bt0_cons (⟨(c :: t).toArray⟩ : ByteArray) c t rfl
    rw [sl_run1 _ this.1, this.2.2.1]; rfl
theorem hasPrefix_pos {u : List UInt8} {c : UInt8} (h : Lib.hasPrefix u [c] = true) : 0 < u.length := by
  cases u with
  | nil => simp [Lib.hasPrefix] at h
  | cons a t => simp
theorem R_end {α : Type} {d : Kd α} {w W w4 : World} {B : Nat} {v x y z : Value} {xs : List α} (hR : d.R 149 w4 W.heap.size (fun k => W.heap.size ≤ k) v xs) (hB : B < W.heap.size) (hw : w.heap.size ≤ W.heap.size) :
    d.R 149 (((w4.setCell ⟨B, 0, none⟩ x).setCell ⟨B, 1, none⟩ y).setCell ⟨B, 2, none⟩ z) w.heap.size (fun k => w.heap.size ≤ k) v xs := by
  refine Kd.R_mono (ok := fun k => W.heap.size ≤ k) (Kd.R_lower ?_ hw) (fun k hk => Nat.le_trans hw hk)
  exact Kd.R_far (Kd.R_far (Kd.R_far hR (fun j hj => by simp; omega) _) (fun j hj => by simp; omega) _) (fun j hj => by simp; omega) _
theorem px0 (w : World) : (Instr.index 162 (.agg #[.string ⟨#[48, 120]⟩, .int .i64 16, .string ⟨#[48, 111]⟩, .int .i64 8, .string ⟨#[48, 98]⟩, .int .i64 2]) (.int .i64 0)).run Tryz.prog w = .ok (.agg #[.string ⟨#[48, 120]⟩, .int .i64 16]) w := by kernel_rfl
theorem px1 (w : World) : (Instr.index 162 (.agg #[.string ⟨#[48, 120]⟩, .int .i64 16, .string ⟨#[48, 111]⟩, .int .i64 8, .string ⟨#[48, 98]⟩, .int .i64 2]) (.int .i64 1)).run Tryz.prog w = .ok (.agg #[.string ⟨#[48, 111]⟩, .int .i64 8]) w := by kernel_rfl
theorem px2 (w : World) : (Instr.index 162 (.agg #[.string ⟨#[48, 120]⟩, .int .i64 16, .string ⟨#[48, 111]⟩, .int .i64 8, .string ⟨#[48, 98]⟩, .int .i64 2]) (.int .i64 2)).run Tryz.prog w = .ok (.agg #[.string ⟨#[48, 98]⟩, .int .i64 2]) w := by kernel_rfl
set_option maxHeartbeats 4000000 in
theorem parse_calls (s : ByteArray) (hs : s.size ≤ 100000) (w : World) : Calls Tryz.prog 109 #[.string s] w (PsPost s.data.toList w) := by
  obtain ⟨l, hl⟩ : ∃ l, l = s.data.toList := ⟨_, rfl⟩
  have hsl : s = ⟨l.toArray⟩ := by rw [hl]
  have hll : l.length ≤ 100000 := by rw [hl]; exact hs
  rw [← hl]
  rw [hsl]
  clear hsl hl hs s
  go_enter Tryz.func109, Tryz.ntmps109
  go_upto_block 0 with fail
  obtain ⟨W0, hW0⟩ : ∃ W0, W0 = w.alloc (Obj.cells #[Value.slice none 0 0, Value.bool false, Value.bool false] 139) := ⟨_, rfl⟩
  have h2 : NB W0 w.heap.size (.slice none 0 0) false false := by rw [hW0]; exact World.alloc_heap_new w _
  have k0 : Chg (fun _ => False) w W0 := by rw [hW0]; exact (Chg.refl _ w).alloc _
  have z0 : W0.heap.size = w.heap.size + 1 := by rw [hW0]; simp
  rw [← hW0]
  clear hW0
  obtain ⟨B, hB⟩ : ∃ B, B = w.heap.size := ⟨_, rfl⟩
  rw [← hB] at h2 z0 ⊢
  have HB := Lib.hid hB
  have H2 := Lib.hid h2
  have HZ := Lib.hid z0
  clear hB h2 z0
  go_cut [0] (fun v0 wr => v0 = .string ⟨(l.dropWhile wb).toArray⟩ ∧ wr = W0)
  case first =>
    go_wp2_with fail
    go_loopg [0] l.length (fun gk v0 wr => LP1 l W0 gk v0 wr)
    case atStart => exact ⟨l, rfl, rfl, rfl, Nat.le_refl _, rfl⟩
    case round =>
      obtain ⟨t, rfl, rfl, hg, htl, hd⟩ := hrel
      have HD := Lib.hid hd
      have HG := Lib.hid hg
      clear hd hg
      cases t with
      | nil =>
        go_wp2_with fail
        go_meet
        exact ⟨by rw [← HD.out]; rfl, rfl⟩
      | cons c t =>
        obtain ⟨x, hx⟩ : ∃ x : ByteArray, x = ⟨(c :: t).toArray⟩ := ⟨_, rfl⟩
        rw [← hx]
        obtain ⟨hx0, hx1, hx2, hx3, hx4⟩ := bt0_cons x c t hx
        have HX := Lib.hid hx
        have hix := ix_run0 x hx0
        rw [hx1] at hix
        have hsl := sl_run1 x hx0
        rw [hx2] at hsl
        clear hx hx0 hx1 hx2 hx4
        by_cases hw : wb c = true
        · have hwc : ∀ W, Calls Tryz.prog 141 #[.int .u8 (c.toNat : Int)] W fun e w' => e = .returned (.bool true) ∧ w' = W := fun W => by rw [← hw]; exact bigwhite_calls _ W
          have HWC := Lib.hid hwc
          have HW := Lib.hid hw
          clear hwc hw
          go_wp2_with fail
          refine (HWC.out _).mono ?_
          rintro e w' ⟨rfl, rfl⟩
          go_wp2_with fail
          go_roundg t.length
          case measure => have := HG.out; simp at this; omega
          case rel => exact ⟨t, rfl, rfl, rfl, by simp at htl; omega, by rw [← HD.out, List.dropWhile_cons_of_pos HW.out]⟩
        · have hwc : ∀ W, Calls Tryz.prog 141 #[.int .u8 (c.toNat : Int)] W fun e w' => e = .returned (.bool false) ∧ w' = W := fun W => by rw [show false = wb c from by simpa using hw]; exact bigwhite_calls _ W
          have HWC := Lib.hid hwc
          have HW := Lib.hid hw
          clear hwc hw
          go_wp2_with fail
          refine (HWC.out _).mono ?_
          rintro e w' ⟨rfl, rfl⟩
          go_wp2_with fail
          go_meet
          exact ⟨by rw [← HD.out, List.dropWhile_cons_of_neg HW.out, HX.out], rfl⟩
  case rest =>
    obtain ⟨rfl, rfl⟩ := hcut
    obtain ⟨m, hm⟩ : ∃ m, m = l.dropWhile wb := ⟨_, rfl⟩
    rw [← hm]
    have hml : m.length ≤ 100000 := by rw [hm]; exact Nat.le_trans (List.dropWhile_sublist _).length_le hll
    have HM := Lib.hid hm
    clear hm
    go_upto_block 2 with fail
    go_cut [0] (fun v0 wr => v0 = .string ⟨(m.reverse.dropWhile wb).reverse.toArray⟩ ∧ wr = wc)
    case first =>
      go_wp2_with fail
      go_loopg [0] m.length (fun gk v0 wr => LP2 m wc gk v0 wr)
      case atStart => exact ⟨m, rfl, rfl, rfl, Nat.le_refl _, rfl⟩
      case round =>
        obtain ⟨t, rfl, rfl, hg, htl, hd⟩ := hrel
        have HD := Lib.hid hd
        have HG := Lib.hid hg
        clear hd hg
        rcases List.eq_nil_or_concat t with rfl | ⟨t, c, rfl⟩
        · go_wp2_with fail
          go_meet
          exact ⟨by rw [← HD.out]; rfl, rfl⟩
        · rw [List.concat_eq_append] at HD HG htl ⊢
          obtain ⟨x, hx⟩ : ∃ x : ByteArray, x = ⟨(t ++ [c]).toArray⟩ := ⟨_, rfl⟩
          rw [← hx]
          obtain ⟨hx0, hx1, hx2, hx3⟩ := btN_snoc x c t hx
          have HX := Lib.hid hx
          have htl2 : t.length ≤ 100000 := by simp at htl; omega
          have hix := ix_run x t.length (by omega)
          rw [hx1] at hix
          have hsl := sl_runN x (t.length : Int) (by omega) (by omega)
          rw [Int.toNat_natCast, hx2] at hsl
          rw [show (t.length : Int) = (x.size : Int) - 1 from by omega] at hix hsl
          have hw1 : IntKind.i64.wrap ((x.size : Int) - 1) = (x.size : Int) - 1 := i64_small (by omega) (by omega)
          clear hx hx0 hx1 hx2
          by_cases hw : wb c = true
          · have hwc : ∀ W, Calls Tryz.prog 141 #[.int .u8 (c.toNat : Int)] W fun e w' => e = .returned (.bool true) ∧ w' = W := fun W => by rw [← hw]; exact bigwhite_calls _ W
            have HWC := Lib.hid hwc
            have HW := Lib.hid hw
            clear hwc hw
            go_wp2_with fail
            refine (HWC.out _).mono ?_
            rintro e w' ⟨rfl, rfl⟩
            go_wp2_with fail
            go_roundg t.length
            case measure => have := HG.out; simp at this; omega
            case rel => exact ⟨t, rfl, rfl, rfl, by simp at htl; omega, by rw [← HD.out, List.reverse_append, List.reverse_singleton, List.singleton_append, List.dropWhile_cons_of_pos HW.out]⟩
          · have hwc : ∀ W, Calls Tryz.prog 141 #[.int .u8 (c.toNat : Int)] W fun e w' => e = .returned (.bool false) ∧ w' = W := fun W => by rw [show false = wb c from by simpa using hw]; exact bigwhite_calls _ W
            have HWC := Lib.hid hwc
            have HW := Lib.hid hw
            clear hwc hw
            go_wp2_with fail
            refine (HWC.out _).mono ?_
            rintro e w' ⟨rfl, rfl⟩
            go_wp2_with fail
            go_meet
            exact ⟨by rw [← HD.out, List.reverse_append, List.reverse_singleton, List.singleton_append, List.dropWhile_cons_of_neg HW.out, HX.out]; simp, rfl⟩
    case rest =>
      obtain ⟨rfl, rfl⟩ := hcut
      obtain ⟨u, hu⟩ : ∃ u, u = stripW l := ⟨_, rfl⟩
      rw [show (m.reverse.dropWhile wb).reverse = u from by rw [hu, stripW, HM.out]]
      have hul : u.length ≤ 100000 := by
        rw [hu, stripW, List.length_reverse]
        refine Nat.le_trans (List.dropWhile_sublist _).length_le ?_
        rw [List.length_reverse]
        exact Nat.le_trans (List.dropWhile_sublist _).length_le hll
      have HU := Lib.hid hu
      clear hu
      obtain ⟨ng, hng⟩ : ∃ ng, ng = Lib.hasPrefix u [45] := ⟨_, rfl⟩
      obtain ⟨pg, hpg⟩ : ∃ pg, pg = Lib.hasPrefix u [43] := ⟨_, rfl⟩
      have h45 : ∀ W, Calls Tryz.prog 117 #[.string ⟨u.toArray⟩, .string ⟨#[45]⟩] W fun e w' => e = .returned (.bool ng) ∧ w' = W := fun W => by rw [hng]; exact Tryz.strings_HasPrefix ⟨u.toArray⟩ ⟨#[45]⟩ W
      have h43 : ∀ W, Calls Tryz.prog 117 #[.string ⟨u.toArray⟩, .string ⟨#[43]⟩] W fun e w' => e = .returned (.bool pg) ∧ w' = W := fun W => by rw [hpg]; exact Tryz.strings_HasPrefix ⟨u.toArray⟩ ⟨#[43]⟩ W
      have HNG := Lib.hid hng
      have HPG := Lib.hid hpg
      have H45 := Lib.hid h45
      have H43 := Lib.hid h43
      clear hng hpg h45 h43
      obtain ⟨y, hy⟩ : ∃ y, y = (if (ng || pg) = true then u.tail else u) := ⟨_, rfl⟩
      have HY := Lib.hid hy
      have hyl : y.length ≤ 100000 := by rw [hy]; split; (rw [List.length_tail]; omega); exact hul
      clear hy
      have h2 := H2.out
      have hcP : ∀ (p : ByteArray) (W : World), Calls Tryz.prog 79 #[.string ⟨y.toArray⟩, .string p] W fun e w' => e = .returned (.tuple #[.string ⟨(Lib.trimPrefix y p.data.toList).toArray⟩, .bool (Lib.hasPrefix y p.data.toList)]) ∧ w' = W := fun p W => Tryz.strings_CutPrefix ⟨y.toArray⟩ p W
      have HCP := Lib.hid hcP
      clear hcP
      have px0 := px0
      have px1 := px1
      have px2 := px2
      clear hml
      go_wp2_with fail
      refine (H45.out _).mono ?_
      rintro e w' ⟨rfl, rfl⟩
      have hun : uns (stripW l) = (ng, y) := by unfold uns; rw [← HU.out, ← HNG.out, ← HPG.out, HY.out]
      have HUN := Lib.hid hun
      clear hun
      cases ng
      case true =>
        have hsl := sl_tail u (hasPrefix_pos HNG.out.symm)
        have hyu : y = u.tail := by rw [HY.out]; rfl
        have HYU := Lib.hid hyu
        clear hyu
        go_upto_block 4 with fail
        rw [← HYU.out]
        clear hsl
        go_wp2_with fail
        go_loopg [46] 3 (fun gk v46 wr => LP3 y w' gk v46 wr)
        case atStart => exact ⟨0, rfl, by omega, rfl, Chg.refl _ _, fun h => by omega, fun h => by omega, fun h => by omega⟩
        case round =>
          obtain ⟨i, rfl, hi, hg, hC, q1, q2, q3⟩ := hrel
          have HG := Lib.hid hg
          have HQ1 := Lib.hid q1
          have HQ2 := Lib.hid q2
          have HQ3 := Lib.hid q3
          clear hg q1 q2 q3
          have h3 : NB wr B (.slice none 0 0) false false := (hC.block B h2.lt (fun h => h)).trans h2
          have hkk := k0.trans hC
          rcases (by omega : i = 0 ∨ i = 1 ∨ i = 2 ∨ i = 3) with rfl | rfl | rfl | rfl
          · cases hpx : Lib.hasPrefix y [48, 120]
            · have HPX := Lib.hid hpx
              have hcp := fun W => HCP.out (⟨#[48, 120]⟩ : ByteArray) W
              rw [show (⟨#[48, 120]⟩ : ByteArray).data.toList = [48, 120] from rfl, hpx] at hcp
              have HCX := Lib.hid hcp
              clear hpx hcp
              go_wp2_with fail
              refine (HCX.out _).mono ?_
              rintro e w3 ⟨rfl, rfl⟩
              go_wp2_with fail
              go_roundg (3 - (0 + 1))
              case measure => have := HG.out; omega
              case rel => exact ⟨0 + 1, rfl, by omega, rfl, hC.alloc _, fun _ => HPX.out, fun h => by omega, fun h => by omega⟩
            · have hub : unb y = (16, Lib.trimPrefix y [48, 120]) := by
                unfold unb
                rw [hpx]; rfl
              have HUB := Lib.hid hub
              have hcp := fun W => HCP.out (⟨#[48, 120]⟩ : ByteArray) W
              rw [show (⟨#[48, 120]⟩ : ByteArray).data.toList = [48, 120] from rfl, hpx] at hcp
              have HCX := Lib.hid hcp
              clear hub hpx hcp
              go_wp2_with fail
              refine (HCX.out _).mono ?_
              rintro e w3 ⟨rfl, rfl⟩
              go_wp2_with fail
              obtain ⟨W5, hW5⟩ : ∃ W5, W5 = wr.alloc (Obj.cells #[Value.string ⟨#[48, 120]⟩, Value.int IntKind.i64 16] 161) := ⟨_, rfl⟩
              have h35 : NB W5 B (.slice none 0 0) false false := by rw [hW5]; exact (Below.heap_alloc _ _ _ h3.lt).trans h3
              have hk5 : Chg (fun _ => False) w W5 := by rw [hW5]; exact hkk.alloc _
              rw [← hW5]
              clear hW5
              have hrd := read_big_calls W5 ⟨(Lib.trimPrefix y [48, 120]).toArray⟩ (by rw [ba_size]; exact Nat.le_trans (trimPrefix_len _ _) hyl) 16 (by omega) (by omega) true
              refine hrd.mono ?_
              clear hrd
              rintro e w4 ⟨k4, h4⟩
              have h5 : NB w4 B (.slice none 0 0) false false := (k4.block B h35.lt (fun h => h)).trans h35
              have hk4 := hk5.trans k4
              have c60 := cell_of h5 0 rfl
              have f60 := blk_frozen h5 0
              have c61 := cell_of h5 1 rfl
              have f61 := blk_frozen h5 1
              have c62 := cell_of h5 2 rfl
              have f62 := blk_frozen h5 2
              unfold numv at h4
              rcases h4 with ⟨hok, rfl⟩ | ⟨hok, v, ds, n', g', rfl, hNM, hR⟩
              · have HOK := Lib.hid hok
                clear hok
                go_wp2_with fail
                exact parse_end rfl rfl (NB.set3 h5) ⟨NB.chg3 hk4 (.inr (by rw [HB.out]; exact Nat.le_refl _)), .inl ⟨prs_none HUN.out HUB.out HOK.out, rfl⟩⟩
              · have HOK := Lib.hid hok
                clear hok
                obtain ⟨A, c, rfl, hc, hread⟩ := Kd.R_reads hR
                go_wp2_with fail
                exact parse_end rfl rfl (NB.set3 h5) ⟨NB.chg3 hk4 (.inr (by rw [HB.out]; exact Nat.le_refl _)), .inr ⟨_, _, prs_some HUN.out HUB.out HOK.out, _, ds, n', g', rfl, hNM, R_end hR h35.lt hk5.size⟩⟩
          · cases hpx : Lib.hasPrefix y [48, 111]
            · have HPX := Lib.hid hpx
              have hcp := fun W => HCP.out (⟨#[48, 111]⟩ : ByteArray) W
              rw [show (⟨#[48, 111]⟩ : ByteArray).data.toList = [48, 111] from rfl, hpx] at hcp
              have HCX := Lib.hid hcp
              clear hpx hcp
              go_wp2_with fail
              refine (HCX.out _).mono ?_
              rintro e w3 ⟨rfl, rfl⟩
              go_wp2_with fail
              go_roundg (3 - (1 + 1))
              case measure => have := HG.out; omega
              case rel => exact ⟨1 + 1, rfl, by omega, rfl, hC.alloc _, fun _ => HQ1.out (by omega), fun _ => HPX.out, fun h => by omega⟩
            · have hub : unb y = (8, Lib.trimPrefix y [48, 111]) := by
                unfold unb
                rw [HQ1.out (by omega), hpx]; rfl
              have HUB := Lib.hid hub
              have hcp := fun W => HCP.out (⟨#[48, 111]⟩ : ByteArray) W
              rw [show (⟨#[48, 111]⟩ : ByteArray).data.toList = [48, 111] from rfl, hpx] at hcp
              have HCX := Lib.hid hcp
              clear hub hpx hcp
              go_wp2_with fail
              refine (HCX.out _).mono ?_
              rintro e w3 ⟨rfl, rfl⟩
              go_wp2_with fail
              obtain ⟨W5, hW5⟩ : ∃ W5, W5 = wr.alloc (Obj.cells #[Value.string ⟨#[48, 111]⟩, Value.int IntKind.i64 8] 161) := ⟨_, rfl⟩
              have h35 : NB W5 B (.slice none 0 0) false false := by rw [hW5]; exact (Below.heap_alloc _ _ _ h3.lt).trans h3
              have hk5 : Chg (fun _ => False) w W5 := by rw [hW5]; exact hkk.alloc _
              rw [← hW5]
              clear hW5
              have hrd := read_big_calls W5 ⟨(Lib.trimPrefix y [48, 111]).toArray⟩ (by rw [ba_size]; exact Nat.le_trans (trimPrefix_len _ _) hyl) 8 (by omega) (by omega) true
              refine hrd.mono ?_
              clear hrd
              rintro e w4 ⟨k4, h4⟩
              have h5 : NB w4 B (.slice none 0 0) false false := (k4.block B h35.lt (fun h => h)).trans h35
              have hk4 := hk5.trans k4
              have c60 := cell_of h5 0 rfl
              have f60 := blk_frozen h5 0
              have c61 := cell_of h5 1 rfl
              have f61 := blk_frozen h5 1
              have c62 := cell_of h5 2 rfl
              have f62 := blk_frozen h5 2
              unfold numv at h4
              rcases h4 with ⟨hok, rfl⟩ | ⟨hok, v, ds, n', g', rfl, hNM, hR⟩
              · have HOK := Lib.hid hok
                clear hok
                go_wp2_with fail
                exact parse_end rfl rfl (NB.set3 h5) ⟨NB.chg3 hk4 (.inr (by rw [HB.out]; exact Nat.le_refl _)), .inl ⟨prs_none HUN.out HUB.out HOK.out, rfl⟩⟩
              · have HOK := Lib.hid hok
                clear hok
                obtain ⟨A, c, rfl, hc, hread⟩ := Kd.R_reads hR
                go_wp2_with fail
                exact parse_end rfl rfl (NB.set3 h5) ⟨NB.chg3 hk4 (.inr (by rw [HB.out]; exact Nat.le_refl _)), .inr ⟨_, _, prs_some HUN.out HUB.out HOK.out, _, ds, n', g', rfl, hNM, R_end hR h35.lt hk5.size⟩⟩
          · cases hpx : Lib.hasPrefix y [48, 98]
            · have HPX := Lib.hid hpx
              have hcp := fun W => HCP.out (⟨#[48, 98]⟩ : ByteArray) W
              rw [show (⟨#[48, 98]⟩ : ByteArray).data.toList = [48, 98] from rfl, hpx] at hcp
              have HCX := Lib.hid hcp
              clear hpx hcp
              go_wp2_with fail
              refine (HCX.out _).mono ?_
              rintro e w3 ⟨rfl, rfl⟩
              go_wp2_with fail
              go_roundg (3 - (2 + 1))
              case measure => have := HG.out; omega
              case rel => exact ⟨2 + 1, rfl, by omega, rfl, hC.alloc _, fun _ => HQ1.out (by omega), fun _ => HQ2.out (by omega), fun _ => HPX.out⟩
            · have hub : unb y = (2, Lib.trimPrefix y [48, 98]) := by
                unfold unb
                rw [HQ1.out (by omega), HQ2.out (by omega), hpx]; rfl
              have HUB := Lib.hid hub
              have hcp := fun W => HCP.out (⟨#[48, 98]⟩ : ByteArray) W
              rw [show (⟨#[48, 98]⟩ : ByteArray).data.toList = [48, 98] from rfl, hpx] at hcp
              have HCX := Lib.hid hcp
              clear hub hpx hcp
              go_wp2_with fail
              refine (HCX.out _).mono ?_
              rintro e w3 ⟨rfl, rfl⟩
              go_wp2_with fail
              obtain ⟨W5, hW5⟩ : ∃ W5, W5 = wr.alloc (Obj.cells #[Value.string ⟨#[48, 98]⟩, Value.int IntKind.i64 2] 161) := ⟨_, rfl⟩
              have h35 : NB W5 B (.slice none 0 0) false false := by rw [hW5]; exact (Below.heap_alloc _ _ _ h3.lt).trans h3
              have hk5 : Chg (fun _ => False) w W5 := by rw [hW5]; exact hkk.alloc _
              rw [← hW5]
              clear hW5
              have hrd := read_big_calls W5 ⟨(Lib.trimPrefix y [48, 98]).toArray⟩ (by rw [ba_size]; exact Nat.le_trans (trimPrefix_len _ _) hyl) 2 (by omega) (by omega) true
              refine hrd.mono ?_
              clear hrd
              rintro e w4 ⟨k4, h4⟩
              have h5 : NB w4 B (.slice none 0 0) false false := (k4.block B h35.lt (fun h => h)).trans h35
              have hk4 := hk5.trans k4
              have c60 := cell_of h5 0 rfl
              have f60 := blk_frozen h5 0
              have c61 := cell_of h5 1 rfl
              have f61 := blk_frozen h5 1
              have c62 := cell_of h5 2 rfl
              have f62 := blk_frozen h5 2
              unfold numv at h4
              rcases h4 with ⟨hok, rfl⟩ | ⟨hok, v, ds, n', g', rfl, hNM, hR⟩
              · have HOK := Lib.hid hok
                clear hok
                go_wp2_with fail
                exact parse_end rfl rfl (NB.set3 h5) ⟨NB.chg3 hk4 (.inr (by rw [HB.out]; exact Nat.le_refl _)), .inl ⟨prs_none HUN.out HUB.out HOK.out, rfl⟩⟩
              · have HOK := Lib.hid hok
                clear hok
                obtain ⟨A, c, rfl, hc, hread⟩ := Kd.R_reads hR
                go_wp2_with fail
                exact parse_end rfl rfl (NB.set3 h5) ⟨NB.chg3 hk4 (.inr (by rw [HB.out]; exact Nat.le_refl _)), .inr ⟨_, _, prs_some HUN.out HUB.out HOK.out, _, ds, n', g', rfl, hNM, R_end hR h35.lt hk5.size⟩⟩
          · have hub : unb y = (10, y) := by
              unfold unb
              rw [HQ1.out (by omega), HQ2.out (by omega), HQ3.out (by omega)]; rfl
            have HUB := Lib.hid hub
            clear hub
            go_wp2_with fail
            have hrd := read_big_calls wr ⟨y.toArray⟩ (by rw [ba_size]; exact hyl) 10 (by omega) (by omega) true
            refine hrd.mono ?_
            clear hrd
            rintro e w4 ⟨k4, h4⟩
            have h5 : NB w4 B (.slice none 0 0) false false := (k4.block B h3.lt (fun h => h)).trans h3
            have hk4 := hkk.trans k4
            have c60 := cell_of h5 0 rfl
            have f60 := blk_frozen h5 0
            have c61 := cell_of h5 1 rfl
            have f61 := blk_frozen h5 1
            have c62 := cell_of h5 2 rfl
            have f62 := blk_frozen h5 2
            unfold numv at h4
            rcases h4 with ⟨hok, rfl⟩ | ⟨hok, v, ds, n', g', rfl, hNM, hR⟩
            · have HOK := Lib.hid hok
              clear hok
              go_wp2_with fail
              exact parse_end rfl rfl (NB.set3 h5) ⟨NB.chg3 hk4 (.inr (by rw [HB.out]; exact Nat.le_refl _)), .inl ⟨prs_none HUN.out HUB.out HOK.out, rfl⟩⟩
            · have HOK := Lib.hid hok
              clear hok
              obtain ⟨A, c, rfl, hc, hread⟩ := Kd.R_reads hR
              go_wp2_with fail
              exact parse_end rfl rfl (NB.set3 h5) ⟨NB.chg3 hk4 (.inr (by rw [HB.out]; exact Nat.le_refl _)), .inr ⟨_, _, prs_some HUN.out HUB.out HOK.out, _, ds, n', g', rfl, hNM, R_end hR h3.lt hkk.size⟩⟩
      case false =>
        go_wp2_with fail
        refine (H43.out _).mono ?_
        rintro e w' ⟨rfl, rfl⟩
        cases pg
        case true =>
          have hsl := sl_tail u (hasPrefix_pos HPG.out.symm)
          have hyu : y = u.tail := by rw [HY.out]; rfl
          have HYU := Lib.hid hyu
          clear hyu
          go_upto_block 4 with fail
          rw [← HYU.out]
          clear hsl
          go_wp2_with fail
          go_loopg [46] 3 (fun gk v46 wr => LP3 y w' gk v46 wr)
          case atStart => exact ⟨0, rfl, by omega, rfl, Chg.refl _ _, fun h => by omega, fun h => by omega, fun h => by omega⟩
          case round =>
            obtain ⟨i, rfl, hi, hg, hC, q1, q2, q3⟩ := hrel
            have HG := Lib.hid hg
            have HQ1 := Lib.hid q1
            have HQ2 := Lib.hid q2
            have HQ3 := Lib.hid q3
            clear hg q1 q2 q3
            have h3 : NB wr B (.slice none 0 0) false false := (hC.block B h2.lt (fun h => h)).trans h2
            have hkk := k0.trans hC
            rcases (by omega : i = 0 ∨ i = 1 ∨ i = 2 ∨ i = 3) with rfl | rfl | rfl | rfl
            · cases hpx : Lib.hasPrefix y [48, 120]
              · have HPX := Lib.hid hpx
                have hcp := fun W => HCP.out (⟨#[48, 120]⟩ : ByteArray) W
                rw [show (⟨#[48, 120]⟩ : ByteArray).data.toList = [48, 120] from rfl, hpx] at hcp
                have HCX := Lib.hid hcp
                clear hpx hcp
                go_wp2_with fail
                refine (HCX.out _).mono ?_
                rintro e w3 ⟨rfl, rfl⟩
                go_wp2_with fail
                go_roundg (3 - (0 + 1))
                case measure => have := HG.out; omega
                case rel => exact ⟨0 + 1, rfl, by omega, rfl, hC.alloc _, fun _ => HPX.out, fun h => by omega, fun h => by omega⟩
              · have hub : unb y = (16, Lib.trimPrefix y [48, 120]) := by
                  unfold unb
                  rw [hpx]; rfl
                have HUB := Lib.hid hub
                have hcp := fun W => HCP.out (⟨#[48, 120]⟩ : ByteArray) W
                rw [show (⟨#[48, 120]⟩ : ByteArray).data.toList = [48, 120] from rfl, hpx] at hcp
                have HCX := Lib.hid hcp
                clear hub hpx hcp
                go_wp2_with fail
                refine (HCX.out _).mono ?_
                rintro e w3 ⟨rfl, rfl⟩
                go_wp2_with fail
                obtain ⟨W5, hW5⟩ : ∃ W5, W5 = wr.alloc (Obj.cells #[Value.string ⟨#[48, 120]⟩, Value.int IntKind.i64 16] 161) := ⟨_, rfl⟩
                have h35 : NB W5 B (.slice none 0 0) false false := by rw [hW5]; exact (Below.heap_alloc _ _ _ h3.lt).trans h3
                have hk5 : Chg (fun _ => False) w W5 := by rw [hW5]; exact hkk.alloc _
                rw [← hW5]
                clear hW5
                have hrd := read_big_calls W5 ⟨(Lib.trimPrefix y [48, 120]).toArray⟩ (by rw [ba_size]; exact Nat.le_trans (trimPrefix_len _ _) hyl) 16 (by omega) (by omega) false
                refine hrd.mono ?_
                clear hrd
                rintro e w4 ⟨k4, h4⟩
                have h5 : NB w4 B (.slice none 0 0) false false := (k4.block B h35.lt (fun h => h)).trans h35
                have hk4 := hk5.trans k4
                have c60 := cell_of h5 0 rfl
                have f60 := blk_frozen h5 0
                have c61 := cell_of h5 1 rfl
                have f61 := blk_frozen h5 1
                have c62 := cell_of h5 2 rfl
                have f62 := blk_frozen h5 2
                unfold numv at h4
                rcases h4 with ⟨hok, rfl⟩ | ⟨hok, v, ds, n', g', rfl, hNM, hR⟩
                · have HOK := Lib.hid hok
                  clear hok
                  go_wp2_with fail
                  exact parse_end rfl rfl (NB.set3 h5) ⟨NB.chg3 hk4 (.inr (by rw [HB.out]; exact Nat.le_refl _)), .inl ⟨prs_none HUN.out HUB.out HOK.out, rfl⟩⟩
                · have HOK := Lib.hid hok
                  clear hok
                  obtain ⟨A, c, rfl, hc, hread⟩ := Kd.R_reads hR
                  go_wp2_with fail
                  exact parse_end rfl rfl (NB.set3 h5) ⟨NB.chg3 hk4 (.inr (by rw [HB.out]; exact Nat.le_refl _)), .inr ⟨_, _, prs_some HUN.out HUB.out HOK.out, _, ds, n', g', rfl, hNM, R_end hR h35.lt hk5.size⟩⟩
            · cases hpx : Lib.hasPrefix y [48, 111]
              · have HPX := Lib.hid hpx
                have hcp := fun W => HCP.out (⟨#[48, 111]⟩ : ByteArray) W
                rw [show (⟨#[48, 111]⟩ : ByteArray).data.toList = [48, 111] from rfl, hpx] at hcp
                have HCX := Lib.hid hcp
                clear hpx hcp
                go_wp2_with fail
                refine (HCX.out _).mono ?_
                rintro e w3 ⟨rfl, rfl⟩
                go_wp2_with fail
                go_roundg (3 - (1 + 1))
                case measure => have := HG.out; omega
                case rel => exact ⟨1 + 1, rfl, by omega, rfl, hC.alloc _, fun _ => HQ1.out (by omega), fun _ => HPX.out, fun h => by omega⟩
              · have hub : unb y = (8, Lib.trimPrefix y [48, 111]) := by
                  unfold unb
                  rw [HQ1.out (by omega), hpx]; rfl
                have HUB := Lib.hid hub
                have hcp := fun W => HCP.out (⟨#[48, 111]⟩ : ByteArray) W
                rw [show (⟨#[48, 111]⟩ : ByteArray).data.toList = [48, 111] from rfl, hpx] at hcp
                have HCX := Lib.hid hcp
                clear hub hpx hcp
                go_wp2_with fail
                refine (HCX.out _).mono ?_
                rintro e w3 ⟨rfl, rfl⟩
                go_wp2_with fail
                obtain ⟨W5, hW5⟩ : ∃ W5, W5 = wr.alloc (Obj.cells #[Value.string ⟨#[48, 111]⟩, Value.int IntKind.i64 8] 161) := ⟨_, rfl⟩
                have h35 : NB W5 B (.slice none 0 0) false false := by rw [hW5]; exact (Below.heap_alloc _ _ _ h3.lt).trans h3
                have hk5 : Chg (fun _ => False) w W5 := by rw [hW5]; exact hkk.alloc _
                rw [← hW5]
                clear hW5
                have hrd := read_big_calls W5 ⟨(Lib.trimPrefix y [48, 111]).toArray⟩ (by rw [ba_size]; exact Nat.le_trans (trimPrefix_len _ _) hyl) 8 (by omega) (by omega) false
                refine hrd.mono ?_
                clear hrd
                rintro e w4 ⟨k4, h4⟩
                have h5 : NB w4 B (.slice none 0 0) false false := (k4.block B h35.lt (fun h => h)).trans h35
                have hk4 := hk5.trans k4
                have c60 := cell_of h5 0 rfl
                have f60 := blk_frozen h5 0
                have c61 := cell_of h5 1 rfl
                have f61 := blk_frozen h5 1
                have c62 := cell_of h5 2 rfl
                have f62 := blk_frozen h5 2
                unfold numv at h4
                rcases h4 with ⟨hok, rfl⟩ | ⟨hok, v, ds, n', g', rfl, hNM, hR⟩
                · have HOK := Lib.hid hok
                  clear hok
                  go_wp2_with fail
                  exact parse_end rfl rfl (NB.set3 h5) ⟨NB.chg3 hk4 (.inr (by rw [HB.out]; exact Nat.le_refl _)), .inl ⟨prs_none HUN.out HUB.out HOK.out, rfl⟩⟩
                · have HOK := Lib.hid hok
                  clear hok
                  obtain ⟨A, c, rfl, hc, hread⟩ := Kd.R_reads hR
                  go_wp2_with fail
                  exact parse_end rfl rfl (NB.set3 h5) ⟨NB.chg3 hk4 (.inr (by rw [HB.out]; exact Nat.le_refl _)), .inr ⟨_, _, prs_some HUN.out HUB.out HOK.out, _, ds, n', g', rfl, hNM, R_end hR h35.lt hk5.size⟩⟩
            · cases hpx : Lib.hasPrefix y [48, 98]
              · have HPX := Lib.hid hpx
                have hcp := fun W => HCP.out (⟨#[48, 98]⟩ : ByteArray) W
                rw [show (⟨#[48, 98]⟩ : ByteArray).data.toList = [48, 98] from rfl, hpx] at hcp
                have HCX := Lib.hid hcp
                clear hpx hcp
                go_wp2_with fail
                refine (HCX.out _).mono ?_
                rintro e w3 ⟨rfl, rfl⟩
                go_wp2_with fail
                go_roundg (3 - (2 + 1))
                case measure => have := HG.out; omega
                case rel => exact ⟨2 + 1, rfl, by omega, rfl, hC.alloc _, fun _ => HQ1.out (by omega), fun _ => HQ2.out (by omega), fun _ => HPX.out⟩
              · have hub : unb y = (2, Lib.trimPrefix y [48, 98]) := by
                  unfold unb
                  rw [HQ1.out (by omega), HQ2.out (by omega), hpx]; rfl
                have HUB := Lib.hid hub
                have hcp := fun W => HCP.out (⟨#[48, 98]⟩ : ByteArray) W
                rw [show (⟨#[48, 98]⟩ : ByteArray).data.toList = [48, 98] from rfl, hpx] at hcp
                have HCX := Lib.hid hcp
                clear hub hpx hcp
                go_wp2_with fail
                refine (HCX.out _).mono ?_
                rintro e w3 ⟨rfl, rfl⟩
                go_wp2_with fail
                obtain ⟨W5, hW5⟩ : ∃ W5, W5 = wr.alloc (Obj.cells #[Value.string ⟨#[48, 98]⟩, Value.int IntKind.i64 2] 161) := ⟨_, rfl⟩
                have h35 : NB W5 B (.slice none 0 0) false false := by rw [hW5]; exact (Below.heap_alloc _ _ _ h3.lt).trans h3
                have hk5 : Chg (fun _ => False) w W5 := by rw [hW5]; exact hkk.alloc _
                rw [← hW5]
                clear hW5
                have hrd := read_big_calls W5 ⟨(Lib.trimPrefix y [48, 98]).toArray⟩ (by rw [ba_size]; exact Nat.le_trans (trimPrefix_len _ _) hyl) 2 (by omega) (by omega) false
                refine hrd.mono ?_
                clear hrd
                rintro e w4 ⟨k4, h4⟩
                have h5 : NB w4 B (.slice none 0 0) false false := (k4.block B h35.lt (fun h => h)).trans h35
                have hk4 := hk5.trans k4
                have c60 := cell_of h5 0 rfl
                have f60 := blk_frozen h5 0
                have c61 := cell_of h5 1 rfl
                have f61 := blk_frozen h5 1
                have c62 := cell_of h5 2 rfl
                have f62 := blk_frozen h5 2
                unfold numv at h4
                rcases h4 with ⟨hok, rfl⟩ | ⟨hok, v, ds, n', g', rfl, hNM, hR⟩
                · have HOK := Lib.hid hok
                  clear hok
                  go_wp2_with fail
                  exact parse_end rfl rfl (NB.set3 h5) ⟨NB.chg3 hk4 (.inr (by rw [HB.out]; exact Nat.le_refl _)), .inl ⟨prs_none HUN.out HUB.out HOK.out, rfl⟩⟩
                · have HOK := Lib.hid hok
                  clear hok
                  obtain ⟨A, c, rfl, hc, hread⟩ := Kd.R_reads hR
                  go_wp2_with fail
                  exact parse_end rfl rfl (NB.set3 h5) ⟨NB.chg3 hk4 (.inr (by rw [HB.out]; exact Nat.le_refl _)), .inr ⟨_, _, prs_some HUN.out HUB.out HOK.out, _, ds, n', g', rfl, hNM, R_end hR h35.lt hk5.size⟩⟩
            · have hub : unb y = (10, y) := by
                unfold unb
                rw [HQ1.out (by omega), HQ2.out (by omega), HQ3.out (by omega)]; rfl
              have HUB := Lib.hid hub
              clear hub
              go_wp2_with fail
              have hrd := read_big_calls wr ⟨y.toArray⟩ (by rw [ba_size]; exact hyl) 10 (by omega) (by omega) false
              refine hrd.mono ?_
              clear hrd
              rintro e w4 ⟨k4, h4⟩
              have h5 : NB w4 B (.slice none 0 0) false false := (k4.block B h3.lt (fun h => h)).trans h3
              have hk4 := hkk.trans k4
              have c60 := cell_of h5 0 rfl
              have f60 := blk_frozen h5 0
              have c61 := cell_of h5 1 rfl
              have f61 := blk_frozen h5 1
              have c62 := cell_of h5 2 rfl
              have f62 := blk_frozen h5 2
              unfold numv at h4
              rcases h4 with ⟨hok, rfl⟩ | ⟨hok, v, ds, n', g', rfl, hNM, hR⟩
              · have HOK := Lib.hid hok
                clear hok
                go_wp2_with fail
                exact parse_end rfl rfl (NB.set3 h5) ⟨NB.chg3 hk4 (.inr (by rw [HB.out]; exact Nat.le_refl _)), .inl ⟨prs_none HUN.out HUB.out HOK.out, rfl⟩⟩
              · have HOK := Lib.hid hok
                clear hok
                obtain ⟨A, c, rfl, hc, hread⟩ := Kd.R_reads hR
                go_wp2_with fail
                exact parse_end rfl rfl (NB.set3 h5) ⟨NB.chg3 hk4 (.inr (by rw [HB.out]; exact Nat.le_refl _)), .inr ⟨_, _, prs_some HUN.out HUB.out HOK.out, _, ds, n', g', rfl, hNM, R_end hR h3.lt hkk.size⟩⟩
        case false =>
          have hyu : y = u := by rw [HY.out]; rfl
          subst hyu
          go_upto_block 4 with fail
          go_wp2_with fail
          go_loopg [46] 3 (fun gk v46 wr => LP3 y w' gk v46 wr)
          case atStart => exact ⟨0, rfl, by omega, rfl, Chg.refl _ _, fun h => by omega, fun h => by omega, fun h => by omega⟩
          case round =>
            obtain ⟨i, rfl, hi, hg, hC, q1, q2, q3⟩ := hrel
            have HG := Lib.hid hg
            have HQ1 := Lib.hid q1
            have HQ2 := Lib.hid q2
            have HQ3 := Lib.hid q3
            clear hg q1 q2 q3
            have h3 : NB wr B (.slice none 0 0) false false := (hC.block B h2.lt (fun h => h)).trans h2
            have hkk := k0.trans hC
            rcases (by omega : i = 0 ∨ i = 1 ∨ i = 2 ∨ i = 3) with rfl | rfl | rfl | rfl
            · cases hpx : Lib.hasPrefix y [48, 120]
              · have HPX := Lib.hid hpx
                have hcp := fun W => HCP.out (⟨#[48, 120]⟩ : ByteArray) W
                rw [show (⟨#[48, 120]⟩ : ByteArray).data.toList = [48, 120] from rfl, hpx] at hcp
                have HCX := Lib.hid hcp
                clear hpx hcp
                go_wp2_with fail
                refine (HCX.out _).mono ?_
                rintro e w3 ⟨rfl, rfl⟩
                go_wp2_with fail
                go_roundg (3 - (0 + 1))
                case measure => have := HG.out; omega
                case rel => exact ⟨0 + 1, rfl, by omega, rfl, hC.alloc _, fun _ => HPX.out, fun h => by omega, fun h => by omega⟩
              · have hub : unb y = (16, Lib.trimPrefix y [48, 120]) := by
                  unfold unb
                  rw [hpx]; rfl
                have HUB := Lib.hid hub
                have hcp := fun W => HCP.out (⟨#[48, 120]⟩ : ByteArray) W
                rw [show (⟨#[48, 120]⟩ : ByteArray).data.toList = [48, 120] from rfl, hpx] at hcp
                have HCX := Lib.hid hcp
                clear hub hpx hcp
                go_wp2_with fail
                refine (HCX.out _).mono ?_
                rintro e w3 ⟨rfl, rfl⟩
                go_wp2_with fail
                obtain ⟨W5, hW5⟩ : ∃ W5, W5 = wr.alloc (Obj.cells #[Value.string ⟨#[48, 120]⟩, Value.int IntKind.i64 16] 161) := ⟨_, rfl⟩
                have h35 : NB W5 B (.slice none 0 0) false false := by rw [hW5]; exact (Below.heap_alloc _ _ _ h3.lt).trans h3
                have hk5 : Chg (fun _ => False) w W5 := by rw [hW5]; exact hkk.alloc _
                rw [← hW5]
                clear hW5
                have hrd := read_big_calls W5 ⟨(Lib.trimPrefix y [48, 120]).toArray⟩ (by rw [ba_size]; exact Nat.le_trans (trimPrefix_len _ _) hyl) 16 (by omega) (by omega) false
                refine hrd.mono ?_
                clear hrd
                rintro e w4 ⟨k4, h4⟩
                have h5 : NB w4 B (.slice none 0 0) false false := (k4.block B h35.lt (fun h => h)).trans h35
                have hk4 := hk5.trans k4
                have c60 := cell_of h5 0 rfl
                have f60 := blk_frozen h5 0
                have c61 := cell_of h5 1 rfl
                have f61 := blk_frozen h5 1
                have c62 := cell_of h5 2 rfl
                have f62 := blk_frozen h5 2
                unfold numv at h4
                rcases h4 with ⟨hok, rfl⟩ | ⟨hok, v, ds, n', g', rfl, hNM, hR⟩
                · have HOK := Lib.hid hok
                  clear hok
                  go_wp2_with fail
                  exact parse_end rfl rfl (NB.set3 h5) ⟨NB.chg3 hk4 (.inr (by rw [HB.out]; exact Nat.le_refl _)), .inl ⟨prs_none HUN.out HUB.out HOK.out, rfl⟩⟩
                · have HOK := Lib.hid hok
                  clear hok
                  obtain ⟨A, c, rfl, hc, hread⟩ := Kd.R_reads hR
                  go_wp2_with fail
                  exact parse_end rfl rfl (NB.set3 h5) ⟨NB.chg3 hk4 (.inr (by rw [HB.out]; exact Nat.le_refl _)), .inr ⟨_, _, prs_some HUN.out HUB.out HOK.out, _, ds, n', g', rfl, hNM, R_end hR h35.lt hk5.size⟩⟩
            · cases hpx : Lib.hasPrefix y [48, 111]
              · have HPX := Lib.hid hpx
                have hcp := fun W => HCP.out (⟨#[48, 111]⟩ : ByteArray) W
                rw [show (⟨#[48, 111]⟩ : ByteArray).data.toList = [48, 111] from rfl, hpx] at hcp
                have HCX := Lib.hid hcp
                clear hpx hcp
                go_wp2_with fail
                refine (HCX.out _).mono ?_
                rintro e w3 ⟨rfl, rfl⟩
                go_wp2_with fail
                go_roundg (3 - (1 + 1))
                case measure => have := HG.out; omega
                case rel => exact ⟨1 + 1, rfl, by omega, rfl, hC.alloc _, fun _ => HQ1.out (by omega), fun _ => HPX.out, fun h => by omega⟩
              · have hub : unb y = (8, Lib.trimPrefix y [48, 111]) := by
                  unfold unb
                  rw [HQ1.out (by omega), hpx]; rfl
                have HUB := Lib.hid hub
                have hcp := fun W => HCP.out (⟨#[48, 111]⟩ : ByteArray) W
                rw [show (⟨#[48, 111]⟩ : ByteArray).data.toList = [48, 111] from rfl, hpx] at hcp
                have HCX := Lib.hid hcp
                clear hub hpx hcp
                go_wp2_with fail
                refine (HCX.out _).mono ?_
                rintro e w3 ⟨rfl, rfl⟩
                go_wp2_with fail
                obtain ⟨W5, hW5⟩ : ∃ W5, W5 = wr.alloc (Obj.cells #[Value.string ⟨#[48, 111]⟩, Value.int IntKind.i64 8] 161) := ⟨_, rfl⟩
                have h35 : NB W5 B (.slice none 0 0) false false := by rw [hW5]; exact (Below.heap_alloc _ _ _ h3.lt).trans h3
                have hk5 : Chg (fun _ => False) w W5 := by rw [hW5]; exact hkk.alloc _
                rw [← hW5]
                clear hW5
                have hrd := read_big_calls W5 ⟨(Lib.trimPrefix y [48, 111]).toArray⟩ (by rw [ba_size]; exact Nat.le_trans (trimPrefix_len _ _) hyl) 8 (by omega) (by omega) false
                refine hrd.mono ?_
                clear hrd
                rintro e w4 ⟨k4, h4⟩
                have h5 : NB w4 B (.slice none 0 0) false false := (k4.block B h35.lt (fun h => h)).trans h35
                have hk4 := hk5.trans k4
                have c60 := cell_of h5 0 rfl
                have f60 := blk_frozen h5 0
                have c61 := cell_of h5 1 rfl
                have f61 := blk_frozen h5 1
                have c62 := cell_of h5 2 rfl
                have f62 := blk_frozen h5 2
                unfold numv at h4
                rcases h4 with ⟨hok, rfl⟩ | ⟨hok, v, ds, n', g', rfl, hNM, hR⟩
                · have HOK := Lib.hid hok
                  clear hok
                  go_wp2_with fail
                  exact parse_end rfl rfl (NB.set3 h5) ⟨NB.chg3 hk4 (.inr (by rw [HB.out]; exact Nat.le_refl _)), .inl ⟨prs_none HUN.out HUB.out HOK.out, rfl⟩⟩
                · have HOK := Lib.hid hok
                  clear hok
                  obtain ⟨A, c, rfl, hc, hread⟩ := Kd.R_reads hR
                  go_wp2_with fail
                  exact parse_end rfl rfl (NB.set3 h5) ⟨NB.chg3 hk4 (.inr (by rw [HB.out]; exact Nat.le_refl _)), .inr ⟨_, _, prs_some HUN.out HUB.out HOK.out, _, ds, n', g', rfl, hNM, R_end hR h35.lt hk5.size⟩⟩
            · cases hpx : Lib.hasPrefix y [48, 98]
              · have HPX := Lib.hid hpx
                have hcp := fun W => HCP.out (⟨#[48, 98]⟩ : ByteArray) W
                rw [show (⟨#[48, 98]⟩ : ByteArray).data.toList = [48, 98] from rfl, hpx] at hcp
                have HCX := Lib.hid hcp
                clear hpx hcp
                go_wp2_with fail
                refine (HCX.out _).mono ?_
                rintro e w3 ⟨rfl, rfl⟩
                go_wp2_with fail
                go_roundg (3 - (2 + 1))
                case measure => have := HG.out; omega
                case rel => exact ⟨2 + 1, rfl, by omega, rfl, hC.alloc _, fun _ => HQ1.out (by omega), fun _ => HQ2.out (by omega), fun _ => HPX.out⟩
              · have hub : unb y = (2, Lib.trimPrefix y [48, 98]) := by
                  unfold unb
                  rw [HQ1.out (by omega), HQ2.out (by omega), hpx]; rfl
                have HUB := Lib.hid hub
                have hcp := fun W => HCP.out (⟨#[48, 98]⟩ : ByteArray) W
                rw [show (⟨#[48, 98]⟩ : ByteArray).data.toList = [48, 98] from rfl, hpx] at hcp
                have HCX := Lib.hid hcp
                clear hub hpx hcp
                go_wp2_with fail
                refine (HCX.out _).mono ?_
                rintro e w3 ⟨rfl, rfl⟩
                go_wp2_with fail
                obtain ⟨W5, hW5⟩ : ∃ W5, W5 = wr.alloc (Obj.cells #[Value.string ⟨#[48, 98]⟩, Value.int IntKind.i64 2] 161) := ⟨_, rfl⟩
                have h35 : NB W5 B (.slice none 0 0) false false := by rw [hW5]; exact (Below.heap_alloc _ _ _ h3.lt).trans h3
                have hk5 : Chg (fun _ => False) w W5 := by rw [hW5]; exact hkk.alloc _
                rw [← hW5]
                clear hW5
                have hrd := read_big_calls W5 ⟨(Lib.trimPrefix y [48, 98]).toArray⟩ (by rw [ba_size]; exact Nat.le_trans (trimPrefix_len _ _) hyl) 2 (by omega) (by omega) false
                refine hrd.mono ?_
                clear hrd
                rintro e w4 ⟨k4, h4⟩
                have h5 : NB w4 B (.slice none 0 0) false false := (k4.block B h35.lt (fun h => h)).trans h35
                have hk4 := hk5.trans k4
                have c60 := cell_of h5 0 rfl
                have f60 := blk_frozen h5 0
                have c61 := cell_of h5 1 rfl
                have f61 := blk_frozen h5 1
                have c62 := cell_of h5 2 rfl
                have f62 := blk_frozen h5 2
                unfold numv at h4
                rcases h4 with ⟨hok, rfl⟩ | ⟨hok, v, ds, n', g', rfl, hNM, hR⟩
                · have HOK := Lib.hid hok
                  clear hok
                  go_wp2_with fail
                  exact parse_end rfl rfl (NB.set3 h5) ⟨NB.chg3 hk4 (.inr (by rw [HB.out]; exact Nat.le_refl _)), .inl ⟨prs_none HUN.out HUB.out HOK.out, rfl⟩⟩
                · have HOK := Lib.hid hok
                  clear hok
                  obtain ⟨A, c, rfl, hc, hread⟩ := Kd.R_reads hR
                  go_wp2_with fail
                  exact parse_end rfl rfl (NB.set3 h5) ⟨NB.chg3 hk4 (.inr (by rw [HB.out]; exact Nat.le_refl _)), .inr ⟨_, _, prs_some HUN.out HUB.out HOK.out, _, ds, n', g', rfl, hNM, R_end hR h35.lt hk5.size⟩⟩
            · have hub : unb y = (10, y) := by
                unfold unb
                rw [HQ1.out (by omega), HQ2.out (by omega), HQ3.out (by omega)]; rfl
              have HUB := Lib.hid hub
              clear hub
              go_wp2_with fail
              have hrd := read_big_calls wr ⟨y.toArray⟩ (by rw [ba_size]; exact hyl) 10 (by omega) (by omega) false
              refine hrd.mono ?_
              clear hrd
              rintro e w4 ⟨k4, h4⟩
              have h5 : NB w4 B (.slice none 0 0) false false := (k4.block B h3.lt (fun h => h)).trans h3
              have hk4 := hkk.trans k4
              have c60 := cell_of h5 0 rfl
              have f60 := blk_frozen h5 0
              have c61 := cell_of h5 1 rfl
              have f61 := blk_frozen h5 1
              have c62 := cell_of h5 2 rfl
              have f62 := blk_frozen h5 2
              unfold numv at h4
              rcases h4 with ⟨hok, rfl⟩ | ⟨hok, v, ds, n', g', rfl, hNM, hR⟩
              · have HOK := Lib.hid hok
                clear hok
                go_wp2_with fail
                exact parse_end rfl rfl (NB.set3 h5) ⟨NB.chg3 hk4 (.inr (by rw [HB.out]; exact Nat.le_refl _)), .inl ⟨prs_none HUN.out HUB.out HOK.out, rfl⟩⟩
              · have HOK := Lib.hid hok
                clear hok
                obtain ⟨A, c, rfl, hc, hread⟩ := Kd.R_reads hR
                go_wp2_with fail
                exact parse_end rfl rfl (NB.set3 h5) ⟨NB.chg3 hk4 (.inr (by rw [HB.out]; exact Nat.le_refl _)), .inr ⟨_, _, prs_some HUN.out HUB.out HOK.out, _, ds, n', g', rfl, hNM, R_end hR h3.lt hkk.size⟩⟩
end Go.Proofs.YtemogjpgkcbaiaaGreatDoor.Sp
end
section
namespace Go.Proofs.YtemogjpgkcbaiaaGreatDoor.Sp
open Go.RowKit Go.Proofs.YtemogjpgkcbaiaaGreatDoorW.PrintWords Go.Proofs.YtemogjpgkcbaiaaGreatDoorW.PrintLast Go.Proofs.YtemogjpgkcbaiaaGreatDoorW.PrintMore
set_option linter.unusedVariables false
set_option linter.unusedSimpArgs false
set_option maxRecDepth 100000
theorem never_calls (v : Value) (n l : Bool) (w : World) : Calls Tryz.prog 135 #[.agg #[v, .bool n, .bool l]] w fun e w' => e = .returned (.int .i64 0) ∧ Chg (fun _ => False) w w' := by
  go_enter Tryz.func135, Tryz.ntmps135
  go_wp2
  go_ret
  exact ⟨rfl, (Chg.refl _ _).alloc _⟩
theorem opp_end {tmps : Array Value} {W : World} {B : Nat} {v : Value} {n l : Bool} {R : Ending → World → Prop} (h6 : tmps[2]? = some (.pointer (some ⟨B, 0, none⟩))) (hB : NB W B v n l) (h : R (.returned (numv v n l)) W) :
    bodyPost Tryz.prog Tryz.f136 R Exit.ret ⟨tmps, []⟩ W := by
  have c0 := cell_of hB 0 rfl
  have c1 := cell_of hB 1 rfl
  have c2 := cell_of hB 2 rfl
  exact bodyPost_ret (v := numv v n l) (by simp [results, Tryz.results136, go_sem, h6, c0, c1, c2, numv]) rfl h
theorem opposite_calls (A : Option Addr) (c : Nat) (ds : List Nat) (n l : Bool) (w : World) :
    Calls Tryz.prog 136 #[.agg #[.slice A (ci ds).length c, .bool n, .bool l]] w fun e w' => e = .returned (numv (.slice A (ci ds).length c) (!n && decide (0 < (ci ds).length)) false) ∧ Chg (fun _ => False) w w' := by
  go_enter Tryz.func136, Tryz.ntmps136
  go_wp2_with fail
  obtain ⟨W1, hW1⟩ : ∃ W1, W1 = w.alloc (Obj.cells #[Value.slice A (ci ds).length c, Value.bool n, Value.bool l] 139) := ⟨_, rfl⟩
  have k1 : Chg (fun _ => False) w W1 := by rw [hW1]; exact (Chg.refl _ _).alloc _
  have z1 : W1.heap.size = w.heap.size + 1 := by rw [hW1]; simp
  rw [← hW1, ← z1]
  clear hW1
  obtain ⟨W2, hW2⟩ : ∃ W2, W2 = W1.alloc (Obj.cells #[Value.slice none 0 0, Value.bool false, Value.bool false] 139) := ⟨_, rfl⟩
  have h2 : NB W2 W1.heap.size (.slice none 0 0) false false := by rw [hW2]; exact World.alloc_heap_new W1 _
  have k2 : Chg (fun _ => False) w W2 := by rw [hW2]; exact k1.alloc _
  rw [← hW2]
  clear hW2
  obtain ⟨B, hB⟩ : ∃ B, B = W1.heap.size := ⟨_, rfl⟩
  rw [← hB] at h2 ⊢
  have HB := Lib.hid (hB.trans z1)
  clear hB z1 k1
  refine (of_calls A _ c (!n) W2).mono ?_
  rintro e w3 ⟨rfl, hb3⟩
  have h3 : NB w3 B (.slice none 0 0) false false := (hb3.block B h2.lt).trans h2
  have k3 := k2.trans (Chg.of_below hb3)
  have c60 := cell_of h3 0 rfl
  have f60 := blk_frozen h3 0
  have c61 := cell_of h3 1 rfl
  have f61 := blk_frozen h3 1
  have c62 := cell_of h3 2 rfl
  have f62 := blk_frozen h3 2
  unfold numv
  obtain ⟨q, hq⟩ : ∃ q, q = (!n && decide (0 < (ci ds).length)) := ⟨_, rfl⟩
  rw [← hq]
  have HQ := Lib.hid hq
  clear hq
  go_wp2
  exact opp_end rfl (NB.set3 h3) ⟨by rw [HQ.out], NB.chg3 k3 (.inr (by rw [HB.out]; omega))⟩
def ngRes (s : ByteArray) : ByteArray × Int := match prs s.data.toList with
  | none => (⟨#[]⟩, 2)
  | some (neg, V) => numRes (!neg) V
theorem NM_opp {neg : Bool} {V : Nat} {l : List Nat} {n' l' : Bool} (h : NM neg V l n' l') (hf : l' = false) : NM (!neg) V l (!n' && decide (0 < (ci l).length)) false := by
  have hl := NM_long h
  rw [hf] at hl
  have hfit : fitsN V = true := by cases hq : fitsN V <;> simp [hq] at hl ⊢
  obtain ⟨rfl, rfl, _, hv⟩ := NM_short h hfit
  refine .inr ⟨hv, rfl, ?_, by rw [hfit]; rfl⟩
  by_cases hv0 : V = 0
  · subst hv0; rw [leN_zero]; simp [ci]
  · have h1 : leN B32 V ≠ [] := fun h => hv0 ((leN_nil B32_2).1 h)
    rw [ci_len, decide_eq_true (List.length_pos_iff.2 h1), decide_eq_true hv0, Bool.and_true, Bool.and_true, Bool.and_true]
set_option maxHeartbeats 2000000 in
theorem one_neg_calls (s : ByteArray) (hs : s.size ≤ 100000) (w : World) : Calls Tryz.prog 134 #[.string s, .func (.func 135) #[] #[], .func (.func 136) #[] #[]] w fun e w' => e = .returned (.tuple #[.string (ngRes s).1, .int .i64 (ngRes s).2]) ∧ Chg (fun _ => False) w w' := by
  have e135 : ∀ args w, (callFunc 135 args).run Tryz.prog w = .ok (.enter 135 args) w := fun _ _ => rfl
  have e136 : ∀ args w, (callFunc 136 args).run Tryz.prog w = .ok (.enter 136 args) w := fun _ _ => rfl
  go_enter Tryz.func134, Tryz.ntmps134
  go_wp2_with fail
  have hp := parse_calls s hs w
  rw [show PsPost s.data.toList w = fun e w' => PsPost s.data.toList w e w' from rfl] at hp
  refine hp.mono ?_
  clear hp
  rintro e w1 ⟨k1, h1⟩
  rcases h1 with ⟨hpr, rfl⟩ | ⟨neg, V, hpr, v, ds, n', g', rfl, hNM, hR⟩
  · have HN := Lib.hid (show ngRes s = (⟨#[]⟩, 2) by unfold ngRes; rw [hpr])
    clear hpr
    unfold numv
    go_wp2
    go_ret2
    exact ⟨by rw [HN.out]; rfl, k1.alloc _⟩
  · obtain ⟨A, c, rfl, hc, hread⟩ := Kd.R_reads hR
    have HN := Lib.hid (show ngRes s = numRes (!neg) V by unfold ngRes; rw [hpr])
    have HNM := Lib.hid hNM
    have hlong := NM_long hNM
    have HL := Lib.hid hlong
    clear hpr hNM hlong hR
    unfold numv
    go_wp2_with fail
    obtain ⟨W2, hW2⟩ : ∃ W2, W2 = w1.alloc (Obj.cells #[Value.slice A (ci ds).length c, Value.bool n', Value.bool g'] 139) := ⟨_, rfl⟩
    have h2 : NB W2 w1.heap.size (Value.slice A (ci ds).length c) n' g' := by rw [hW2]; exact World.alloc_heap_new w1 _
    have hb2 : Below w1.heap.size w1 W2 := by rw [hW2]; exact (Below.refl _ _).alloc (Nat.le_refl _) _
    rw [← hW2]
    clear hW2
    have k2 := k1.trans (Chg.of_below hb2)
    have hread2 := Kd.C_below hread hb2
    obtain ⟨B, hB⟩ : ∃ B, B = w1.heap.size := ⟨_, rfl⟩
    rw [← hB] at h2 ⊢
    clear hB hread hb2 k1
    have c0 := cell_of h2 0 rfl
    have c1 := cell_of h2 1 rfl
    have c2 := cell_of h2 2 rfl
    refine (never_calls _ n' g' W2).mono ?_
    rintro e w3 ⟨rfl, k3⟩
    have h3 : NB w3 B (Value.slice A (ci ds).length c) n' g' := (k3.block B h2.lt (fun h => h)).trans h2
    have k33 := k2.trans k3
    have hread3 : Kd.C (Kd.int .u32) w3 A (ci ds).length (ci ds) := Kd.C_below hread2 (k3.below (Nat.le_refl _) (fun _ h => h.elim))
    clear hread2 k2 k3 h2 c0 c1 c2
    have c0 := cell_of h3 0 rfl
    have c1 := cell_of h3 1 rfl
    have c2 := cell_of h3 2 rfl
    cases g'
    case true =>
      have hf : fitsN V = false := by have := HL.out; cases hq : fitsN V <;> simp [hq] at this ⊢
      have HF := Lib.hid hf
      clear hf
      go_wp2_with fail
      go_ret2
      exact ⟨by rw [HN.out]; unfold numRes; rw [HF.out]; rfl, k33⟩
    case false =>
      have hres := result_NM (NM_opp HNM.out rfl)
      obtain ⟨r, hr⟩ : ∃ r, r = numRes (!neg) V := ⟨_, rfl⟩
      rw [← hr] at hres
      have HR := Lib.hid hr
      obtain ⟨r1, r2⟩ := r
      have HRES := Lib.hid hres
      clear hres hr
      go_wp2_with fail
      refine (opposite_calls A c ds n' false w3).mono ?_
      rintro e w4 ⟨rfl, k4⟩
      have hread4 : Kd.C (Kd.int .u32) w4 A (ci ds).length (ci ds) := Kd.C_below hread3 (k4.below (Nat.le_refl _) (fun _ h => h.elim))
      have k44 := k33.trans k4
      clear hread3 k33 k4 h3 c0 c1 c2
      unfold numv
      go_wp2_with fail
      refine (big_number_result.calls 400000 A c (ci ds) _ false r1 r2 w4 hread4 hc HRES.out).mono ?_
      rintro e w5 ⟨rfl, hb5⟩
      go_wp2_with fail
      go_ret2
      exact ⟨by rw [HN.out, ← HR.out]; rfl, k44.trans (Chg.of_below hb5)⟩
set_option maxHeartbeats 1000000 in
theorem Neg_calls (s : ByteArray) (hs : s.size ≤ 100000) (w : World) : Calls Tryz.prog 101 #[.string s] w fun e w' => e = .returned (.tuple #[.string (ngRes s).1, .int .i64 (ngRes s).2]) ∧ Chg (fun _ => False) w w' := by
  go_enter Tryz.func101, Tryz.ntmps101
  go_wp2_with fail
  refine (one_neg_calls s hs w).mono ?_
  rintro e w1 ⟨rfl, k1⟩
  obtain ⟨r, hr⟩ : ∃ r, r = ngRes s := ⟨_, rfl⟩
  rw [← hr]
  have HR := Lib.hid hr
  clear hr
  obtain ⟨r1, r2⟩ := r
  go_wp2
  go_ret2
  exact ⟨by rw [← HR.out]; rfl, k1⟩
end Go.Proofs.YtemogjpgkcbaiaaGreatDoor.Sp
end
section
namespace Go.Proofs.YtemogjpgkcbaiaaGreatDoor.Sp
open Go.RowKit Go.Proofs.YtemogjpgkcbaiaaGreatDoorW.PrintWords Go.Proofs.YtemogjpgkcbaiaaGreatDoorW.PrintLast Go.Proofs.YtemogjpgkcbaiaaGreatDoorW.PrintMore
set_option linter.unusedVariables false
set_option linter.unusedSimpArgs false
set_option maxRecDepth 100000
def baRes (s : ByteArray) (b : Nat) : ByteArray × Int := match prs s.data.toList with
  | none => (⟨#[]⟩, 2)
  | some (neg, V) => if fitsN V then (ntx neg b V, 0) else (⟨#[]⟩, 4)
set_option maxHeartbeats 2000000 in
theorem Base_calls (s : ByteArray) (hs : s.size ≤ 100000) (b : Nat) (hb : 2 ≤ b) (hb2 : b ≤ 36) (w : World) : Calls Tryz.prog 78 #[.string s, .int .i64 (b : Int)] w fun e w' => e = .returned (.tuple #[.string (baRes s b).1, .int .i64 (baRes s b).2]) ∧ Chg (fun _ => False) w w' := by
  have hfar := fun W => far_calls (b : Int) (by omega) (by omega) W
  have HF := Lib.hid hfar
  clear hfar
  go_enter Tryz.func78, Tryz.ntmps78
  go_wp2_with fail
  have hp := parse_calls s hs w
  rw [show PsPost s.data.toList w = fun e w' => PsPost s.data.toList w e w' from rfl] at hp
  refine hp.mono ?_
  clear hp
  rintro e w1 ⟨k1, h1⟩
  rcases h1 with ⟨hpr, rfl⟩ | ⟨neg, V, hpr, v, ds, n', g', rfl, hNM, hR⟩
  · have HN := Lib.hid (show baRes s b = (⟨#[]⟩, 2) by unfold baRes; rw [hpr])
    clear hpr
    unfold numv
    go_wp2
    go_ret2
    exact ⟨by rw [HN.out]; rfl, k1.alloc _⟩
  · obtain ⟨A, c, rfl, hc, hread⟩ := Kd.R_reads hR
    have HN := Lib.hid (show baRes s b = if fitsN V then (ntx neg b V, 0) else (⟨#[]⟩, 4) by unfold baRes; rw [hpr])
    have HNM := Lib.hid hNM
    have hlong := NM_long hNM
    have HL := Lib.hid hlong
    clear hpr hNM hlong hR
    unfold numv
    go_wp2_with fail
    obtain ⟨W2, hW2⟩ : ∃ W2, W2 = w1.alloc (Obj.cells #[Value.slice A (ci ds).length c, Value.bool n', Value.bool g'] 139) := ⟨_, rfl⟩
    have h2 : NB W2 w1.heap.size (Value.slice A (ci ds).length c) n' g' := by rw [hW2]; exact World.alloc_heap_new w1 _
    have hb2 : Below w1.heap.size w1 W2 := by rw [hW2]; exact (Below.refl _ _).alloc (Nat.le_refl _) _
    rw [← hW2]
    clear hW2
    have k2 := k1.trans (Chg.of_below hb2)
    have hread2 := Kd.C_below hread hb2
    obtain ⟨B, hB⟩ : ∃ B, B = w1.heap.size := ⟨_, rfl⟩
    rw [← hB] at h2 ⊢
    clear hB hread hb2 k1
    refine (HF.out _).mono ?_
    rintro e w3 ⟨rfl, rfl⟩
    have c0 := cell_of h2 0 rfl
    have c1 := cell_of h2 1 rfl
    have c2 := cell_of h2 2 rfl
    cases g'
    case true =>
      have hf : fitsN V = false := by have := HL.out; cases hq : fitsN V <;> simp [hq] at this ⊢
      have HF := Lib.hid hf
      clear hf
      go_wp2_with fail
      go_ret2
      exact ⟨by rw [HN.out, HF.out]; rfl, k2⟩
    case false =>
      have hf : fitsN V = true := by have := HL.out; cases hq : fitsN V <;> simp [hq] at this ⊢
      obtain ⟨rfl, hn', _, hv⟩ := NM_short HNM.out hf
      have hbl : (leN b V).length ≤ 100000 := by
        have : (leN b V).length ≤ M2010 := (leN_length hb M2010 V).2 (Nat.lt_of_lt_of_le hv (Nat.pow_le_pow_left hb _))
        unfold M2010 at this; omega
      have hres := text_f n' false b V hb hb2 (by have := len_small (show V < 2 ^ M2010 * 64 by omega); omega) hbl 400000 (by omega)
      have HFT := Lib.hid hf
      have HRES := Lib.hid hres
      have HNE := Lib.hid hn'
      clear hres hf hn' hv hbl
      go_wp2_with fail
      refine (big_number_text.calls 400000 A c _ _ false _ _ w3 hread2 hc HRES.out).mono ?_
      rintro e w5 ⟨rfl, hb5⟩
      go_wp2_with fail
      go_ret2
      refine ⟨?_, k2.trans (Chg.of_below hb5)⟩
      rw [HN.out, HFT.out, HNE.out, ntx_neg]; rfl
def inVal (neg : Bool) (V : Nat) : Int × Int := if V ≤ (if neg = true ∧ V ≠ 0 then 9223372036854775808 else 9223372036854775807) then (if neg = true then -(V : Int) else (V : Int), 0) else (0, 7)
def inRes (s : ByteArray) : Int × Int := match prs s.data.toList with
  | none => (0, 2)
  | some (neg, V) => inVal neg V
theorem inVal_big {neg : Bool} {V : Nat} (h : 18446744073709551616 ≤ V) : inVal neg V = (0, 7) := by
  unfold inVal
  rw [if_neg (by split <;> omega)]
theorem inVal_pos {neg : Bool} {V : Nat} (hn : (neg && decide (V ≠ 0)) = false) : inVal neg V = if V ≤ 9223372036854775807 then ((V : Int), 0) else (0, 7) := by
  unfold inVal
  have h : ¬ (neg = true ∧ V ≠ 0) := by rintro ⟨rfl, h2⟩; rw [decide_eq_true h2] at hn; cases hn
  rw [if_neg h]
  split
  · congr 1
    split
    · have : V = 0 := by rename_i h2; exact Classical.byContradiction fun h3 => h ⟨h2, h3⟩
      omega
    · rfl
  · rfl
theorem inVal_neg {neg : Bool} {V : Nat} (hn : (neg && decide (V ≠ 0)) = true) : inVal neg V = if V ≤ 9223372036854775808 then (-(V : Int), 0) else (0, 7) := by
  rw [Bool.and_eq_true, decide_eq_true_eq] at hn
  unfold inVal
  rw [if_pos hn, if_pos hn.1]
theorem pow_64_600 : 18446744073709551616 ≤ 10 ^ M600 := by decide +kernel
theorem fits_big {V : Nat} (h : fitsN V = false) : 18446744073709551616 ≤ V := Nat.le_trans pow_64_600 (Nat.not_lt.1 (of_decide_eq_false h))
theorem len3 {V : Nat} (h : 2 < (leN B32 V).length) : 18446744073709551616 ≤ V := by
  have := fun h2 => Nat.not_le.2 h ((leN_length B32_2 2 V).2 h2)
  have h3 := Nat.not_lt.1 this
  rw [show B32 ^ 2 = 18446744073709551616 from by decide] at h3
  exact h3
theorem two_digits {V : Nat} (h : (leN B32 V).length ≤ 2) : V < 18446744073709551616 ∧ (leN B32 V).getD 1 0 < B32 ∧ (leN B32 V).getD 0 0 < B32 ∧ V = (leN B32 V).getD 1 0 * 4294967296 + (leN B32 V).getD 0 0 := by
  have h2 := (leN_length B32_2 2 V).1 h
  rw [show B32 ^ 2 = 18446744073709551616 from by decide] at h2
  have d0 := vN_digit B32 B32_2 (leN B32 V) 0 (leN_dg B32_2 V)
  have d1 := vN_digit B32 B32_2 (leN B32 V) 1 (leN_dg B32_2 V)
  rw [vN_leN B32_2] at d0 d1
  rw [d0, d1, Nat.pow_zero, Nat.pow_one, Nat.div_one]
  unfold B32
  omega
theorem or_val (a b : Nat) (ha : a < 4294967296) (hb : b < 4294967296) : bits BinOp.or IntKind.u64 (IntKind.u64.wrap (IntKind.u64.wrap (a : Int) * 4294967296)) (IntKind.u64.wrap (b : Int)) = ((a * 4294967296 + b : Nat) : Int) := by
  rw [u64_small (x := (a : Int)) (by omega) (by omega), u64_small (x := (b : Int)) (by omega) (by omega), u64_small (x := (a : Int) * 4294967296) (by omega) (by omega)]
  rw [bits_join .u64 64 (by decide) wraps_u64 32 _ _ (by omega) (by omega) (by omega) (by omega) (by omega) (by omega)]
  omega
set_option maxHeartbeats 2000000 in
theorem Int_calls (s : ByteArray) (hs : s.size ≤ 100000) (w : World) : Calls Tryz.prog 85 #[.string s] w fun e w' => e = .returned (.tuple #[.int .i64 (inRes s).1, .int .i64 (inRes s).2]) ∧ Chg (fun _ => False) w w' := by
  go_enter Tryz.func85, Tryz.ntmps85
  go_wp2_with fail
  have hp := parse_calls s hs w
  rw [show PsPost s.data.toList w = fun e w' => PsPost s.data.toList w e w' from rfl] at hp
  refine hp.mono ?_
  clear hp
  rintro e w1 ⟨k1, h1⟩
  rcases h1 with ⟨hpr, rfl⟩ | ⟨neg, V, hpr, v, ds, n', g', rfl, hNM, hR⟩
  · have HN := Lib.hid (show inRes s = (0, 2) by unfold inRes; rw [hpr])
    clear hpr
    unfold numv
    go_wp2
    go_ret2
    exact ⟨by rw [HN.out]; rfl, k1.alloc _⟩
  · obtain ⟨A, c, rfl, hc, hread⟩ := Kd.R_reads hR
    have HN := Lib.hid (show inRes s = inVal neg V by unfold inRes; rw [hpr])
    have HNM := Lib.hid hNM
    have hlong := NM_long hNM
    have HL := Lib.hid hlong
    clear hpr hNM hlong hR
    unfold numv
    go_wp2_with fail
    obtain ⟨W2, hW2⟩ : ∃ W2, W2 = w1.alloc (Obj.cells #[Value.slice A (ci ds).length c, Value.bool n', Value.bool g'] 139) := ⟨_, rfl⟩
    have h2 : NB W2 w1.heap.size (Value.slice A (ci ds).length c) n' g' := by rw [hW2]; exact World.alloc_heap_new w1 _
    have hb2 : Below w1.heap.size w1 W2 := by rw [hW2]; exact (Below.refl _ _).alloc (Nat.le_refl _) _
    rw [← hW2]
    clear hW2
    have k2 := k1.trans (Chg.of_below hb2)
    have hread2 := Kd.C_below hread hb2
    obtain ⟨B, hB⟩ : ∃ B, B = w1.heap.size := ⟨_, rfl⟩
    rw [← hB] at h2 ⊢
    clear hB hread hb2 k1
    have c0 := cell_of h2 0 rfl
    have c1 := cell_of h2 1 rfl
    have c2 := cell_of h2 2 rfl
    have hat : ∀ (i : Int) (h : 0 ≤ i) (n : Nat), Calls Tryz.prog 120 #[.slice A (ci ds).length c, .int .i64 i] (W2.drewN n) fun e w' => e = .returned (.int .u32 ((ds.getD i.toNat 0 : Nat) : Int)) ∧ ∃ m, w' = (W2.drewN n).drewN m := by
      intro i h n
      have hf := at_f ds i.toNat
      rw [Int.toNat_of_nonneg h] at hf
      refine (Pbits.big_nat_at.calls A c (ci ds) i _ (W2.drewN n) (Kd.C_drewN hread2 n) hc hf).mono ?_
      rintro e w' ⟨rfl, ⟨m, rfl⟩⟩
      exact ⟨rfl, m, rfl⟩
    have HAT := Lib.hid hat
    clear hat
    go_quiet ((exact Calls.quiet_of (HAT.out _ (by decide) _)))
    clear hread2
    have hC3 : Chg (fun _ => False) w (W2.drewN nq) := k2.drewN nq
    have h3 : NB (W2.drewN nq) B (Value.slice A (ci ds).length c) n' g' := h2
    clear k2 h2 c0 c1 c2
    generalize W2.drewN nq = W3 at *
    have c0 := cell_of h3 0 rfl
    have c1 := cell_of h3 1 rfl
    have c2 := cell_of h3 2 rfl
    have hdd : ∀ d ∈ ds, d < 4294967296 := by
      rcases HNM.out with ⟨_, rfl, _, _⟩ | ⟨_, rfl, _, _⟩
      · simp
      · exact leN_dg B32_2 V
    have hd1 : ∀ i, ds.getD i 0 < 4294967296 := by
      intro i
      rw [List.getD_eq_getElem?_getD]
      cases hi : ds[i]? with
      | none => simp
      | some x => exact hdd x (List.mem_of_getElem? hi)
    have hZ0 := or_val (ds.getD 1 0) (ds.getD 0 0) (hd1 1) (hd1 0)
    rw [List.getD_eq_getElem?_getD, List.getD_eq_getElem?_getD] at hZ0
    rw [hZ0]
    obtain ⟨Z, hZ⟩ : ∃ Z : Nat, Z = ds[1]?.getD 0 * 4294967296 + ds[0]?.getD 0 := ⟨_, rfl⟩
    rw [← hZ]
    have hZV : g' = false → ¬ 2 < (ci ds).length → Z = V := by
      intro hg hl
      have hf : fitsN V = true := by have := HL.out; rw [hg] at this; cases hq : fitsN V <;> simp [hq] at this ⊢
      obtain ⟨rfl, _, _, _⟩ := NM_short HNM.out hf
      rw [ci_len] at hl
      have h2 := two_digits (V := V) (by omega)
      rw [List.getD_eq_getElem?_getD, List.getD_eq_getElem?_getD] at h2
      omega
    have hZb : Z < 18446744073709551616 := by
      have h1 := hd1 1
      have h2 := hd1 0
      rw [List.getD_eq_getElem?_getD] at h1 h2
      omega
    have HZ := Lib.hid hZV
    have HZB := Lib.hid hZb
    clear hZ hZV hZ0 hd1 hdd hZb
    have hbig : g' = true → inRes s = (0, 7) := by
      intro hg
      rw [HN.out]
      have := HL.out
      rw [hg] at this
      exact inVal_big (fits_big (by cases hq : fitsN V <;> simp [hq] at this ⊢))
    have hbig2 : g' = false → 2 < (ci ds).length → inRes s = (0, 7) := by
      intro hg hl
      rw [HN.out]
      have hf : fitsN V = true := by have := HL.out; rw [hg] at this; cases hq : fitsN V <;> simp [hq] at this ⊢
      obtain ⟨rfl, _, _, _⟩ := NM_short HNM.out hf
      rw [ci_len] at hl
      exact inVal_big (len3 hl)
    have hnv : g' = false → n' = (neg && decide (V ≠ 0)) := by
      intro hg
      have hf : fitsN V = true := by have := HL.out; rw [hg] at this; cases hq : fitsN V <;> simp [hq] at this ⊢
      exact (NM_short HNM.out hf).2.1
    have HBIG := Lib.hid hbig
    have HBIG2 := Lib.hid hbig2
    have HNV := Lib.hid hnv
    clear hbig hbig2 hnv
    cases n'
    · cases g'
      · by_cases hl2 : 2 < (ci ds).length
        · have g1 : decide ((2 : Int) < ((ci ds).length : Int)) = true := by simp; omega
          have HL2 := Lib.hid hl2
          clear hl2
          go_wp2_with fail
          go_ret2
          exact ⟨by rw [HBIG2.out (by simp) HL2.out]; rfl, hC3⟩
        · have g1 : decide ((2 : Int) < ((ci ds).length : Int)) = false := by simp; omega
          have HL2 := Lib.hid hl2
          clear hl2
          by_cases hZ1 : (Z : Int) ≤ 9223372036854775807
          · have HZ2 := Lib.hid hZ1
            have g2 : decide ((9223372036854775807 : Int) < (Z : Int)) = false := by simp; omega
            have hconv : IntKind.i64.wrap (Z : Int) = (Z : Int) := IntWalk.i64_in _ (by omega)
            clear hZ1
            go_wp2_with fail
            go_ret2
            refine ⟨?_, hC3⟩
            have := HZ2.out
            have hzv := HZ.out (by simp) HL2.out
            rw [HN.out, inVal_pos (HNV.out (by simp)).symm, if_pos (by omega), hzv]; rfl
          · have hZ2 : (9223372036854775807 : Int) < (Z : Int) := by omega
            have HZ2 := Lib.hid hZ2
            have g2 : decide ((9223372036854775807 : Int) < (Z : Int)) = true := by simpa using hZ2
            clear hZ1 hZ2
            go_wp2_with fail
            go_ret2
            refine ⟨?_, hC3⟩
            have hzv := HZ.out (by simp) HL2.out
            have := HZ2.out
            rw [HN.out, inVal_pos (HNV.out (by simp)).symm, if_neg (by omega)]; rfl
      · go_wp2_with fail
        go_ret2
        exact ⟨by rw [HBIG.out (by simp)]; rfl, hC3⟩
    · cases g'
      · by_cases hl2 : 2 < (ci ds).length
        · have g1 : decide ((2 : Int) < ((ci ds).length : Int)) = true := by simp; omega
          have HL2 := Lib.hid hl2
          clear hl2
          go_wp2_with fail
          go_ret2
          exact ⟨by rw [HBIG2.out (by simp) HL2.out]; rfl, hC3⟩
        · have g1 : decide ((2 : Int) < ((ci ds).length : Int)) = false := by simp; omega
          have HL2 := Lib.hid hl2
          clear hl2
          by_cases hZ1 : (Z : Int) ≤ 9223372036854775808
          · have HZ2 := Lib.hid hZ1
            have g2 : decide ((9223372036854775808 : Int) < (Z : Int)) = false := by simp; omega
            clear hZ1
            have hconv : IntKind.i64.wrap (IntKind.u64.wrap (-(Z : Int))) = -(Z : Int) := by
              have h1 := HZ2.out
              simp only [IntKind.wrap, IntKind.bits, IntKind.signed]
              simp
              omega
            go_wp2_with fail
            go_ret2
            refine ⟨?_, hC3⟩
            have hzv := HZ.out (by simp) HL2.out
            have := HZ2.out
            rw [HN.out, inVal_neg (HNV.out (by simp)).symm, if_pos (by omega), hzv]; rfl
          · have hZ2 : (9223372036854775808 : Int) < (Z : Int) := by omega
            have HZ2 := Lib.hid hZ2
            have g2 : decide ((9223372036854775808 : Int) < (Z : Int)) = true := by simpa using hZ2
            clear hZ1 hZ2
            go_wp2_with fail
            go_ret2
            refine ⟨?_, hC3⟩
            have hzv := HZ.out (by simp) HL2.out
            have := HZ2.out
            rw [HN.out, inVal_neg (HNV.out (by simp)).symm, if_neg (by omega)]; rfl
      · go_wp2_with fail
        go_ret2
        exact ⟨by rw [HBIG.out (by simp)]; rfl, hC3⟩
end Go.Proofs.YtemogjpgkcbaiaaGreatDoor.Sp
end
section
namespace Go.Proofs.YtemogjpgkcbaiaaGreatDoor.Sp
open Go.RowKit Go.Proofs.YtemogjpgkcbaiaaGreatDoorW.PrintWords Go.Proofs.YtemogjpgkcbaiaaGreatDoorW.PrintLast Go.Proofs.YtemogjpgkcbaiaaGreatDoorW.PrintMore
set_option linter.unusedVariables false
set_option linter.unusedSimpArgs false
set_option maxRecDepth 100000
def T10 (w : World) : Prop := Lib.TabIs Tryz.prog w "internal/strconv.uint64pow10" .u64 Lib.pow10Tab
theorem glob10 : Tryz.prog.globalNamed "internal/strconv.uint64pow10" = some 2 := by kernel_rfl
theorem T10.at {w : World} (h : T10 w) : ∃ t f, w.heap[2]? = some (.cells (Lib.pow10Tab.map fun z => Value.int .u64 z).toArray t f) := by
  unfold T10 Lib.TabIs World.var? at h
  rw [glob10] at h
  simp only [Option.bind_some] at h
  split at h
  · rename_i cs t f hh
    exact ⟨t, f, by rw [hh, Option.some.inj h]⟩
  · cases h
theorem T10.of_at {w : World} {t : TypeId} {f : Nat × Nat} (h : w.heap[2]? = some (.cells (Lib.pow10Tab.map fun z => Value.int .u64 z).toArray t f)) : T10 w := by
  unfold T10 Lib.TabIs World.var?
  rw [glob10]
  simp only [Option.bind_some, h]
theorem T10.lt {w : World} (h : T10 w) : 2 < w.heap.size := by
  obtain ⟨t, f, h⟩ := h.at
  exact (Array.getElem?_eq_some_iff.1 h).1
theorem T10.chg {S : Nat → Prop} {w w' : World} (h : T10 w) (c : Chg S w w') (hs : ¬ S 2) : T10 w' := by
  have hl := h.lt
  obtain ⟨t, f, h⟩ := h.at
  exact T10.of_at ((c.block 2 hl hs).trans h)
theorem T10.ne {w : World} (h : T10 w) {b : Nat} {cs : Array Value} {t : TypeId} {f : Nat × Nat} (hb : w.heap[b]? = some (.cells cs t f)) (hz : cs.size ≠ 20) : b ≠ 2 := by
  obtain ⟨t2, f2, h⟩ := h.at
  rintro rfl
  rw [h] at hb
  injection hb with hb
  injection hb with hb
  rw [← hb] at hz
  exact hz (by decide)
theorem grow_chg (w : World) (k : Nat) (os : Array Obj) : Chg (fun _ => False) w (Go.Sort.grow (w.drewN k) os) :=
  ⟨rfl, rfl, rfl, by show w.heap.size ≤ (w.heap ++ os).size; simp, fun i hi _ => by show (w.heap ++ os)[i]? = _; rw [Array.getElem?_append_left hi]⟩
def itB (n : Int) : ByteArray := ⟨(Lib.itoa n).toArray⟩
theorem itoa_calls (n : Int) (h0 : -9223372036854775808 ≤ n) (h1 : n ≤ 9223372036854775807) (w : World) (hT : T10 w) :
    Calls Tryz.prog 68 #[.int .i64 n] w fun e w' => e = .returned (.string (itB n)) ∧ Chg (fun _ => False) w w' := by
  refine (Tryz.strconv_Itoa n h0 h1 w hT).mono ?_
  rintro e w' ⟨rfl, k, os, rfl⟩
  exact ⟨rfl, grow_chg w k os⟩
def BRd (s : ByteArray) (b : Int) : ByteArray × Int := bRead s b.toNat
theorem hBRd (s : ByteArray) (b : Int) (w : World) (hs : s.size ≤ 100000) (hb : 2 ≤ b) (hb2 : b ≤ 16) : Calls Tryz.prog 100 #[.string s, .int .i64 b] w fun e w' => e = .returned (.tuple #[.string (BRd s b).1, .int .i64 (BRd s b).2]) ∧ Chg (fun _ => False) w w' := by
  have := Read_calls s hs b.toNat (by omega) (by omega) w
  rw [Int.toNat_of_nonneg (by omega)] at this
  exact this
theorem ntx_size (neg : Bool) (b v : Nat) : (ntx neg b v).size ≤ (leN b v).length + 1 := by
  unfold ntx
  split
  · simp [ByteArray.size]
  · split
    · rw [ByteArray.size_append, dtx_size]; simp [ByteArray.size]; omega
    · rw [dtx_size]; omega
theorem numRes_size (neg : Bool) (V : Nat) : (numRes neg V).1.size ≤ 601 := by
  unfold numRes
  split
  · rename_i h
    have h2 : (leN 10 V).length ≤ M600 := (leN_length (by decide) M600 V).2 (of_decide_eq_true h)
    have h3 := ntx_size neg 10 V
    have h4 : M600 = 600 := rfl
    simp only
    omega
  · decide
theorem bRead_size (s : ByteArray) (b : Nat) : (bRead s b).1.size ≤ 601 := by
  unfold bRead
  split
  · exact numRes_size _ _
  · decide
theorem hNGd (s : ByteArray) (b : Int) (w : World) (hs : s.size ≤ 100000) (hb : 2 ≤ b) (hb2 : b ≤ 16) (h0 : (BRd s b).2 = 0) : Calls Tryz.prog 101 #[.string (BRd s b).1] w fun e w' => e = .returned (.tuple #[.string (ngRes (BRd s b).1).1, .int .i64 (ngRes (BRd s b).1).2]) ∧ Chg (fun _ => False) w w' :=
  Neg_calls _ (Nat.le_trans (bRead_size s b.toNat) (by omega)) w
def rdIn (s : ByteArray) (cv : Cv) (p : Int) : Option (ByteArray × Bool) × Int :=
  if cv.letter = 100 ∨ cv.letter = 120 ∨ cv.letter = 111 ∨ cv.letter = 98 then (nbr BRd ngRes s (bsN cv.letter) cv.width p, dgE s (bsN cv.letter) cv.width p)
  else if cv.letter = 115 then
    let q := rn (fun c => !isWh c) s (mst s cv.width) (wh s p)
    (some (cut s (wh s p) q, decide (cut s (wh s p) q ≠ ⟨#[]⟩)), q)
  else if cv.letter = 99 then
    let q := rn (fun _ => true) s 1 p
    (some (if cut s p q = ⟨#[]⟩ then (⟨#[]⟩, false) else (itB (bt (cut s p q) 0), true)), q)
  else if cv.letter = 91 then
    let q := rn (fun c => fts cv.set c) s (mst s cv.width) p
    (some (cut s p q, decide (cut s p q ≠ ⟨#[]⟩)), q)
  else if cv.letter = 110 then (some (itB p, true), p)
  else
    let q := rn (fun c => c == 37) s 1 (wh s p)
    (some (⟨#[]⟩, decide (cut s (wh s p) q ≠ ⟨#[]⟩)), q)
theorem rd_number {s : ByteArray} {cv : Cv} {p : Int} (hl : cv.letter = 100 ∨ cv.letter = 120 ∨ cv.letter = 111 ∨ cv.letter = 98) : rdIn s cv p = (nbr BRd ngRes s (bsN cv.letter) cv.width p, dgE s (bsN cv.letter) cv.width p) := by
  unfold rdIn; rw [if_pos hl]
set_option maxHeartbeats 2000000 in
theorem readin_100 (w : World) (g : Nat) (s : ByteArray) (p : Int) (cv : Cv) (hT : T10 w) (h : IN w g s p) (h0 : 0 ≤ p) (h1 : p ≤ s.size) (hs : s.size ≤ 100000) (hw : -1 ≤ cv.width) (hw2 : cv.width ≤ 999) (hset : cv.set.size ≤ 100000) (hl : cv.letter = 100) :
    Calls Tryz.prog 35 #[.pointer (some ⟨g, 0, none⟩), .agg cv.cells.toArray] w fun e w' => IN w' g s (rdIn s cv p).2 ∧ Chg (fun k => k = g) w w' ∧
      ((∃ r, (rdIn s cv p).1 = some r ∧ e = .returned (.tuple #[.string r.1, .bool r.2])) ∨ ((rdIn s cv p).1 = none ∧ e = .panicked [{ v := limitV, recovered := false }])) := by
  have HRD := Lib.hid (rd_number (s := s) (p := p) (show cv.letter = 100 ∨ cv.letter = 120 ∨ cv.letter = 111 ∨ cv.letter = 98 by omega))
  have e100 : (cv.letter == 100) = true := by rw [hl]; rfl
  have e120 : (cv.letter == 120) = false := by rw [hl]; rfl
  have e111 : (cv.letter == 111) = false := by rw [hl]; rfl
  have e98 : (cv.letter == 98) = false := by rw [hl]; rfl
  have e115 : (cv.letter == 115) = false := by rw [hl]; rfl
  have e99 : (cv.letter == 99) = false := by rw [hl]; rfl
  have e91 : (cv.letter == 91) = false := by rw [hl]; rfl
  have e110 : (cv.letter == 110) = false := by rw [hl]; rfl
  clear hl
  go_enter Tryz.func35, Tryz.ntmps35
  simp only [Cv.cells]
  go_upto_region 1 with fail
  obtain ⟨W0, hW0⟩ : ∃ W0, W0 = w.alloc (Obj.cells cv.cells.toArray 51) := ⟨_, rfl⟩
  have hC0 : CV W0 w.heap.size cv := by rw [hW0]; exact World.alloc_heap_new w _
  have hI0 : IN W0 g s p := by rw [hW0]; exact (Below.heap_alloc _ _ _ h.lt).trans h
  have k0 : Chg (fun k => k = g) w W0 := by rw [hW0]; exact (Chg.refl _ w).alloc _
  have hT0 : T10 W0 := hT.chg k0 (fun e => hT.ne h (by simp) e.symm)
  simp only [Cv.cells] at hW0
  rw [← hW0]
  clear hW0
  obtain ⟨b, hb⟩ : ∃ b, b = w.heap.size := ⟨_, rfl⟩
  have hbg : b ≠ g := by have := h.lt; omega
  rw [← hb] at hC0 ⊢
  clear hb hT h
  have c4 := hC0.c4
  have c8 := hC0.c8
  have c0 := hC0.c0
  have c1 := hC0.c1
  have c2 := hC0.c2
  have c3 := hC0.c3
  have c5 := hC0.c5
  have c6 := hC0.c6
  have c7 := hC0.c7
  have c9 := hC0.c9
  have c10 := hC0.c10
  go_wp2_with fail
  refine (number_in_calls BRd ngRes hBRd hNGd W0 g s p cv hI0 h0 h1 hs hw hw2).mono ?_
  rintro e w1 ⟨hI1, k1, (⟨r, hr, rfl⟩ | ⟨hr, rfl⟩)⟩
  · have HR := Lib.hid hr
    clear hr
    go_wp2_with fail
    go_ret2
    exact ⟨by rw [HRD.out]; exact hI1, k0.trans k1, .inl ⟨r, by rw [HRD.out]; exact HR.out, rfl⟩⟩
  · have HR := Lib.hid hr
    clear hr
    go_wp2_with fail
    exact ⟨rfl, by rw [HRD.out]; exact hI1, k0.trans k1, .inr ⟨by rw [HRD.out]; exact HR.out, rfl⟩⟩
set_option maxHeartbeats 2000000 in
theorem readin_120 (w : World) (g : Nat) (s : ByteArray) (p : Int) (cv : Cv) (hT : T10 w) (h : IN w g s p) (h0 : 0 ≤ p) (h1 : p ≤ s.size) (hs : s.size ≤ 100000) (hw : -1 ≤ cv.width) (hw2 : cv.width ≤ 999) (hset : cv.set.size ≤ 100000) (hl : cv.letter = 120) :
    Calls Tryz.prog 35 #[.pointer (some ⟨g, 0, none⟩), .agg cv.cells.toArray] w fun e w' => IN w' g s (rdIn s cv p).2 ∧ Chg (fun k => k = g) w w' ∧
      ((∃ r, (rdIn s cv p).1 = some r ∧ e = .returned (.tuple #[.string r.1, .bool r.2])) ∨ ((rdIn s cv p).1 = none ∧ e = .panicked [{ v := limitV, recovered := false }])) := by
  have HRD := Lib.hid (rd_number (s := s) (p := p) (show cv.letter = 100 ∨ cv.letter = 120 ∨ cv.letter = 111 ∨ cv.letter = 98 by omega))
  have e100 : (cv.letter == 100) = false := by rw [hl]; rfl
  have e120 : (cv.letter == 120) = true := by rw [hl]; rfl
  have e111 : (cv.letter == 111) = false := by rw [hl]; rfl
  have e98 : (cv.letter == 98) = false := by rw [hl]; rfl
  have e115 : (cv.letter == 115) = false := by rw [hl]; rfl
  have e99 : (cv.letter == 99) = false := by rw [hl]; rfl
  have e91 : (cv.letter == 91) = false := by rw [hl]; rfl
  have e110 : (cv.letter == 110) = false := by rw [hl]; rfl
  clear hl
  go_enter Tryz.func35, Tryz.ntmps35
  simp only [Cv.cells]
  go_upto_region 1 with fail
  obtain ⟨W0, hW0⟩ : ∃ W0, W0 = w.alloc (Obj.cells cv.cells.toArray 51) := ⟨_, rfl⟩
  have hC0 : CV W0 w.heap.size cv := by rw [hW0]; exact World.alloc_heap_new w _
  have hI0 : IN W0 g s p := by rw [hW0]; exact (Below.heap_alloc _ _ _ h.lt).trans h
  have k0 : Chg (fun k => k = g) w W0 := by rw [hW0]; exact (Chg.refl _ w).alloc _
  have hT0 : T10 W0 := hT.chg k0 (fun e => hT.ne h (by simp) e.symm)
  simp only [Cv.cells] at hW0
  rw [← hW0]
  clear hW0
  obtain ⟨b, hb⟩ : ∃ b, b = w.heap.size := ⟨_, rfl⟩
  have hbg : b ≠ g := by have := h.lt; omega
  rw [← hb] at hC0 ⊢
  clear hb hT h
  have c4 := hC0.c4
  have c8 := hC0.c8
  have c0 := hC0.c0
  have c1 := hC0.c1
  have c2 := hC0.c2
  have c3 := hC0.c3
  have c5 := hC0.c5
  have c6 := hC0.c6
  have c7 := hC0.c7
  have c9 := hC0.c9
  have c10 := hC0.c10
  go_wp2_with fail
  refine (number_in_calls BRd ngRes hBRd hNGd W0 g s p cv hI0 h0 h1 hs hw hw2).mono ?_
  rintro e w1 ⟨hI1, k1, (⟨r, hr, rfl⟩ | ⟨hr, rfl⟩)⟩
  · have HR := Lib.hid hr
    clear hr
    go_wp2_with fail
    go_ret2
    exact ⟨by rw [HRD.out]; exact hI1, k0.trans k1, .inl ⟨r, by rw [HRD.out]; exact HR.out, rfl⟩⟩
  · have HR := Lib.hid hr
    clear hr
    go_wp2_with fail
    exact ⟨rfl, by rw [HRD.out]; exact hI1, k0.trans k1, .inr ⟨by rw [HRD.out]; exact HR.out, rfl⟩⟩
set_option maxHeartbeats 2000000 in
theorem readin_111 (w : World) (g : Nat) (s : ByteArray) (p : Int) (cv : Cv) (hT : T10 w) (h : IN w g s p) (h0 : 0 ≤ p) (h1 : p ≤ s.size) (hs : s.size ≤ 100000) (hw : -1 ≤ cv.width) (hw2 : cv.width ≤ 999) (hset : cv.set.size ≤ 100000) (hl : cv.letter = 111) :
    Calls Tryz.prog 35 #[.pointer (some ⟨g, 0, none⟩), .agg cv.cells.toArray] w fun e w' => IN w' g s (rdIn s cv p).2 ∧ Chg (fun k => k = g) w w' ∧
      ((∃ r, (rdIn s cv p).1 = some r ∧ e = .returned (.tuple #[.string r.1, .bool r.2])) ∨ ((rdIn s cv p).1 = none ∧ e = .panicked [{ v := limitV, recovered := false }])) := by
  have HRD := Lib.hid (rd_number (s := s) (p := p) (show cv.letter = 100 ∨ cv.letter = 120 ∨ cv.letter = 111 ∨ cv.letter = 98 by omega))
  have e100 : (cv.letter == 100) = false := by rw [hl]; rfl
  have e120 : (cv.letter == 120) = false := by rw [hl]; rfl
  have e111 : (cv.letter == 111) = true := by rw [hl]; rfl
  have e98 : (cv.letter == 98) = false := by rw [hl]; rfl
  have e115 : (cv.letter == 115) = false := by rw [hl]; rfl
  have e99 : (cv.letter == 99) = false := by rw [hl]; rfl
  have e91 : (cv.letter == 91) = false := by rw [hl]; rfl
  have e110 : (cv.letter == 110) = false := by rw [hl]; rfl
  clear hl
  go_enter Tryz.func35, Tryz.ntmps35
  simp only [Cv.cells]
  go_upto_region 1 with fail
  obtain ⟨W0, hW0⟩ : ∃ W0, W0 = w.alloc (Obj.cells cv.cells.toArray 51) := ⟨_, rfl⟩
  have hC0 : CV W0 w.heap.size cv := by rw [hW0]; exact World.alloc_heap_new w _
  have hI0 : IN W0 g s p := by rw [hW0]; exact (Below.heap_alloc _ _ _ h.lt).trans h
  have k0 : Chg (fun k => k = g) w W0 := by rw [hW0]; exact (Chg.refl _ w).alloc _
  have hT0 : T10 W0 := hT.chg k0 (fun e => hT.ne h (by simp) e.symm)
  simp only [Cv.cells] at hW0
  rw [← hW0]
  clear hW0
  obtain ⟨b, hb⟩ : ∃ b, b = w.heap.size := ⟨_, rfl⟩
  have hbg : b ≠ g := by have := h.lt; omega
  rw [← hb] at hC0 ⊢
  clear hb hT h
  have c4 := hC0.c4
  have c8 := hC0.c8
  have c0 := hC0.c0
  have c1 := hC0.c1
  have c2 := hC0.c2
  have c3 := hC0.c3
  have c5 := hC0.c5
  have c6 := hC0.c6
  have c7 := hC0.c7
  have c9 := hC0.c9
  have c10 := hC0.c10
  go_wp2_with fail
  refine (number_in_calls BRd ngRes hBRd hNGd W0 g s p cv hI0 h0 h1 hs hw hw2).mono ?_
  rintro e w1 ⟨hI1, k1, (⟨r, hr, rfl⟩ | ⟨hr, rfl⟩)⟩
  · have HR := Lib.hid hr
    clear hr
    go_wp2_with fail
    go_ret2
    exact ⟨by rw [HRD.out]; exact hI1, k0.trans k1, .inl ⟨r, by rw [HRD.out]; exact HR.out, rfl⟩⟩
  · have HR := Lib.hid hr
    clear hr
    go_wp2_with fail
    exact ⟨rfl, by rw [HRD.out]; exact hI1, k0.trans k1, .inr ⟨by rw [HRD.out]; exact HR.out, rfl⟩⟩
set_option maxHeartbeats 2000000 in
theorem readin_98 (w : World) (g : Nat) (s : ByteArray) (p : Int) (cv : Cv) (hT : T10 w) (h : IN w g s p) (h0 : 0 ≤ p) (h1 : p ≤ s.size) (hs : s.size ≤ 100000) (hw : -1 ≤ cv.width) (hw2 : cv.width ≤ 999) (hset : cv.set.size ≤ 100000) (hl : cv.letter = 98) :
    Calls Tryz.prog 35 #[.pointer (some ⟨g, 0, none⟩), .agg cv.cells.toArray] w fun e w' => IN w' g s (rdIn s cv p).2 ∧ Chg (fun k => k = g) w w' ∧
      ((∃ r, (rdIn s cv p).1 = some r ∧ e = .returned (.tuple #[.string r.1, .bool r.2])) ∨ ((rdIn s cv p).1 = none ∧ e = .panicked [{ v := limitV, recovered := false }])) := by
  have HRD := Lib.hid (rd_number (s := s) (p := p) (show cv.letter = 100 ∨ cv.letter = 120 ∨ cv.letter = 111 ∨ cv.letter = 98 by omega))
  have e100 : (cv.letter == 100) = false := by rw [hl]; rfl
  have e120 : (cv.letter == 120) = false := by rw [hl]; rfl
  have e111 : (cv.letter == 111) = false := by rw [hl]; rfl
  have e98 : (cv.letter == 98) = true := by rw [hl]; rfl
  have e115 : (cv.letter == 115) = false := by rw [hl]; rfl
  have e99 : (cv.letter == 99) = false := by rw [hl]; rfl
  have e91 : (cv.letter == 91) = false := by rw [hl]; rfl
  have e110 : (cv.letter == 110) = false := by rw [hl]; rfl
  clear hl
  go_enter Tryz.func35, Tryz.ntmps35
  simp only [Cv.cells]
  go_upto_region 1 with fail
  obtain ⟨W0, hW0⟩ : ∃ W0, W0 = w.alloc (Obj.cells cv.cells.toArray 51) := ⟨_, rfl⟩
  have hC0 : CV W0 w.heap.size cv := by rw [hW0]; exact World.alloc_heap_new w _
  have hI0 : IN W0 g s p := by rw [hW0]; exact (Below.heap_alloc _ _ _ h.lt).trans h
  have k0 : Chg (fun k => k = g) w W0 := by rw [hW0]; exact (Chg.refl _ w).alloc _
  have hT0 : T10 W0 := hT.chg k0 (fun e => hT.ne h (by simp) e.symm)
  simp only [Cv.cells] at hW0
  rw [← hW0]
  clear hW0
  obtain ⟨b, hb⟩ : ∃ b, b = w.heap.size := ⟨_, rfl⟩
  have hbg : b ≠ g := by have := h.lt; omega
  rw [← hb] at hC0 ⊢
  clear hb hT h
  have c4 := hC0.c4
  have c8 := hC0.c8
  have c0 := hC0.c0
  have c1 := hC0.c1
  have c2 := hC0.c2
  have c3 := hC0.c3
  have c5 := hC0.c5
  have c6 := hC0.c6
  have c7 := hC0.c7
  have c9 := hC0.c9
  have c10 := hC0.c10
  go_wp2_with fail
  refine (number_in_calls BRd ngRes hBRd hNGd W0 g s p cv hI0 h0 h1 hs hw hw2).mono ?_
  rintro e w1 ⟨hI1, k1, (⟨r, hr, rfl⟩ | ⟨hr, rfl⟩)⟩
  · have HR := Lib.hid hr
    clear hr
    go_wp2_with fail
    go_ret2
    exact ⟨by rw [HRD.out]; exact hI1, k0.trans k1, .inl ⟨r, by rw [HRD.out]; exact HR.out, rfl⟩⟩
  · have HR := Lib.hid hr
    clear hr
    go_wp2_with fail
    exact ⟨rfl, by rw [HRD.out]; exact hI1, k0.trans k1, .inr ⟨by rw [HRD.out]; exact HR.out, rfl⟩⟩
theorem fin_text {s : ByteArray} {cv : Cv} {p : Int} {w w' : World} {g : Nat} {x : ByteArray} {q : Int} (hr : rdIn s cv p = (some (x, decide (x ≠ ⟨#[]⟩)), q)) (hI : IN w' g s q) (k : Chg (fun k => k = g) w w') (v : Bool) (hv : v = decide (x ≠ ⟨#[]⟩)) :
    IN w' g s (rdIn s cv p).2 ∧ Chg (fun k => k = g) w w' ∧ ((∃ r, (rdIn s cv p).1 = some r ∧ Ending.returned (.tuple #[.string x, .bool v]) = .returned (.tuple #[.string r.1, .bool r.2])) ∨ ((rdIn s cv p).1 = none ∧ Ending.returned (.tuple #[.string x, .bool v]) = .panicked [{ v := limitV, recovered := false }])) := by
  rw [hr]
  exact ⟨hI, k, .inl ⟨_, rfl, by rw [hv]⟩⟩
theorem size_pos {x : ByteArray} (h : ¬ x = ⟨#[]⟩) : 0 < x.size := by
  obtain ⟨⟨l⟩⟩ := x
  cases l with
  | nil => exact absurd rfl h
  | cons a l => simp [ByteArray.size]
theorem mst_eq (s : ByteArray) (m : Int) : mst s m = if m < 0 then s.size else m.toNat := rfl
set_option maxHeartbeats 2000000 in
theorem readin_115 (w : World) (g : Nat) (s : ByteArray) (p : Int) (cv : Cv) (hT : T10 w) (h : IN w g s p) (h0 : 0 ≤ p) (h1 : p ≤ s.size) (hs : s.size ≤ 100000) (hw : -1 ≤ cv.width) (hw2 : cv.width ≤ 999) (hset : cv.set.size ≤ 100000) (hl : cv.letter = 115) :
    Calls Tryz.prog 35 #[.pointer (some ⟨g, 0, none⟩), .agg cv.cells.toArray] w fun e w' => IN w' g s (rdIn s cv p).2 ∧ Chg (fun k => k = g) w w' ∧
      ((∃ r, (rdIn s cv p).1 = some r ∧ e = .returned (.tuple #[.string r.1, .bool r.2])) ∨ ((rdIn s cv p).1 = none ∧ e = .panicked [{ v := limitV, recovered := false }])) := by
  obtain ⟨q, hq⟩ : ∃ q, q = rn (fun c => !isWh c) s (mst s cv.width) (wh s p) := ⟨_, rfl⟩
  have HRD := Lib.hid (show rdIn s cv p = (some (cut s (wh s p) q, decide (cut s (wh s p) q ≠ ⟨#[]⟩)), q) by unfold rdIn; rw [if_neg (by omega), if_pos hl, hq])
  have HQ := Lib.hid hq
  have e100 : (cv.letter == 100) = false := by rw [hl]; rfl
  have e120 : (cv.letter == 120) = false := by rw [hl]; rfl
  have e111 : (cv.letter == 111) = false := by rw [hl]; rfl
  have e98 : (cv.letter == 98) = false := by rw [hl]; rfl
  have e115 : (cv.letter == 115) = true := by rw [hl]; rfl
  have e99 : (cv.letter == 99) = false := by rw [hl]; rfl
  have e91 : (cv.letter == 91) = false := by rw [hl]; rfl
  have e110 : (cv.letter == 110) = false := by rw [hl]; rfl
  clear hl hq
  go_enter Tryz.func35, Tryz.ntmps35
  simp only [Cv.cells]
  go_upto_region 1 with fail
  obtain ⟨W0, hW0⟩ : ∃ W0, W0 = w.alloc (Obj.cells cv.cells.toArray 51) := ⟨_, rfl⟩
  have hC0 : CV W0 w.heap.size cv := by rw [hW0]; exact World.alloc_heap_new w _
  have hI0 : IN W0 g s p := by rw [hW0]; exact (Below.heap_alloc _ _ _ h.lt).trans h
  have k0 : Chg (fun k => k = g) w W0 := by rw [hW0]; exact (Chg.refl _ w).alloc _
  have hT0 : T10 W0 := hT.chg k0 (fun e => hT.ne h (by simp) e.symm)
  simp only [Cv.cells] at hW0
  rw [← hW0]
  clear hW0
  obtain ⟨b, hb⟩ : ∃ b, b = w.heap.size := ⟨_, rfl⟩
  have hbg : b ≠ g := by have := h.lt; omega
  rw [← hb] at hC0 ⊢
  clear hb hT h
  have c4 := hC0.c4
  have c8 := hC0.c8
  go_wp2_with fail
  refine (white_calls W0 g s p hI0 h0 hs).mono ?_
  rintro e w1 ⟨rfl, hI1, k1⟩
  have hC1 := hC0.chg k1 hbg
  have k01 := k0.trans k1
  have hwp : 0 ≤ wh s p ∧ wh s p ≤ s.size := by
    have a := rn_pos isWh s s.size p
    unfold wh; exact ⟨by omega, a.2.2 h1⟩
  clear hC0 hI0 k0 k1 c4 c8
  have c4 := hC1.c4
  go_wp2_with fail
  refine (run_calls w1 g s (wh s p) cv.width hI1 hwp.1 hwp.2 hs (by omega) (by omega) 66 #[] (fun c => !isWh c) (mst s cv.width) (mst_eq _ _) (fits66 _) (fun args w => rfl)).mono ?_
  rintro e w2 ⟨q', hq', rfl, hI2, k2⟩
  obtain rfl := hq'.trans HQ.out.symm
  have k02 := k01.trans k2
  clear hq' hI1 hC1 c4 k01 k2 hwp
  by_cases hemp : cut s (wh s p) q' = ⟨#[]⟩
  · have HE := Lib.hid hemp
    rw [hemp]
    clear hemp
    go_wp2_with fail
    go_ret2
    have := fin_text HRD.out hI2 k02 false (by rw [HE.out]; rfl)
    rw [HE.out] at this
    exact this
  · have hne := empty_false hemp
    have HE := Lib.hid hemp
    clear hemp
    go_wp2_with fail
    go_ret2
    exact fin_text HRD.out hI2 k02 true (by rw [decide_eq_true HE.out])
set_option maxHeartbeats 2000000 in
theorem readin_91 (w : World) (g : Nat) (s : ByteArray) (p : Int) (cv : Cv) (hT : T10 w) (h : IN w g s p) (h0 : 0 ≤ p) (h1 : p ≤ s.size) (hs : s.size ≤ 100000) (hw : -1 ≤ cv.width) (hw2 : cv.width ≤ 999) (hset : cv.set.size ≤ 100000) (hl : cv.letter = 91) :
    Calls Tryz.prog 35 #[.pointer (some ⟨g, 0, none⟩), .agg cv.cells.toArray] w fun e w' => IN w' g s (rdIn s cv p).2 ∧ Chg (fun k => k = g) w w' ∧
      ((∃ r, (rdIn s cv p).1 = some r ∧ e = .returned (.tuple #[.string r.1, .bool r.2])) ∨ ((rdIn s cv p).1 = none ∧ e = .panicked [{ v := limitV, recovered := false }])) := by
  obtain ⟨q, hq⟩ : ∃ q, q = rn (fun c => fts cv.set c) s (mst s cv.width) p := ⟨_, rfl⟩
  have HRD := Lib.hid (show rdIn s cv p = (some (cut s p q, decide (cut s p q ≠ ⟨#[]⟩)), q) by unfold rdIn; rw [if_neg (by omega), if_neg (by omega), if_neg (by omega), if_pos hl, hq])
  have HQ := Lib.hid hq
  have e100 : (cv.letter == 100) = false := by rw [hl]; rfl
  have e120 : (cv.letter == 120) = false := by rw [hl]; rfl
  have e111 : (cv.letter == 111) = false := by rw [hl]; rfl
  have e98 : (cv.letter == 98) = false := by rw [hl]; rfl
  have e115 : (cv.letter == 115) = false := by rw [hl]; rfl
  have e99 : (cv.letter == 99) = false := by rw [hl]; rfl
  have e91 : (cv.letter == 91) = true := by rw [hl]; rfl
  have e110 : (cv.letter == 110) = false := by rw [hl]; rfl
  clear hl hq
  go_enter Tryz.func35, Tryz.ntmps35
  simp only [Cv.cells]
  go_upto_region 1 with fail
  obtain ⟨W0, hW0⟩ : ∃ W0, W0 = w.alloc (Obj.cells cv.cells.toArray 51) := ⟨_, rfl⟩
  have hC0 : CV W0 w.heap.size cv := by rw [hW0]; exact World.alloc_heap_new w _
  have hI0 : IN W0 g s p := by rw [hW0]; exact (Below.heap_alloc _ _ _ h.lt).trans h
  have k0 : Chg (fun k => k = g) w W0 := by rw [hW0]; exact (Chg.refl _ w).alloc _
  have hT0 : T10 W0 := hT.chg k0 (fun e => hT.ne h (by simp) e.symm)
  simp only [Cv.cells] at hW0
  rw [← hW0]
  clear hW0
  obtain ⟨b, hb⟩ : ∃ b, b = w.heap.size := ⟨_, rfl⟩
  have hbg : b ≠ g := by have := h.lt; omega
  rw [← hb] at hC0 ⊢
  clear hb hT h
  have c4 := hC0.c4
  have c8 := hC0.c8
  go_wp2_with fail
  refine (run_calls W0 g s p cv.width hI0 h0 h1 hs (by omega) (by omega) 69 #[.pointer (some ⟨b, 0, none⟩)] (fun c => fts cv.set c) (mst s cv.width) (mst_eq _ _) (fits69 b cv g W0 hC0 hbg hset) (fun args w => rfl)).mono ?_
  rintro e w2 ⟨q', hq', rfl, hI2, k2⟩
  obtain rfl := hq'.trans HQ.out.symm
  have k02 := k0.trans k2
  clear hq' hI0 hC0 c4 c8 k0 k2
  by_cases hemp : cut s p q' = ⟨#[]⟩
  · have HE := Lib.hid hemp
    rw [hemp]
    clear hemp
    go_wp2_with fail
    go_ret2
    have := fin_text HRD.out hI2 k02 false (by rw [HE.out]; rfl)
    rw [HE.out] at this
    exact this
  · have hne := empty_false hemp
    have HE := Lib.hid hemp
    clear hemp
    go_wp2_with fail
    go_ret2
    exact fin_text HRD.out hI2 k02 true (by rw [decide_eq_true HE.out])
set_option maxHeartbeats 2000000 in
theorem readin_110 (w : World) (g : Nat) (s : ByteArray) (p : Int) (cv : Cv) (hT : T10 w) (h : IN w g s p) (h0 : 0 ≤ p) (h1 : p ≤ s.size) (hs : s.size ≤ 100000) (hw : -1 ≤ cv.width) (hw2 : cv.width ≤ 999) (hset : cv.set.size ≤ 100000) (hl : cv.letter = 110) :
    Calls Tryz.prog 35 #[.pointer (some ⟨g, 0, none⟩), .agg cv.cells.toArray] w fun e w' => IN w' g s (rdIn s cv p).2 ∧ Chg (fun k => k = g) w w' ∧
      ((∃ r, (rdIn s cv p).1 = some r ∧ e = .returned (.tuple #[.string r.1, .bool r.2])) ∨ ((rdIn s cv p).1 = none ∧ e = .panicked [{ v := limitV, recovered := false }])) := by
  have HRD := Lib.hid (show rdIn s cv p = (some (itB p, true), p) by unfold rdIn; rw [if_neg (by omega), if_neg (by omega), if_neg (by omega), if_neg (by omega), if_pos hl])
  have e100 : (cv.letter == 100) = false := by rw [hl]; rfl
  have e120 : (cv.letter == 120) = false := by rw [hl]; rfl
  have e111 : (cv.letter == 111) = false := by rw [hl]; rfl
  have e98 : (cv.letter == 98) = false := by rw [hl]; rfl
  have e115 : (cv.letter == 115) = false := by rw [hl]; rfl
  have e99 : (cv.letter == 99) = false := by rw [hl]; rfl
  have e91 : (cv.letter == 91) = false := by rw [hl]; rfl
  have e110 : (cv.letter == 110) = true := by rw [hl]; rfl
  clear hl
  go_enter Tryz.func35, Tryz.ntmps35
  simp only [Cv.cells]
  go_upto_region 1 with fail
  obtain ⟨W0, hW0⟩ : ∃ W0, W0 = w.alloc (Obj.cells cv.cells.toArray 51) := ⟨_, rfl⟩
  have hC0 : CV W0 w.heap.size cv := by rw [hW0]; exact World.alloc_heap_new w _
  have hI0 : IN W0 g s p := by rw [hW0]; exact (Below.heap_alloc _ _ _ h.lt).trans h
  have k0 : Chg (fun k => k = g) w W0 := by rw [hW0]; exact (Chg.refl _ w).alloc _
  have hT0 : T10 W0 := hT.chg k0 (fun e => hT.ne h (by simp) e.symm)
  simp only [Cv.cells] at hW0
  rw [← hW0]
  clear hW0
  obtain ⟨b, hb⟩ : ∃ b, b = w.heap.size := ⟨_, rfl⟩
  have hbg : b ≠ g := by have := h.lt; omega
  rw [← hb] at hC0 ⊢
  clear hb hT h
  have c4 := hC0.c4
  have c8 := hC0.c8
  have d1 := hI0.c1
  go_wp2_with fail
  refine (itoa_calls p (by omega) (by omega) W0 hT0).mono ?_
  rintro e w2 ⟨rfl, k2⟩
  have hI2 := hI0.chg k2 (fun h => h)
  have k02 := k0.trans (chg_mono0 k2)
  clear hI0 hC0 c4 c8 k0 k2 d1
  go_wp2_with fail
  go_ret2
  rw [HRD.out]
  exact ⟨hI2, k02, .inl ⟨_, rfl, rfl⟩⟩
set_option maxHeartbeats 2000000 in
theorem readin_99 (w : World) (g : Nat) (s : ByteArray) (p : Int) (cv : Cv) (hT : T10 w) (h : IN w g s p) (h0 : 0 ≤ p) (h1 : p ≤ s.size) (hs : s.size ≤ 100000) (hw : -1 ≤ cv.width) (hw2 : cv.width ≤ 999) (hset : cv.set.size ≤ 100000) (hl : cv.letter = 99) :
    Calls Tryz.prog 35 #[.pointer (some ⟨g, 0, none⟩), .agg cv.cells.toArray] w fun e w' => IN w' g s (rdIn s cv p).2 ∧ Chg (fun k => k = g) w w' ∧
      ((∃ r, (rdIn s cv p).1 = some r ∧ e = .returned (.tuple #[.string r.1, .bool r.2])) ∨ ((rdIn s cv p).1 = none ∧ e = .panicked [{ v := limitV, recovered := false }])) := by
  obtain ⟨q, hq⟩ : ∃ q, q = rn (fun _ => true) s 1 p := ⟨_, rfl⟩
  have HRD := Lib.hid (show rdIn s cv p = (some (if cut s p q = ⟨#[]⟩ then (⟨#[]⟩, false) else (itB (bt (cut s p q) 0), true)), q) by unfold rdIn; rw [if_neg (by omega), if_neg (by omega), if_pos hl, hq])
  have HQ := Lib.hid hq
  have e100 : (cv.letter == 100) = false := by rw [hl]; rfl
  have e120 : (cv.letter == 120) = false := by rw [hl]; rfl
  have e111 : (cv.letter == 111) = false := by rw [hl]; rfl
  have e98 : (cv.letter == 98) = false := by rw [hl]; rfl
  have e115 : (cv.letter == 115) = false := by rw [hl]; rfl
  have e99 : (cv.letter == 99) = true := by rw [hl]; rfl
  have e91 : (cv.letter == 91) = false := by rw [hl]; rfl
  have e110 : (cv.letter == 110) = false := by rw [hl]; rfl
  clear hl hq
  go_enter Tryz.func35, Tryz.ntmps35
  simp only [Cv.cells]
  go_upto_region 1 with fail
  obtain ⟨W0, hW0⟩ : ∃ W0, W0 = w.alloc (Obj.cells cv.cells.toArray 51) := ⟨_, rfl⟩
  have hC0 : CV W0 w.heap.size cv := by rw [hW0]; exact World.alloc_heap_new w _
  have hI0 : IN W0 g s p := by rw [hW0]; exact (Below.heap_alloc _ _ _ h.lt).trans h
  have k0 : Chg (fun k => k = g) w W0 := by rw [hW0]; exact (Chg.refl _ w).alloc _
  have hT0 : T10 W0 := hT.chg k0 (fun e => hT.ne h (by simp) e.symm)
  simp only [Cv.cells] at hW0
  rw [← hW0]
  clear hW0
  obtain ⟨b, hb⟩ : ∃ b, b = w.heap.size := ⟨_, rfl⟩
  have hbg : b ≠ g := by have := h.lt; omega
  rw [← hb] at hC0 ⊢
  clear hb hT h
  have c4 := hC0.c4
  have c8 := hC0.c8
  go_wp2_with fail
  refine (run_calls W0 g s p 1 hI0 h0 h1 hs (by omega) (by omega) 67 #[] (fun _ => true) 1 rfl (fits67 _) (fun args w => rfl)).mono ?_
  rintro e w2 ⟨q', hq', rfl, hI2, k2⟩
  obtain rfl := hq'.trans HQ.out.symm
  have k02 := k0.trans k2
  have hT2 := hT0.chg k2 (fun e => hT0.ne hI0 (by simp) e.symm)
  clear hq' hI0 hC0 c4 c8 k0 k2 hT0
  by_cases hemp : cut s p q' = ⟨#[]⟩
  · have HE := Lib.hid hemp
    rw [hemp]
    clear hemp
    go_wp2_with fail
    go_ret2
    rw [HRD.out, if_pos HE.out]
    exact ⟨hI2, k02, .inl ⟨_, rfl, rfl⟩⟩
  · have hne := empty_false hemp
    have HE := Lib.hid hemp
    have hsz : 0 < (cut s p q').size := size_pos hemp
    have hix := ix_run0 _ hsz
    have hbr := bt_range (cut s p q') 0
    clear hemp
    go_wp2_with fail
    refine (itoa_calls (bt (cut s p q') 0) (by omega) (by omega) w2 hT2).mono ?_
    rintro e w3 ⟨rfl, k3⟩
    have hI3 := hI2.chg k3 (fun h => h)
    have k03 := k02.trans (chg_mono0 k3)
    go_wp2_with fail
    go_ret2
    rw [HRD.out, if_neg HE.out]
    exact ⟨hI3, k03, .inl ⟨_, rfl, rfl⟩⟩
set_option maxHeartbeats 2000000 in
theorem readin_else (w : World) (g : Nat) (s : ByteArray) (p : Int) (cv : Cv) (hT : T10 w) (h : IN w g s p) (h0 : 0 ≤ p) (h1 : p ≤ s.size) (hs : s.size ≤ 100000) (hw : -1 ≤ cv.width) (hw2 : cv.width ≤ 999) (hset : cv.set.size ≤ 100000) (hl100 : cv.letter ≠ 100) (hl120 : cv.letter ≠ 120) (hl111 : cv.letter ≠ 111) (hl98 : cv.letter ≠ 98) (hl115 : cv.letter ≠ 115) (hl99 : cv.letter ≠ 99) (hl91 : cv.letter ≠ 91) (hl110 : cv.letter ≠ 110) :
    Calls Tryz.prog 35 #[.pointer (some ⟨g, 0, none⟩), .agg cv.cells.toArray] w fun e w' => IN w' g s (rdIn s cv p).2 ∧ Chg (fun k => k = g) w w' ∧
      ((∃ r, (rdIn s cv p).1 = some r ∧ e = .returned (.tuple #[.string r.1, .bool r.2])) ∨ ((rdIn s cv p).1 = none ∧ e = .panicked [{ v := limitV, recovered := false }])) := by
  obtain ⟨q, hq⟩ : ∃ q, q = rn (fun c => c == 37) s 1 (wh s p) := ⟨_, rfl⟩
  have HRD := Lib.hid (show rdIn s cv p = (some (⟨#[]⟩, decide (cut s (wh s p) q ≠ ⟨#[]⟩)), q) by unfold rdIn; rw [if_neg (by omega), if_neg hl115, if_neg hl99, if_neg hl91, if_neg hl110, hq])
  have HQ := Lib.hid hq
  have e100 : (cv.letter == 100) = false := by simpa using hl100
  have e120 : (cv.letter == 120) = false := by simpa using hl120
  have e111 : (cv.letter == 111) = false := by simpa using hl111
  have e98 : (cv.letter == 98) = false := by simpa using hl98
  have e115 : (cv.letter == 115) = false := by simpa using hl115
  have e99 : (cv.letter == 99) = false := by simpa using hl99
  have e91 : (cv.letter == 91) = false := by simpa using hl91
  have e110 : (cv.letter == 110) = false := by simpa using hl110
  clear hl100 hl120 hl111 hl98 hl115 hl99 hl91 hl110 hq
  go_enter Tryz.func35, Tryz.ntmps35
  simp only [Cv.cells]
  go_upto_region 1 with fail
  obtain ⟨W0, hW0⟩ : ∃ W0, W0 = w.alloc (Obj.cells cv.cells.toArray 51) := ⟨_, rfl⟩
  have hC0 : CV W0 w.heap.size cv := by rw [hW0]; exact World.alloc_heap_new w _
  have hI0 : IN W0 g s p := by rw [hW0]; exact (Below.heap_alloc _ _ _ h.lt).trans h
  have k0 : Chg (fun k => k = g) w W0 := by rw [hW0]; exact (Chg.refl _ w).alloc _
  have hT0 : T10 W0 := hT.chg k0 (fun e => hT.ne h (by simp) e.symm)
  simp only [Cv.cells] at hW0
  rw [← hW0]
  clear hW0
  obtain ⟨b, hb⟩ : ∃ b, b = w.heap.size := ⟨_, rfl⟩
  have hbg : b ≠ g := by have := h.lt; omega
  rw [← hb] at hC0 ⊢
  clear hb hT h
  have c4 := hC0.c4
  have c8 := hC0.c8
  go_wp2_with fail
  refine (white_calls W0 g s p hI0 h0 hs).mono ?_
  rintro e w1 ⟨rfl, hI1, k1⟩
  have k01 := k0.trans k1
  have hwp : 0 ≤ wh s p ∧ wh s p ≤ s.size := by
    have a := rn_pos isWh s s.size p
    unfold wh; exact ⟨by omega, a.2.2 h1⟩
  clear hC0 hI0 k0 k1 c4 c8
  go_wp2_with fail
  refine (run_calls w1 g s (wh s p) 1 hI1 hwp.1 hwp.2 hs (by omega) (by omega) 71 #[] (fun c => c == 37) 1 rfl (fits71 _) (fun args w => rfl)).mono ?_
  rintro e w2 ⟨q', hq', rfl, hI2, k2⟩
  obtain rfl := hq'.trans HQ.out.symm
  have k02 := k01.trans k2
  clear hq' hI1 k01 k2 hwp
  by_cases hemp : cut s (wh s p) q' = ⟨#[]⟩
  · have HE := Lib.hid hemp
    rw [hemp]
    clear hemp
    go_wp2_with fail
    go_ret2
    rw [HRD.out, HE.out]
    exact ⟨hI2, k02, .inl ⟨_, rfl, rfl⟩⟩
  · have hne := empty_false hemp
    have HE := Lib.hid hemp
    clear hemp
    go_wp2_with fail
    go_ret2
    rw [HRD.out, decide_eq_true HE.out]
    exact ⟨hI2, k02, .inl ⟨_, rfl, rfl⟩⟩
theorem readin_calls (w : World) (g : Nat) (s : ByteArray) (p : Int) (cv : Cv) (hT : T10 w) (h : IN w g s p) (h0 : 0 ≤ p) (h1 : p ≤ s.size) (hs : s.size ≤ 100000) (hw : -1 ≤ cv.width) (hw2 : cv.width ≤ 999) (hset : cv.set.size ≤ 100000) :
    Calls Tryz.prog 35 #[.pointer (some ⟨g, 0, none⟩), .agg cv.cells.toArray] w fun e w' => IN w' g s (rdIn s cv p).2 ∧ Chg (fun k => k = g) w w' ∧
      ((∃ r, (rdIn s cv p).1 = some r ∧ e = .returned (.tuple #[.string r.1, .bool r.2])) ∨ ((rdIn s cv p).1 = none ∧ e = .panicked [{ v := limitV, recovered := false }])) := by
  by_cases a1 : cv.letter = 100
  · exact readin_100 w g s p cv hT h h0 h1 hs hw hw2 hset a1
  by_cases a2 : cv.letter = 120
  · exact readin_120 w g s p cv hT h h0 h1 hs hw hw2 hset a2
  by_cases a3 : cv.letter = 111
  · exact readin_111 w g s p cv hT h h0 h1 hs hw hw2 hset a3
  by_cases a4 : cv.letter = 98
  · exact readin_98 w g s p cv hT h h0 h1 hs hw hw2 hset a4
  by_cases a5 : cv.letter = 115
  · exact readin_115 w g s p cv hT h h0 h1 hs hw hw2 hset a5
  by_cases a6 : cv.letter = 99
  · exact readin_99 w g s p cv hT h h0 h1 hs hw hw2 hset a6
  by_cases a7 : cv.letter = 91
  · exact readin_91 w g s p cv hT h h0 h1 hs hw hw2 hset a7
  by_cases a8 : cv.letter = 110
  · exact readin_110 w g s p cv hT h h0 h1 hs hw hw2 hset a8
  exact readin_else w g s p cv hT h h0 h1 hs hw hw2 hset a1 a2 a3 a4 a5 a6 a7 a8
end Go.Proofs.YtemogjpgkcbaiaaGreatDoor.Sp
end
