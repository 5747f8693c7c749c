/- Part 11 of 11 of the proof of SpellScans: the law answers true at every input that the form lets in; no condition beyond the form. -/
import Derived.Test.YtemogjpgkcbaiaaGreatDoorA10
import Derived.BigQuiet
import Derived.ChangeMaps5
import Derived.Deep.DeepHandedRow
import Derived.Deep.DeepWitnessRowRef
import Derived.Lay
import Derived.Lib.LaidTab
import Derived.OpenShut
import Derived.OwnWalkIn
import Derived.ProofKit
import Derived.RangeFuncBox
import Derived.RangeFuncCalls
import Derived.Test.YtemogjpgkcbaiaaGreatDoorCards
import Derived.Test.YtemogjpgkcbaiaaGreatDoorTie
import Derived.WalkKit
section
namespace Go.Proofs.YtemogjpgkcbaiaaGreatDoor.Sp
open Go.RowKit Go.Proofs.YtemogjpgkcbaiaaGreatDoorW.PrintWords Go.Proofs.YtemogjpgkcbaiaaGreatDoorW.PrintLast Go.Proofs.YtemogjpgkcbaiaaGreatDoorW.PrintMore
set_option linter.unusedVariables false
set_option linter.unusedSimpArgs false
set_option maxRecDepth 100000
attribute [local go_sem] Oper.semAt_some
def SB (w : World) (b : Nat) (s : ByteArray) : Prop := w.heap[b]? = some (.cells #[.string s] 9 (0, 0))
theorem SB.lt {w : World} {b : Nat} {s : ByteArray} (h : SB w b s) : b < w.heap.size := (Array.getElem?_eq_some_iff.1 h).1
theorem SB.chg {S : Nat → Prop} {w w' : World} {b : Nat} {s : ByteArray} (h : SB w b s) (k : Chg S w w') (hs : ¬ S b) : SB w' b s := (k.block b h.lt hs).trans h
theorem SB.c {w : World} {b : Nat} {s : ByteArray} (h : SB w b s) : w.cell? ⟨b, 0, none⟩ = some (.string s) := cell_of h 0 rfl
theorem SB.set {w : World} {b : Nat} {s t : ByteArray} (h : SB w b s) : SB (w.setCell ⟨b, 0, none⟩ (.string t)) b t := heap_setCell_same h
theorem BB.isBuilder {w : World} {b base : Nat} {p v : Value} {s : ByteArray} (h : BB w b base p v s) (hb : b ≤ base) : Lib.IsBuilder 46 5 b b (Lib.strCells s) w := by
  have hne := h.ne
  obtain ⟨h1, h2, h3⟩ := h
  have hr : w.ownsRow b 5 1 v (Lib.strCells s).length (Lib.strCells s) := by rw [strCells_len]; exact own_weaken h3 hb
  rcases h2 with rfl | rfl
  · exact .inl ⟨Nat.le_refl _, v, h1, hr, hne⟩
  · exact .inr ⟨Nat.le_refl _, v, h1, hr, hne⟩
theorem Len_calls (b base : Nat) (p v : Value) (s : ByteArray) (w : World) (h : BB w b base p v s) (hb : b ≤ base) :
    Calls Tryz.prog 26 #[.pointer (some ⟨b, 0, none⟩)] w fun e w' => e = .returned (.int .i64 s.size) ∧ w' = w := by
  have := Tryz.Builder_Len b b _ w (h.isBuilder hb)
  rw [strCells_len] at this
  exact this
theorem String_calls (b base : Nat) (p v : Value) (s : ByteArray) (w : World) (h : BB w b base p v s) (hb : b ≤ base) :
    Calls Tryz.prog 27 #[.pointer (some ⟨b, 0, none⟩)] w fun e w' => e = .returned (.string s) ∧ Below b w w' ∧ Lib.OthersKept 5 (some b) w w' := by
  have hi := h.isBuilder hb
  have hc : Lib.strCells s = Lib.byteCells s.data.toList := rfl
  rw [hc] at hi
  exact (Tryz.Builder_String_any_k b b s.data.toList w (Lib.IsBuilderF.of hi) (Nat.le_of_lt h.lt)).mono fun e w' h => ⟨h.1, h.2.2.1, h.2.2.2⟩
theorem fmR_step {QT : ByteArray → ByteArray} {s : ByteArray} {xs : List ByteArray} {p q : Nat} {c : Cv} (h : p < s.size) (hst : pstep s false p = some (c, q)) (hq : p < q) (b : ByteArray) (pl ot : Bool) (n : Int) :
    fmR QT s xs p b pl ot n = if c.letter = 0 then
          if 65536 < (b ++ c.text).size then (⟨#[]⟩, 0, 4) else fmR QT s xs q (b ++ c.text) pl ot n
        else if c.letter = 37 then
          if 65536 < (b ++ ⟨#[37]⟩ : ByteArray).size then (⟨#[]⟩, (p : Int), 4) else fmR QT s xs q (b ++ ⟨#[37]⟩) pl ot n
        else if (pl || decide (c.place > 0)) && ((ot || c.place == 0) || c.wide || c.precise) then (⟨#[]⟩, (p : Int), 2)
        else if (fmC QT xs c n).2.2 ≠ 0 then (⟨#[]⟩, (p : Int), (fmC QT xs c n).2.2)
        else if 65536 < (b ++ (fmC QT xs c n).1).size then (⟨#[]⟩, (p : Int), 4)
        else fmR QT s xs q (b ++ (fmC QT xs c n).1) (pl || decide (c.place > 0)) (ot || c.place == 0) (fmC QT xs c n).2.1 := by
  rw [fmR, dif_pos h]
  simp only [hst, dif_pos hq]
theorem fmR_end {QT : ByteArray → ByteArray} {s : ByteArray} {xs : List ByteArray} (b : ByteArray) (pl ot : Bool) (n : Int) : fmR QT s xs s.size b pl ot n = (b, 0, 0) := by
  rw [fmR, dif_neg (by omega)]
theorem fmR_bad {QT : ByteArray → ByteArray} {s : ByteArray} {xs : List ByteArray} {p : Nat} (h : p < s.size) (hst : pstep s false p = none) (b : ByteArray) (pl ot : Bool) (n : Int) : fmR QT s xs p b pl ot n = ((⟨#[]⟩, (p : Int), 2) : ByteArray × Int × Int) := by
  rw [fmR, dif_pos h]
  simp only [hst]
set_option maxHeartbeats 1000000 in
theorem zeroed18 (L E : Nat) (s : ByteArray) (e : Int) (u : FrameMode) (w : World) (hLE : L ≠ E) (hL : SB w L s) (hE : I1 w E 25 e) :
    CallsDIn Fence.wide 0 Tryz.prog 18 #[.pointer (some ⟨E, 0, none⟩), .pointer (some ⟨L, 0, none⟩)] u w fun en u' w' =>
      en = .returned (.tuple #[]) ∧ u' = u ∧ Chg (fun i => i = L) w w' ∧ SB w' L (if e = 0 then s else ⟨#[]⟩) := by
  have h1 := hL.c
  have h2 := hE.c
  have h3 := blk_frozen hL 0
  refine callsDIn_of_wpSIn Tryz.func18 rfl trivial fun c₀ cs hu => ?_
  simp only [Tryz.ntmps18, List.size_toArray, List.length_cons, List.length_nil, Nat.reduceAdd, Nat.reduceSub, Array.replicate_succ, Array.replicate_zero, List.push_toArray, List.append_toArray, List.nil_append, List.cons_append]
  refine wpSIn_of_wpIn rfl ?_
  refine (wpIn_wide (n := 0)).2 ?_
  by_cases h : e = 0
  · have g : (e != 0) = false := by simpa using h
    rw [if_pos h]
    have H := Lib.hid h
    clear h
    go_wp2
    cases c₀
    simp only at hu
    subst hu
    exact ⟨rfl, _, rfl, _, by simp [results, Tryz.results18, go_sem], rfl, rfl, Chg.refl _ _, hL⟩
  · have g : (e != 0) = true := by simpa using h
    rw [if_neg h]
    have H := Lib.hid h
    clear h
    go_wp2
    cases c₀
    simp only at hu
    subst hu
    exact ⟨rfl, _, rfl, _, by simp [results, Tryz.results18, go_sem], rfl, rfl, (Chg.refl _ _).setCell ⟨L, 0, none⟩ _ (.inl rfl), hL.set⟩
structure FE (s : ByteArray) (b m0 N A a m : Nat) (W : World) : Prop where
  sb : SB W b ⟨#[]⟩
  at_ : I1 W (b + 1) 3 0
  er : I1 W (b + 1 + 1) 25 0
  wm : WM W m0
  mp : W.heap[a]? = some (.cells #[.map (some m0)] 39 (0, 0))
  tk : W.heap[a + 1]? = some (.cells #[tkF N A] 41 (0, 0))
  caps : Caps s false m (m + 1) W
def J7 (QT : ByteArray → ByteArray) (s : ByteArray) (v : Value) (xs : List ByteArray) (b m0 N A b0 a H : Nat) (w : World) (p : Nat) (W : World) : Prop :=
  ∃ (bt : ByteArray) (pl ot : Bool) (n : Int) (pv bv : Value), FE s b m0 N A a (a + 5) W ∧ TK W N A b0 n v xs ∧ BB W (a + 1 + 1) H pv bv bt ∧ B1 W (a + 1 + 1 + 1) pl ∧ B1 W (a + 1 + 1 + 1 + 1) ot ∧
    bt.size ≤ 65536 ∧ 0 ≤ n ∧ n ≤ 3 * p ∧ fmR QT s xs p bt pl ot n = fmt QT s xs ∧ Below b w W
theorem FE.chg {S : Nat → Prop} {s : ByteArray} {b m0 N A a m : Nat} {W W' : World} (h : FE s b m0 N A a m W) (k : Chg S W W') (h1 : ¬ S b) (h2 : ¬ S (b + 1)) (h3 : ¬ S (b + 1 + 1)) (h4 : ¬ S m0) (h5 : ¬ S a) (h6 : ¬ S (a + 1)) (h7 : ¬ S m) (h8 : ¬ S (m + 1)) (hm : m + 1 < W.heap.size) : FE s b m0 N A a m W' :=
  ⟨h.sb.chg k h1, h.at_.chg k h2, h.er.chg k h3, h.wm.chg k h4, (k.block _ (Array.getElem?_eq_some_iff.1 h.mp).1 h5).trans h.mp, (k.block _ (Array.getElem?_eq_some_iff.1 h.tk).1 h6).trans h.tk,
    ⟨(World.cell?_of_block (k.block m (by omega) h7)).trans h.caps.1, (World.cell?_of_block (k.block (m + 1) hm h8)).trans h.caps.2⟩⟩
theorem chg_of_belowS {H : Nat} {A B : World} (h : BelowS H A B) : Chg (fun i => H ≤ i) A B :=
  ⟨h.below.os, h.below.tape, h.below.output, h.below.size, fun i hi hs => h.below.block i (by omega)⟩
theorem FE.keep {s : ByteArray} {b m0 N A a m : Nat} {W W' : World} (h : FE s b m0 N A a m W) (e : ∀ i : Nat, (i = b ∨ i = b + 1 ∨ i = b + 1 + 1 ∨ i = m0 ∨ i = a ∨ i = a + 1 ∨ i = m ∨ i = m + 1) → W'.heap[i]? = W.heap[i]?) : FE s b m0 N A a m W' := by
  obtain ⟨h1, h2, h3, ⟨es, clock, hb, F, hs', hD⟩, h5, h6, h7⟩ := h
  exact ⟨(e b (by simp)).trans h1, (e (b + 1) (by simp)).trans h2, (e (b + 1 + 1) (by simp)).trans h3, ⟨es, clock, (e m0 (by simp)).trans hb, F, hs', hD⟩, (e a (by simp)).trans h5, (e (a + 1) (by simp)).trans h6,
    ⟨(World.cell?_of_block (e m (by simp))).trans h7.1, (World.cell?_of_block (e (m + 1) (by simp))).trans h7.2⟩⟩
theorem BB.belowS {H : Nat} {W W' : World} {b base : Nat} {p v : Value} {s : ByteArray} (h : BB W b base p v s) (k : BelowS H W W') (hb : b < H) : BB W' b base p v s :=
  ⟨(k.below.block b hb).trans h.1, h.2.1, own_move h.2.2 (fun i hi => by
    obtain ⟨cells, hc⟩ := own_typed h.2.2 i hi
    exact k.soft i ⟨cells, 5, (0, 0), hc, .inr rfl⟩)⟩
def Jx7 (c : Code) (W : World) : Prop := False
def Jp7 (QT : ByteArray → ByteArray) (s : ByteArray) (v : Value) (xs : List ByteArray) (b m0 N A b0 a H : Nat) (w : World) (ch : List PanicEntry) (W : World) : Prop :=
  ∃ (at_ e : Int), ch = [{ v := .iface 58 (.agg #[.int .i64 at_, .int .i64 e]), recovered := false }] ∧ SB W b ⟨#[]⟩ ∧ I1 W (b + 1) 3 0 ∧ I1 W (b + 1 + 1) 25 0 ∧ e ≠ 0 ∧ fmt QT s xs = (⟨#[]⟩, at_, e) ∧ Below b w W
def fr7 (s : ByteArray) (v : Value) (b m0 N A a b6 : Nat) (c : Cv) : Array Value := #[.string s, v, undef, undef, .pointer (some ⟨b, 0, none⟩), .pointer (some ⟨b + 1, 0, none⟩), .pointer (some ⟨b + 1 + 1, 0, none⟩), .pointer (some ⟨a, 0, none⟩), .pointer (some ⟨a + 1, 0, none⟩), .pointer (some ⟨a + 1 + 1, 0, none⟩), .pointer (some ⟨a + 1 + 1 + 1, 0, none⟩), .pointer (some ⟨a + 1 + 1 + 1 + 1, 0, none⟩), .pointer (some ⟨b6, 0, none⟩), undef, undef, undef, .func (.func 18) #[] #[.pointer (some ⟨b + 1 + 1, 0, none⟩), .pointer (some ⟨b, 0, none⟩)], .map (some m0), v, tkF N A, .string s, cvF (a + 5) (a + 5 + 1), .agg c.cells.toArray, undef, undef, undef, undef, undef, undef, undef, undef, undef, undef, undef, undef, undef, undef, undef, undef, undef, undef, undef, undef, undef, undef, undef, undef, undef, undef, undef, undef, undef, undef, undef, undef, undef, undef, undef, undef, undef, undef, undef, undef, undef, undef, undef, undef, undef, undef, undef, undef, undef, undef, undef, undef, undef, undef, undef, undef, undef, undef, undef, undef, undef, undef, undef, undef, undef, undef, undef, undef, undef, undef, undef, undef, undef, undef, undef, undef, undef, undef, undef, undef, undef, undef, undef, undef, undef, undef, undef, undef, undef, undef, undef]
theorem own_none (w : World) (base e : Nat) : w.ownsRow base e 1 (.slice none 0 0) (⟨#[]⟩ : ByteArray).size (Lib.strCells ⟨#[]⟩) := ⟨rfl, .inl ⟨rfl, rfl⟩⟩
theorem AR.up {W : World} {base base' : Nat} {v : Value} {xs : List ByteArray} (h : AR W base v xs) (hb : base ≤ base') : AR W base' v xs := by
  obtain ⟨A, c, rfl, hl, ha⟩ := h
  refine ⟨A, c, rfl, hl, fun h0 => ?_⟩
  obtain ⟨ad, rfl, hlt, hc⟩ := ha h0
  exact ⟨ad, rfl, by omega, hc⟩
def czF : Cv := ⟨0, ⟨#[]⟩, 0, ⟨#[]⟩, 0, 0, false, false, 0, false, ⟨#[]⟩⟩
theorem wpListIn_run {F : Fence} {n : Nat} {P : Program} {w w' : World} {ops : Array Oper} {rest : List Oper} {o : Oper} {a : Act} {Q : Exit → Act → World → Prop} {v : Value} {r : Next} (hg : o.guard = none) (hab : o.about P w a.eval = none) (hnd : ∀ c, o.op ≠ .defer c)
    (hrun : (execOp a.eval o).run P w = .ok r w') (hr : r = .value v ∨ r = .skip ∧ v = undef) (h : wpListIn F n P ops Q rest (a.put o.dst v) w') : wpListIn F n P ops Q (o :: rest) a w := by
  refine wpListIn_plain hg fun K hK => ?_
  unfold Oper.wpIn
  refine ⟨fun f hf => (by rw [hab] at hf; cases hf), ?_⟩
  rw [Oper.semAt_plain F _ _ hnd, hrun]
  rcases hr with rfl | ⟨rfl, rfl⟩ <;> exact hK _ _ h
theorem wpListIn_load_mid {F : Fence} {n : Nat} {P : Program} {w : World} {ops : Array Oper} {rest : List Oper} {op : Oper} {a : Act} {Q : Exit → Act → World → Prop} (hgd : op.guard = none) (ty : TypeId) (x : Operand) (ho : op.op = .load ty x)
    (b o : Nat) (hx : a.eval x = .pointer (some ⟨b, o, none⟩)) (cs : List Value) (d : TypeDesc) (hc : w.rangeAt b o cs) (hu : P.underlying ty = some d) (hd : d.isRow = true) (hi : (P.info? ty).map (·.size) = some cs.length)
    (h : wpListIn F n P ops Q rest (a.put op.dst (.agg cs.toArray)) w) : wpListIn F n P ops Q (op :: rest) a w := by
  refine wpListIn_run hgd (by unfold Oper.about; rw [ho]) (by rw [ho]; intro c hc'; cases hc') ?_ (.inl rfl) h
  unfold execOp
  simp only [ho, hx, Instr.loadAt, Instr.sureAddr, Sem.run_bind, Sem.run_pure, Result.andThen_ok, run_loadVar_mid w b o ty cs d hc hu hd hi]
theorem wr_enters (c : Int) : ∀ args w, (callFunc (wrF c) args).run Tryz.prog w = .ok (.enter (wrF c) args) w := by
  unfold wrF
  split
  · exact enters_of Tryz.func45 (by kernel_rfl) rfl
  · split
    · exact enters_of Tryz.func44 (by kernel_rfl) rfl
    · exact enters_of Tryz.func43 (by kernel_rfl) rfl
theorem wr_calls (QT : ByteArray → ByteArray) (cv : Cv) (hlet : LetW cv.letter) (hq : cv.letter = 113 → QuoteOk QT) (hw : -1 ≤ cv.width) (hw2 : cv.width ≤ 999) (hp : -1 ≤ cv.prec) (hp2 : cv.prec ≤ 999) (s : ByteArray) (hs : s.size ≤ 100000) (w : World) :
    Calls Tryz.prog (wrF cv.letter) #[.agg cv.cells.toArray, .string s] w fun e w' => e = .returned (.tuple #[.string (wrt QT cv s).1, .int .i64 (wrt QT cv s).2]) ∧ Chg (fun _ => False) w w' := by
  unfold wrt
  by_cases h1 : cv.letter = 99
  · have h : wrF cv.letter = 45 := by unfold wrF; rw [if_pos h1]
    rw [h, if_pos rfl]
    exact byted_calls cv hw hw2 s hs w
  · by_cases h2 : cv.letter = 115 ∨ cv.letter = 113
    · have h : wrF cv.letter = 44 := by unfold wrF; rw [if_neg h1, if_pos h2]
      rw [h, if_neg (by decide), if_pos rfl]
      exact texted_calls QT cv hq hw hw2 hp hp2 s hs w
    · have h : wrF cv.letter = 43 := by unfold wrF; rw [if_neg h1, if_neg h2]
      rw [h, if_neg (by decide), if_neg (by decide)]
      exact cnumber_calls cv hw hw2 hp hp2 s hs w
theorem wrt_size (QT : ByteArray → ByteArray) (hQ : ∀ x : ByteArray, x.size ≤ 100000 → (QT x).size ≤ 300000) (cv : Cv) (hw : cv.width ≤ 999) (hp : cv.prec ≤ 999) (x : ByteArray) (hx : x.size ≤ 100000) : (wrt QT cv x).1.size ≤ 900000 := by
  unfold wrt
  split
  · have := bydRes_size cv hw x; omega
  · split
    · exact txdRes_size QT hQ cv hw x hx
    · have := nmbRes_size cv hw hp x; omega
theorem new_conv (W : World) (c : Cv) : ∃ Wb, (storeCells ⟨W.heap.size, 0, none⟩ c.cells).run Tryz.prog (W.alloc (Obj.cells #[.int .i64 0, .string ⟨#[]⟩, .int .i64 0, .string ⟨#[]⟩, .int .i64 0, .int .i64 0, .bool false, .bool false, .int .u8 0, .bool false, .string ⟨#[]⟩] 51)) = .ok () Wb ∧ CV Wb W.heap.size c ∧ Chg (fun _ => False) W Wb := by
  have h1 : CV (W.alloc (Obj.cells #[.int .i64 0, .string ⟨#[]⟩, .int .i64 0, .string ⟨#[]⟩, .int .i64 0, .int .i64 0, .bool false, .bool false, .int .u8 0, .bool false, .string ⟨#[]⟩] 51)) W.heap.size czF := World.alloc_heap_new W _
  have ht := h1.there_ c
  have := run_storeCells_cells (P := Tryz.prog) W.heap.size 0 c.cells 0 _ (fun j hj => (ht j (by simpa using hj)).1) (fun j hj => (ht j (by simpa using hj)).2)
    (fun v hv => by
      simp only [Cv.cells, List.mem_cons, List.mem_nil_iff, or_false] at hv
      rcases hv with rfl | rfl | rfl | rfl | rfl | rfl | rfl | rfl | rfl | rfl | rfl <;> rfl)
  exact ⟨_, this, h1.setAll c, ((Chg.refl _ W).alloc _).setCells W.heap.size 0 _ (.inr (Nat.le_refl _))⟩
theorem fld64 (k : Nat) (W : World) : (Instr.field 64 (.agg #[.func (.func k) #[] #[]]) 0).run Tryz.prog W = .ok (.func (.func k) #[] #[]) W := by kernel_rfl
set_option maxHeartbeats 40000000 in
theorem format_calls (QT : ByteArray → ByteArray) (hQ : ∀ x : ByteArray, x.size ≤ 100000 → (QT x).size ≤ 300000) (s : ByteArray) (hs : s.size ≤ 100000) (v : Value) (xs : List ByteArray) (hx : ∀ x ∈ xs, x.size ≤ 100000) (hq : ∀ p c q, p < s.size → pstep s false p = some (c, q) → c.letter = 113 → QuoteOk QT) (w : World) (hA : AR w w.heap.size v xs) :
    Calls Tryz.prog 7 #[.string s, v] w fun e w' => e = .returned (.tuple #[.string (fmt QT s xs).1, .int .i64 (fmt QT s xs).2.1, .int .i64 (fmt QT s xs).2.2]) ∧ Chg (fun _ => False) w w' := by
  refine calls_of_wpV Tryz.func7 rfl ?_
  simp only [Tryz.ntmps7, List.size_toArray, List.length_cons, List.length_nil, Nat.reduceAdd, Nat.reduceSub, Array.replicate_succ, Array.replicate_zero, List.push_toArray, List.append_toArray, List.nil_append, List.cons_append]
  refine wpV_seq_in fun K hK => ?_
  refine (wpIn_wide (n := 0)).2 ?_
  go_wp2_with fail
  obtain ⟨W0, hW0⟩ : ∃ W0, W0 = (((w.alloc (Obj.cells #[Value.string ⟨#[]⟩] 9)).alloc (Obj.cells #[Value.int IntKind.i64 0] 3)).alloc (Obj.cells #[Value.int IntKind.i64 0] 25)) := ⟨_, rfl⟩
  have h4 : SB W0 w.heap.size ⟨#[]⟩ := by rw [hW0]; exact (Below.heap_alloc _ _ _ (by simp; omega)).trans ((Below.heap_alloc _ _ _ (by simp)).trans (World.alloc_heap_new w _))
  have h5 : I1 W0 (w.heap.size + 1) 3 0 := by
    rw [hW0]; have := World.alloc_heap_new (w.alloc (Obj.cells #[Value.string ⟨#[]⟩] 9)) (.cells #[.int .i64 0] 3)
    rw [World.size_alloc] at this
    exact (Below.heap_alloc _ _ _ (by simp)).trans this
  have h6 : I1 W0 (w.heap.size + 1 + 1) 25 0 := by
    rw [hW0]; have := World.alloc_heap_new ((w.alloc (Obj.cells #[Value.string ⟨#[]⟩] 9)).alloc (Obj.cells #[Value.int IntKind.i64 0] 3)) (.cells #[.int .i64 0] 25)
    rw [World.size_alloc, World.size_alloc] at this
    exact this
  have k0 : Chg (fun _ => False) w W0 := by rw [hW0]; exact ((((Chg.refl _ w).alloc _).alloc _).alloc _)
  have z0 : W0.heap.size = w.heap.size + 1 + 1 + 1 := by rw [hW0]; simp
  rw [← hW0]
  clear hW0
  have hA0 := hA.chg k0 (Nat.le_refl _) (fun _ _ h => h)
  obtain ⟨b, hb⟩ : ∃ b, b = w.heap.size := ⟨_, rfl⟩
  rw [← hb] at h4 h5 h6 z0 hA0 ⊢
  have HB := Lib.hid hb
  clear hb hA
  refine wpV_seq_in fun K hK => ?_
  refine (wpIn_wide (n := 0)).2 ?_
  go_wp2_with fail
  refine wpV_seq_in fun K hK => ?_
  refine (wpIn_wide (n := 0)).2 ?_
  go_wp2_with fail
  refine wpV_seq_in fun K hK => ?_
  refine (wpIn_wide (n := 0)).2 ?_
  go_wp2_with fail
  refine (writers_calls _).mono ?_
  rintro e w1 ⟨m0, rfl, k1, hm0, hWM1⟩
  have i4 := h4.chg k1 (fun h => h)
  have i5 := h5.chg k1 (fun h => h)
  have i6 := h6.chg k1 (fun h => h)
  have hA1 := (hA0.chg k1 (by omega) (fun _ _ h => h)).up (show b ≤ w1.heap.size by have := k1.size; omega)
  have k01 := k0.trans k1
  have z1 : b + 1 + 1 < m0 := by omega
  clear h4 h5 h6 k0 k1 hA0 hm0 z0
  go_wp2_with fail
  refine (taken_calls v xs _ hA1).mono ?_
  rintro e w2 ⟨N, A, rfl, k2, hAw, hT2⟩
  have hNA : w1.heap.size ≤ N := hT2.low
  have j4 := i4.chg k2 (fun h => h)
  have j5 := i5.chg k2 (fun h => h)
  have j6 := i6.chg k2 (fun h => h)
  have hWM2 := hWM1.chg k2 (fun h => h)
  have k02 := k01.trans k2
  have z2 : m0 < w1.heap.size := hWM1.lt
  obtain ⟨b0, hb0⟩ : ∃ b0, b0 = w1.heap.size := ⟨_, rfl⟩
  rw [← hb0] at hNA hAw z2 hT2
  clear i4 i5 i6 k01 k2 hWM1 hA1 hb0
  have hsf := fun (W : World) (a : Addr) (f : Fn) (x y : Array Value) => run_store Tryz.prog W a (.func f x y) .plain rfl
  simp only [tkF]
  go_wp2_with fail
  refine wpV_seq_in fun K hK => ?_
  refine (wpIn_wide (n := 0)).2 ?_
  go_wp2_with fail
  refine wpV_seq_in fun K hK => ?_
  refine (wpIn_wide (n := 0)).2 ?_
  go_wp2_with fail
  obtain ⟨a, ha⟩ : ∃ a, a = w2.heap.size := ⟨_, rfl⟩
  obtain ⟨w3, hw3⟩ : ∃ w3, w3 = (((((w2.alloc (Obj.cells #[Value.map (some m0)] 39)).alloc (Obj.cells #[tkF N A] 41)).alloc (Obj.cells #[Value.pointer none, Value.slice none 0 0] 46)).alloc (Obj.cells #[Value.bool false] 4)).alloc (Obj.cells #[Value.bool false] 4)) := ⟨_, rfl⟩
  have z3 : w3.heap.size = a + 5 := by rw [hw3, ha]; simp
  have hn := fun (W : World) (o : Obj) => World.alloc_heap_new W o
  have g1 : w3.heap[a]? = some (.cells #[.map (some m0)] 39 (0, 0)) := by
    rw [hw3, ha]
    exact (Below.heap_alloc _ _ _ (by simp <;> omega)).trans ((Below.heap_alloc _ _ _ (by simp <;> omega)).trans ((Below.heap_alloc _ _ _ (by simp <;> omega)).trans ((Below.heap_alloc _ _ _ (by simp)).trans (hn _ _))))
  have g2 : w3.heap[a + 1]? = some (.cells #[tkF N A] 41 (0, 0)) := by
    rw [hw3, ha]
    refine (Below.heap_alloc _ _ _ (by simp <;> omega)).trans ((Below.heap_alloc _ _ _ (by simp <;> omega)).trans ((Below.heap_alloc _ _ _ (by simp)).trans ?_))
    have := hn (w2.alloc (Obj.cells #[Value.map (some m0)] 39)) (Obj.cells #[tkF N A] 41)
    rwa [World.size_alloc] at this
  have g3 : w3.heap[a + 1 + 1]? = some (.cells #[.pointer none, .slice none 0 0] 46 (0, 0)) := by
    rw [hw3, ha]
    refine (Below.heap_alloc _ _ _ (by simp <;> omega)).trans ((Below.heap_alloc _ _ _ (by simp)).trans ?_)
    have := hn ((w2.alloc (Obj.cells #[Value.map (some m0)] 39)).alloc (Obj.cells #[tkF N A] 41)) (Obj.cells #[Value.pointer none, Value.slice none 0 0] 46)
    rwa [World.size_alloc, World.size_alloc] at this
  have g4 : B1 w3 (a + 1 + 1 + 1) false := by
    rw [hw3, ha]
    refine (Below.heap_alloc _ _ _ (by simp)).trans ?_
    have := hn (((w2.alloc (Obj.cells #[Value.map (some m0)] 39)).alloc (Obj.cells #[tkF N A] 41)).alloc (Obj.cells #[Value.pointer none, Value.slice none 0 0] 46)) (Obj.cells #[Value.bool false] 4)
    rwa [World.size_alloc, World.size_alloc, World.size_alloc] at this
  have g5 : B1 w3 (a + 1 + 1 + 1 + 1) false := by
    rw [hw3, ha]
    have := hn ((((w2.alloc (Obj.cells #[Value.map (some m0)] 39)).alloc (Obj.cells #[tkF N A] 41)).alloc (Obj.cells #[Value.pointer none, Value.slice none 0 0] 46)).alloc (Obj.cells #[Value.bool false] 4)) (Obj.cells #[Value.bool false] 4)
    rwa [World.size_alloc, World.size_alloc, World.size_alloc, World.size_alloc] at this
  have k23 : Chg (fun _ => False) w2 w3 := by rw [hw3]; exact (((((Chg.refl _ w2).alloc _).alloc _).alloc _).alloc _).alloc _
  simp only [tkF] at hw3
  rw [← hw3, ← ha]
  have zN : N < a := by rw [ha]; exact hT2.ltN
  have zA : A < a := by rw [ha]; exact hT2.ltA
  have q4 := j4.chg k23 (fun h => h)
  have q5 := j5.chg k23 (fun h => h)
  have q6 := j6.chg k23 (fun h => h)
  have hWM3 := hWM2.chg k23 (fun h => h)
  have hT3 := hT2.chg k23 (fun h => h) (fun h => h) (fun _ _ h => h)
  have k03 := k02.trans k23
  clear hw3 hn j4 j5 j6 hWM2 hT2 k02 k23 ha
  refine wpV_seq ?_
  refine wpV_seq_in fun K hK => ?_
  refine (wpIn_wide (n := 0)).2 ?_
  go_wp2_with fail
  refine (conversions_calls _ _ _).mono ?_
  rintro e w4 ⟨rfl, hcap, hk, hz⟩
  have FE0 : FE s b m0 N A a w3.heap.size w4 := ⟨q4.chg hk (fun h => h), q5.chg hk (fun h => h), q6.chg hk (fun h => h), hWM3.chg hk (fun h => h), (hk.block _ (by omega) (fun h => h)).trans g1, (hk.block _ (by omega) (fun h => h)).trans g2, hcap⟩
  have hT4 := hT3.chg hk (fun h => h) (fun h => h) (fun _ _ h => h)
  have r3 : BB w4 (a + 1 + 1) w4.heap.size (.pointer none) (.slice none 0 0) ⟨#[]⟩ := ⟨(hk.block _ (by omega) (fun h => h)).trans g3, .inl rfl, own_none _ _ _⟩
  have r4 := g4.chg hk (fun h => h)
  have r5 := g5.chg hk (fun h => h)
  have hb4 : Below b w w4 := ((k03.trans hk).below (by rw [HB.out]; exact Nat.le_refl _) (fun _ h => h.elim))
  rw [z3] at hcap hz FE0
  clear q4 q5 q6 hWM3 hT3 k03 hk g1 g2 g3 g4 g5 hcap
  go_wp2_with fail
  clear z3
  have hz' : a + 5 + 1 < w4.heap.size := by omega
  refine wpV_block ?_
  refine range_P Tryz.func7 (gf := 47) rfl (enters_of Tryz.func47 (by kernel_rfl) rfl) (conv_iter s hs false (a + 5) (a + 5 + 1)) (by intro x; rfl)
    (J7 QT s v xs b m0 N A b0 a w4.heap.size w) (Jx7) (Jp7 QT s v xs b m0 N A b0 a w4.heap.size w)
    ?_ ?_ ?_ ?_ ?_
    (fun c a1 W => ∃ b6, a1 = { tmps := fr7 s v b m0 N A a b6 c, defers := [] } ∧ CV W b6 c ∧ w4.heap.size ≤ b6) ?_ ?_ ?_ ?_ ?_ ?_
  · rintro p X Y ⟨bt, pl, ot, n, pv, bv, fe, tk, bb, p4, p5, n0, n1, n2, hf, hbw⟩ hbb
    have e := fun i (hi : i < w4.heap.size) => hbb.below.block i hi
    have hc := chg_of_belowS hbb
    exact ⟨bt, pl, ot, n, pv, bv, fe.keep (fun i hi => e i (by omega)), tk.chg hc (by omega) (by omega) (fun i hi => by omega), bb.belowS hbb (by omega), (e _ (by omega)).trans p4, (e _ (by omega)).trans p5, n0, n1, n2, hf, hbw.trans (hbb.below.mono (by omega))⟩
  · intro c X Y h; exact h.elim
  · rintro ch X Y ⟨at_, e, h1, h2, h3, h4, h5, h6, h7⟩ hbb
    have e := fun i (hi : i < w4.heap.size) => hbb.below.block i hi
    exact ⟨at_, _, h1, (e _ (by omega)).trans h2, (e _ (by omega)).trans h3, (e _ (by omega)).trans h4, h5, h6, h7.trans (hbb.below.mono (by omega))⟩
  · rintro p X ⟨bt, pl, ot, n, pv, bv, fe, _⟩; exact fe.caps
  · exact ⟨⟨#[]⟩, false, false, 0, _, _, FE0, hT4, r3, r4, r5, by decide, by omega, by omega, rfl, hb4⟩
  · rintro x a1 W l r r' hl ⟨b6, h1, h2, h3⟩
    refine ⟨b6, h1, (World.putObj_heap_other ?_).trans h2, h3⟩
    rintro rfl
    unfold CV at h2; rw [hl] at h2; cases h2
  · intro l x W hle
    simp only [encC, Cv.cells]
    gi_wp2
    refine ⟨(Below.refl _ _).alloc (Nat.le_refl _) _, W.heap.size, rfl, World.alloc_heap_new W _, hle⟩
  · rintro l p c q a1 W ⟨bt, pl, ot, n, pv, bv, fe, tk, bb, p4, p5, n0, n1, n2, hf, hbw⟩ hle hp hst ⟨b6, rfl, hcv, hb6⟩
    obtain ⟨hpq, hqs, hat, hpl0, hpl9⟩ := pstep_facts hp hst
    obtain ⟨hok, hlet⟩ := pstep_fmt hp hst
    have hqc := hq p c q hp hst
    have HS := Lib.hid ((fmR_step hp hst hpq bt pl ot n).symm.trans hf)
    clear hst hf
    unfold fr7
    have HZ := Lib.hid hz
    clear hz
    have c8 := hcv.c8
    by_cases h0 : c.letter = 0
    · have g1 : (c.letter == 0) = true := by rw [h0]; rfl
      have HS2 := Lib.hid (show (if 65536 < (bt ++ c.text).size then ((⟨#[]⟩, 0, 4) : ByteArray × Int × Int) else fmR QT s xs q (bt ++ c.text) pl ot n) = fmt QT s xs by have := HS.out; rw [if_pos h0] at this; exact this)
      have c1 := hcv.c1
      have hws := WriteString_calls (a + 1 + 1) w4.heap.size pv bv bt c.text (by omega) (by have := hok.tx; omega) W bb hle
      have HWS := Lib.hid hws
      clear hws h0 HS hlet
      gi_wp2
      refine ⟨trivial, rfl, ?_⟩
      refine (CallsIn.inRound l (callsIn_wide.2 HWS.out)).mono ?_
      rintro e W1 ⟨rfl, v', bb1, k1⟩
      have hrow : ∀ i, bv.ownBlock = some i → w4.heap.size ≤ i := fun i h => own_base bb.2.2 i h
      have hlow : ∀ i, i < w4.heap.size → i ≠ a + 1 + 1 → ¬ (i = a + 1 + 1 ∨ bv.ownBlock = some i) := fun i h1 h2 h => h.elim h2 (fun h => by have := hrow i h; omega)
      have fe1 := fe.chg k1 (hlow _ (by omega) (by omega)) (hlow _ (by omega) (by omega)) (hlow _ (by omega) (by omega)) (hlow _ (by omega) (by omega)) (hlow _ (by omega) (by omega)) (hlow _ (by omega) (by omega)) (hlow _ (by omega) (by omega)) (hlow _ (by omega) (by omega)) (by omega)
      have tk1 := tk.chg k1 (hlow _ (by omega) (by omega)) (hlow _ (by omega) (by omega)) (fun i hi => hlow _ (by omega) (by omega))
      have p41 : B1 W1 (a + 1 + 1 + 1) pl := p4.chg k1 (hlow _ (by omega) (by omega))
      have p51 : B1 W1 (a + 1 + 1 + 1 + 1) ot := p5.chg k1 (hlow _ (by omega) (by omega))
      have hcv1 : CV W1 b6 c := hcv.chg k1 (by
        rintro (h | h)
        · omega
        · obtain ⟨cells, hc⟩ := own_typed bb.2.2 b6 h
          unfold CV at hcv
          rw [hc] at hcv
          injection hcv with hcv
          injection hcv with _ hcv
          exact absurd hcv (by decide))
      have kh1 : KeepHi w4.heap.size W W1 := ⟨k1.size, fun i h1 h2 h3 => k1.block i h2 (by
        rintro (h | h)
        · omega
        · obtain ⟨cells, hc⟩ := own_typed bb.2.2 i h
          exact h3 ⟨cells, 5, (0, 0), hc, .inr rfl⟩)⟩
      have hbw1 : Below b w W1 := hbw.trans (k1.below (by omega) (fun i hi => hi.elim (fun h => by omega) (fun h => by have := hrow i h; omega)))
      clear HWS c1
      obtain ⟨y, hy⟩ : ∃ y, y = bt ++ c.text := ⟨_, rfl⟩
      rw [← hy] at bb1 HS2
      clear fe tk p4 p5 hcv hbw hrow hlow k1 c8 hy
      have c8 := hcv1.c8
      have c0 := hcv1.c0
      have hlen := Len_calls (a + 1 + 1) w4.heap.size _ v' y W1 bb1 (by omega)
      have HL := Lib.hid hlen
      clear hlen
      gi_wp2
      refine ⟨trivial, rfl, ?_⟩
      refine (CallsIn.inRound l (callsIn_wide.2 HL.out)).mono ?_
      rintro e W2 ⟨rfl, rfl⟩
      by_cases hbig : 65536 < y.size
      · have g3 : decide ((65536 : Int) < (y.size : Int)) = true := by simp only [decide_eq_true_eq]; omega
        have HS3 := Lib.hid (show ((⟨#[]⟩, 0, 4) : ByteArray × Int × Int) = fmt QT s xs by have := HS2.out; rw [if_pos hbig] at this; exact this)
        have g4 : ((65536 : Int) < (y.size : Int)) = True := by simp; omega
        clear hbig
        gi_wp2
        exact ⟨rfl, kh1, _, _, rfl, fe1.sb, fe1.at_, fe1.er, by decide, HS3.out.symm, hbw1⟩
      · have g3 : decide ((65536 : Int) < (y.size : Int)) = false := by simp only [decide_eq_false_iff_not]; omega
        have g4 : ((65536 : Int) < (y.size : Int)) = False := by simp; omega
        have HS3 := Lib.hid (show fmR QT s xs q y pl ot n = fmt QT s xs by have := HS2.out; rw [if_neg hbig] at this; exact this)
        have hk : y.size ≤ 65536 := by omega
        have HK := Lib.hid hk
        clear hbig hk
        gi_wp2
        refine ⟨trivial, rfl, ?_⟩
        refine (CallsIn.inRound l (callsIn_wide.2 HL.out)).mono ?_
        rintro e W3 ⟨rfl, rfl⟩
        gi_wp2
        exact ⟨kh1, y, pl, ot, n, _, v', fe1, tk1, bb1, p41, p51, HK.out, by omega, by omega, HS3.out, hbw1⟩
    · have g1 : (c.letter == 0) = false := by simpa using h0
      by_cases h37 : c.letter = 37
      · have g2 : (c.letter == 37) = true := by rw [h37]; rfl
        have HS2 := Lib.hid (show (if 65536 < (bt ++ ⟨#[37]⟩).size then ((⟨#[]⟩, (p : Int), 4) : ByteArray × Int × Int) else fmR QT s xs q (bt ++ ⟨#[37]⟩) pl ot n) = fmt QT s xs by have := HS.out; rw [if_neg h0, if_pos h37] at this; exact this)
        have hat2 : c.at_ = p := hat
        have hws : Calls Tryz.prog 24 #[.pointer (some ⟨a + 1 + 1, 0, none⟩), .int .u8 37] W _ := WriteByte_calls (a + 1 + 1) w4.heap.size pv bv bt 37 (by omega) W bb hle
        have HWS := Lib.hid hws
        clear hws h0 h37 HS hlet
        gi_wp2
        refine ⟨trivial, rfl, ?_⟩
        refine (CallsIn.inRound l (callsIn_wide.2 HWS.out)).mono ?_
        rintro e W1 ⟨rfl, v', bb1, k1⟩
        have hrow : ∀ i, bv.ownBlock = some i → w4.heap.size ≤ i := fun i h => own_base bb.2.2 i h
        have hlow : ∀ i, i < w4.heap.size → i ≠ a + 1 + 1 → ¬ (i = a + 1 + 1 ∨ bv.ownBlock = some i) := fun i h1 h2 h => h.elim h2 (fun h => by have := hrow i h; omega)
        have fe1 := fe.chg k1 (hlow _ (by omega) (by omega)) (hlow _ (by omega) (by omega)) (hlow _ (by omega) (by omega)) (hlow _ (by omega) (by omega)) (hlow _ (by omega) (by omega)) (hlow _ (by omega) (by omega)) (hlow _ (by omega) (by omega)) (hlow _ (by omega) (by omega)) (by omega)
        have tk1 := tk.chg k1 (hlow _ (by omega) (by omega)) (hlow _ (by omega) (by omega)) (fun i hi => hlow _ (by omega) (by omega))
        have p41 : B1 W1 (a + 1 + 1 + 1) pl := p4.chg k1 (hlow _ (by omega) (by omega))
        have p51 : B1 W1 (a + 1 + 1 + 1 + 1) ot := p5.chg k1 (hlow _ (by omega) (by omega))
        have hcv1 : CV W1 b6 c := hcv.chg k1 (by
          rintro (h | h)
          · omega
          · obtain ⟨cells, hc⟩ := own_typed bb.2.2 b6 h
            unfold CV at hcv
            rw [hc] at hcv
            injection hcv with hcv
            injection hcv with _ hcv
            exact absurd hcv (by decide))
        have kh1 : KeepHi w4.heap.size W W1 := ⟨k1.size, fun i h1 h2 h3 => k1.block i h2 (by
          rintro (h | h)
          · omega
          · obtain ⟨cells, hc⟩ := own_typed bb.2.2 i h
            exact h3 ⟨cells, 5, (0, 0), hc, .inr rfl⟩)⟩
        have hbw1 : Below b w W1 := hbw.trans (k1.below (by omega) (fun i hi => hi.elim (fun h => by omega) (fun h => by have := hrow i h; omega)))
        clear HWS
        obtain ⟨y, hy⟩ : ∃ y, y = bt ++ ⟨#[37]⟩ := ⟨_, rfl⟩
        rw [← hy] at bb1 HS2
        clear fe tk p4 p5 hcv hbw hrow hlow k1 c8 hy
        have c8 := hcv1.c8
        have c0 := hcv1.c0
        have hlen := Len_calls (a + 1 + 1) w4.heap.size _ v' y W1 bb1 (by omega)
        have HL := Lib.hid hlen
        clear hlen
        gi_wp2
        refine ⟨trivial, rfl, ?_⟩
        refine (CallsIn.inRound l (callsIn_wide.2 HL.out)).mono ?_
        rintro e W2 ⟨rfl, rfl⟩
        by_cases hbig : 65536 < y.size
        · have g3 : decide ((65536 : Int) < (y.size : Int)) = true := by simp only [decide_eq_true_eq]; omega
          have HS3 := Lib.hid (show ((⟨#[]⟩, (p : Int), 4) : ByteArray × Int × Int) = fmt QT s xs by have := HS2.out; rw [if_pos hbig] at this; exact this)
          have g4 : ((65536 : Int) < (y.size : Int)) = True := by simp; omega
          clear hbig
          gi_wp2
          refine ⟨trivial, rfl, ?_⟩
          refine (CallsIn.inRound l (callsIn_wide.2 HL.out)).mono ?_
          rintro e W3 ⟨rfl, rfl⟩
          gi_wp2
          exact ⟨rfl, kh1, _, _, rfl, fe1.sb, fe1.at_, fe1.er, by decide, HS3.out.symm, hbw1⟩
        · have g3 : decide ((65536 : Int) < (y.size : Int)) = false := by simp only [decide_eq_false_iff_not]; omega
          have g4 : ((65536 : Int) < (y.size : Int)) = False := by simp; omega
          have HS3 := Lib.hid (show fmR QT s xs q y pl ot n = fmt QT s xs by have := HS2.out; rw [if_neg hbig] at this; exact this)
          have hk : y.size ≤ 65536 := by omega
          have HK := Lib.hid hk
          clear hbig hk
          gi_wp2
          refine ⟨trivial, rfl, ?_⟩
          refine (CallsIn.inRound l (callsIn_wide.2 HL.out)).mono ?_
          rintro e W3 ⟨rfl, rfl⟩
          gi_wp2
          exact ⟨kh1, y, pl, ot, n, _, v', fe1, tk1, bb1, p41, p51, HK.out, by omega, by omega, HS3.out, hbw1⟩
      · have g2 : (c.letter == 37) = false := by simpa using h37
        have HL37 := Lib.hid h37
        have HL0 := Lib.hid h0
        have c2 := hcv.c2
        have c6 := hcv.c6
        have c7 := hcv.c7
        have c0 := hcv.c0
        have d4 := p4.c
        have d5 := p5.c
        have f4 := blk_frozen p4 0
        have f5 := blk_frozen p5 0
        clear h37 h0
        gi_wp2
        have n6 : a + 1 + 1 + 1 ≠ b6 := by omega
        have n7 : a + 1 + 1 + 1 + 1 ≠ b6 := by omega
        refine wpIn_mono (Q := fun e a' w' => e = .normal ∧ (∃ u25 u26 u27 u28 u29 u30 u31 u32 u33 u34 u35 u36 : Value, a' = { tmps := #[.string s, v, undef, undef, .pointer (some ⟨b, 0, none⟩), .pointer (some ⟨b + 1, 0, none⟩), .pointer (some ⟨b + 1 + 1, 0, none⟩), .pointer (some ⟨a, 0, none⟩), .pointer (some ⟨a + 1, 0, none⟩), .pointer (some ⟨a + 1 + 1, 0, none⟩), .pointer (some ⟨a + 1 + 1 + 1, 0, none⟩), .pointer (some ⟨a + 1 + 1 + 1 + 1, 0, none⟩), .pointer (some ⟨b6, 0, none⟩), undef, undef, undef, .func (.func 18) #[] #[.pointer (some ⟨b + 1 + 1, 0, none⟩), .pointer (some ⟨b, 0, none⟩)], .map (some m0), v, tkF N A, .string s, cvF (a + 5) (a + 5 + 1), .agg c.cells.toArray, .pointer (some ⟨b6, 8, none⟩), .int .u8 c.letter, u25, u26, u27, u28, u29, u30, u31, u32, u33, u34, u35, u36, undef, undef, undef, undef, undef, undef, undef, undef, undef, undef, undef, undef, undef, undef, undef, undef, undef, undef, undef, undef, undef, undef, undef, undef, undef, undef, undef, undef, undef, undef, undef, undef, undef, undef, undef, undef, undef, undef, undef, undef, undef, undef, undef, undef, undef, undef, undef, undef, undef, undef, undef, undef, undef, .bool false, .bool false, undef, undef, undef, .bool false, .bool false, undef, undef, undef, undef, undef, undef, undef, undef, undef, undef, undef, undef, undef, undef, undef, undef, undef], defers := [] }) ∧ w' = ((W.drew.setCell ⟨a + 1 + 1 + 1, 0, none⟩ (.bool (pl || decide (c.place > 0)))).setCell ⟨a + 1 + 1 + 1 + 1, 0, none⟩ (.bool (ot || c.place == 0)))) ?_ ?_
        · rename_i K0 hK0
          clear hQ hq hx hsf hK0 HS HZ HL37 HL0 c6 c7 c0 c8 g1 g2 fe tk bb hbw hcv hok hlet FE0 hT4 r3 r4 r5 hb4 HB p4 p5 hat hpl0 hpl9 hqc n0 n1 n2 hp hpq hqs hb6 hle zN zA hAw hNA z1 z2 hs
          refine wpIn_region_any (by kernel_rfl) (anyIn_of_any (fun ⟨_, _, h⟩ => nomatch h.1) (noDefer_spec (by kernel_rfl)) _ _ _ _ ?_)
          show wpAny _ _ _ _ 14 (Array.replicate 14 false) _ _
          refine wpAny_of_held (S := fun w' => w'.cell? ⟨b6, 2, none⟩ = some (.int .i64 c.place)) _ _ _ _ ?_
          cases pl
          · cases ot
            · refine wpAnyH_ready (rs := [0, 6]) (by kernel_rfl) (by simp) ?_
              refine AllReadyH.cons rfl (fun K' hK => ?_) ?_
              · go_simp
                refine hK.out _ _ (by first | exact c2 | simp [go_sem, c2, n6, n7]) (fun _ => ?_)
                clear hK
                refine wpAnyH_take (i := 1) (v := .bool false) rfl (by kernel_rfl) (by kernel_rfl) (by kernel_rfl) (fun _ _ _ h => nomatch h.1) (.inl ⟨rfl, fun _ _ => rfl⟩) (by first | exact c2 | simp [go_sem, c2, n6, n7]) ?_
                simp only [Act.put, List.setIfInBounds_toArray, List.set_cons_succ, List.set_cons_zero, List.getElem_toArray, List.getElem_cons_succ, List.getElem_cons_zero]
                refine wpAnyH_take (i := 2) (v := .pointer (some ⟨b6, 2, none⟩)) rfl (by kernel_rfl) (by kernel_rfl) (by kernel_rfl) (fun _ _ _ h => nomatch h.1) (.inl ⟨by simp [Region.wanted, yielded], fun _ _ => rfl⟩) (by first | exact c2 | simp [go_sem, c2, n6, n7]) ?_
                simp only [Act.put, List.setIfInBounds_toArray, List.set_cons_succ, List.set_cons_zero, List.getElem_toArray, List.getElem_cons_succ, List.getElem_cons_zero]
                refine wpAnyH_take (i := 3) (v := .int .i64 c.place) rfl (by kernel_rfl) (by kernel_rfl) (by kernel_rfl) (fun _ _ _ h => nomatch h.1) (.inl ⟨by simp [Region.wanted, yielded], fun w' hS => by simp [go_sem, hS]⟩) (by first | exact c2 | simp [go_sem, c2, n6, n7]) ?_
                simp only [Act.put, List.setIfInBounds_toArray, List.set_cons_succ, List.set_cons_zero, List.getElem_toArray, List.getElem_cons_succ, List.getElem_cons_zero]
                refine wpAnyH_take (i := 4) (v := .bool (decide (c.place > 0))) rfl (by kernel_rfl) (by kernel_rfl) (by kernel_rfl) (fun _ _ _ h => nomatch h.1) (.inl ⟨by simp [Region.wanted, yielded], fun _ _ => rfl⟩) (by first | exact c2 | simp [go_sem, c2, n6, n7]) ?_
                simp only [Act.put, List.setIfInBounds_toArray, List.set_cons_succ, List.set_cons_zero, List.getElem_toArray, List.getElem_cons_succ, List.getElem_cons_zero]
                refine wpAnyH_take (i := 5) (v := .bool (decide (c.place > 0))) rfl (by kernel_rfl) (by kernel_rfl) (by kernel_rfl) (fun _ _ _ h => nomatch h.1) (.inl ⟨by simp [Region.wanted, yielded], fun _ _ => by simp [go_sem]⟩) (by first | exact c2 | simp [go_sem, c2, n6, n7]) ?_
                simp only [Act.put, List.setIfInBounds_toArray, List.set_cons_succ, List.set_cons_zero, List.getElem_toArray, List.getElem_cons_succ, List.getElem_cons_zero]
                refine wpAnyH_ready (rs := [6]) (by kernel_rfl) (by simp) ?_
                refine AllReadyH.cons rfl (fun K' hK => ?_) AllReadyH.nil
                go_simp
                refine hK.out _ _ (by first | exact c2 | simp [go_sem, c2, n6, n7]) (fun _ => ?_)
                clear hK
                refine wpAnyH_take (i := 7) (v := .bool false) rfl (by kernel_rfl) (by kernel_rfl) (by kernel_rfl) (fun _ _ _ h => nomatch h.1) (.inl ⟨rfl, fun _ _ => rfl⟩) (by first | exact c2 | simp [go_sem, c2, n6, n7]) ?_
                simp only [Act.put, List.setIfInBounds_toArray, List.set_cons_succ, List.set_cons_zero, List.getElem_toArray, List.getElem_cons_succ, List.getElem_cons_zero]
                refine wpAnyH_take (i := 8) (v := .pointer (some ⟨b6, 2, none⟩)) rfl (by kernel_rfl) (by kernel_rfl) (by kernel_rfl) (fun _ _ _ h => nomatch h.1) (.inl ⟨by simp [Region.wanted, yielded], fun _ _ => rfl⟩) (by first | exact c2 | simp [go_sem, c2, n6, n7]) ?_
                simp only [Act.put, List.setIfInBounds_toArray, List.set_cons_succ, List.set_cons_zero, List.getElem_toArray, List.getElem_cons_succ, List.getElem_cons_zero]
                refine wpAnyH_take (i := 9) (v := .int .i64 c.place) rfl (by kernel_rfl) (by kernel_rfl) (by kernel_rfl) (fun _ _ _ h => nomatch h.1) (.inl ⟨by simp [Region.wanted, yielded], fun w' hS => by simp [go_sem, hS]⟩) (by first | exact c2 | simp [go_sem, c2, n6, n7]) ?_
                simp only [Act.put, List.setIfInBounds_toArray, List.set_cons_succ, List.set_cons_zero, List.getElem_toArray, List.getElem_cons_succ, List.getElem_cons_zero]
                refine wpAnyH_take (i := 10) (v := .bool (c.place == 0)) rfl (by kernel_rfl) (by kernel_rfl) (by kernel_rfl) (fun _ _ _ h => nomatch h.1) (.inl ⟨by simp [Region.wanted, yielded], fun _ _ => rfl⟩) (by first | exact c2 | simp [go_sem, c2, n6, n7]) ?_
                simp only [Act.put, List.setIfInBounds_toArray, List.set_cons_succ, List.set_cons_zero, List.getElem_toArray, List.getElem_cons_succ, List.getElem_cons_zero]
                refine wpAnyH_take (i := 11) (v := .bool (c.place == 0)) rfl (by kernel_rfl) (by kernel_rfl) (by kernel_rfl) (fun _ _ _ h => nomatch h.1) (.inl ⟨by simp [Region.wanted, yielded], fun _ _ => by simp [go_sem]⟩) (by first | exact c2 | simp [go_sem, c2, n6, n7]) ?_
                simp only [Act.put, List.setIfInBounds_toArray, List.set_cons_succ, List.set_cons_zero, List.getElem_toArray, List.getElem_cons_succ, List.getElem_cons_zero]
                refine wpAnyH_ready (rs := [12]) (by kernel_rfl) (by simp) ?_
                refine AllReadyH.cons rfl (fun K' hK => ?_) AllReadyH.nil
                go_simp
                refine hK.out _ _ (by first | exact c2 | simp [go_sem, c2, n6, n7]) (fun _ => ?_)
                clear hK
                refine wpAnyH_ready (rs := [13]) (by kernel_rfl) (by simp) ?_
                refine AllReadyH.cons rfl (fun K' hK => ?_) AllReadyH.nil
                go_simp
                refine hK.out _ _ (by first | exact c2 | simp [go_sem, c2, n6, n7]) (fun _ => ?_)
                clear hK
                exact wpAnyH_done (by kernel_rfl) ⟨rfl, ⟨_, _, _, _, _, _, _, _, _, _, _, _, rfl⟩, rfl⟩ _
              refine AllReadyH.cons rfl (fun K' hK => ?_) ?_
              · go_simp
                refine hK.out _ _ (by first | exact c2 | simp [go_sem, c2, n6, n7]) (fun _ => ?_)
                clear hK
                refine wpAnyH_ready (rs := [0]) (by kernel_rfl) (by simp) ?_
                refine AllReadyH.cons rfl (fun K' hK => ?_) AllReadyH.nil
                go_simp
                refine hK.out _ _ (by first | exact c2 | simp [go_sem, c2, n6, n7]) (fun _ => ?_)
                clear hK
                refine wpAnyH_take (i := 1) (v := .bool false) rfl (by kernel_rfl) (by kernel_rfl) (by kernel_rfl) (fun _ _ _ h => nomatch h.1) (.inl ⟨rfl, fun _ _ => rfl⟩) (by first | exact c2 | simp [go_sem, c2, n6, n7]) ?_
                simp only [Act.put, List.setIfInBounds_toArray, List.set_cons_succ, List.set_cons_zero, List.getElem_toArray, List.getElem_cons_succ, List.getElem_cons_zero]
                refine wpAnyH_take (i := 2) (v := .pointer (some ⟨b6, 2, none⟩)) rfl (by kernel_rfl) (by kernel_rfl) (by kernel_rfl) (fun _ _ _ h => nomatch h.1) (.inl ⟨by simp [Region.wanted, yielded], fun _ _ => rfl⟩) (by first | exact c2 | simp [go_sem, c2, n6, n7]) ?_
                simp only [Act.put, List.setIfInBounds_toArray, List.set_cons_succ, List.set_cons_zero, List.getElem_toArray, List.getElem_cons_succ, List.getElem_cons_zero]
                refine wpAnyH_take (i := 3) (v := .int .i64 c.place) rfl (by kernel_rfl) (by kernel_rfl) (by kernel_rfl) (fun _ _ _ h => nomatch h.1) (.inl ⟨by simp [Region.wanted, yielded], fun w' hS => by simp [go_sem, hS]⟩) (by first | exact c2 | simp [go_sem, c2, n6, n7]) ?_
                simp only [Act.put, List.setIfInBounds_toArray, List.set_cons_succ, List.set_cons_zero, List.getElem_toArray, List.getElem_cons_succ, List.getElem_cons_zero]
                refine wpAnyH_take (i := 4) (v := .bool (decide (c.place > 0))) rfl (by kernel_rfl) (by kernel_rfl) (by kernel_rfl) (fun _ _ _ h => nomatch h.1) (.inl ⟨by simp [Region.wanted, yielded], fun _ _ => rfl⟩) (by first | exact c2 | simp [go_sem, c2, n6, n7]) ?_
                simp only [Act.put, List.setIfInBounds_toArray, List.set_cons_succ, List.set_cons_zero, List.getElem_toArray, List.getElem_cons_succ, List.getElem_cons_zero]
                refine wpAnyH_take (i := 5) (v := .bool (decide (c.place > 0))) rfl (by kernel_rfl) (by kernel_rfl) (by kernel_rfl) (fun _ _ _ h => nomatch h.1) (.inl ⟨by simp [Region.wanted, yielded], fun _ _ => by simp [go_sem]⟩) (by first | exact c2 | simp [go_sem, c2, n6, n7]) ?_
                simp only [Act.put, List.setIfInBounds_toArray, List.set_cons_succ, List.set_cons_zero, List.getElem_toArray, List.getElem_cons_succ, List.getElem_cons_zero]
                refine wpAnyH_take (i := 7) (v := .bool false) rfl (by kernel_rfl) (by kernel_rfl) (by kernel_rfl) (fun _ _ _ h => nomatch h.1) (.inl ⟨rfl, fun _ _ => rfl⟩) (by first | exact c2 | simp [go_sem, c2, n6, n7]) ?_
                simp only [Act.put, List.setIfInBounds_toArray, List.set_cons_succ, List.set_cons_zero, List.getElem_toArray, List.getElem_cons_succ, List.getElem_cons_zero]
                refine wpAnyH_take (i := 8) (v := .pointer (some ⟨b6, 2, none⟩)) rfl (by kernel_rfl) (by kernel_rfl) (by kernel_rfl) (fun _ _ _ h => nomatch h.1) (.inl ⟨by simp [Region.wanted, yielded], fun _ _ => rfl⟩) (by first | exact c2 | simp [go_sem, c2, n6, n7]) ?_
                simp only [Act.put, List.setIfInBounds_toArray, List.set_cons_succ, List.set_cons_zero, List.getElem_toArray, List.getElem_cons_succ, List.getElem_cons_zero]
                refine wpAnyH_take (i := 9) (v := .int .i64 c.place) rfl (by kernel_rfl) (by kernel_rfl) (by kernel_rfl) (fun _ _ _ h => nomatch h.1) (.inl ⟨by simp [Region.wanted, yielded], fun w' hS => by simp [go_sem, hS]⟩) (by first | exact c2 | simp [go_sem, c2, n6, n7]) ?_
                simp only [Act.put, List.setIfInBounds_toArray, List.set_cons_succ, List.set_cons_zero, List.getElem_toArray, List.getElem_cons_succ, List.getElem_cons_zero]
                refine wpAnyH_take (i := 10) (v := .bool (c.place == 0)) rfl (by kernel_rfl) (by kernel_rfl) (by kernel_rfl) (fun _ _ _ h => nomatch h.1) (.inl ⟨by simp [Region.wanted, yielded], fun _ _ => rfl⟩) (by first | exact c2 | simp [go_sem, c2, n6, n7]) ?_
                simp only [Act.put, List.setIfInBounds_toArray, List.set_cons_succ, List.set_cons_zero, List.getElem_toArray, List.getElem_cons_succ, List.getElem_cons_zero]
                refine wpAnyH_take (i := 11) (v := .bool (c.place == 0)) rfl (by kernel_rfl) (by kernel_rfl) (by kernel_rfl) (fun _ _ _ h => nomatch h.1) (.inl ⟨by simp [Region.wanted, yielded], fun _ _ => by simp [go_sem]⟩) (by first | exact c2 | simp [go_sem, c2, n6, n7]) ?_
                simp only [Act.put, List.setIfInBounds_toArray, List.set_cons_succ, List.set_cons_zero, List.getElem_toArray, List.getElem_cons_succ, List.getElem_cons_zero]
                refine wpAnyH_ready (rs := [12]) (by kernel_rfl) (by simp) ?_
                refine AllReadyH.cons rfl (fun K' hK => ?_) AllReadyH.nil
                go_simp
                refine hK.out _ _ (by first | exact c2 | simp [go_sem, c2, n6, n7]) (fun _ => ?_)
                clear hK
                refine wpAnyH_ready (rs := [13]) (by kernel_rfl) (by simp) ?_
                refine AllReadyH.cons rfl (fun K' hK => ?_) AllReadyH.nil
                go_simp
                refine hK.out _ _ (by first | exact c2 | simp [go_sem, c2, n6, n7]) (fun _ => ?_)
                clear hK
                exact wpAnyH_done (by kernel_rfl) ⟨rfl, ⟨_, _, _, _, _, _, _, _, _, _, _, _, rfl⟩, rfl⟩ _
              exact AllReadyH.nil
            · refine wpAnyH_ready (rs := [0, 6]) (by kernel_rfl) (by simp) ?_
              refine AllReadyH.cons rfl (fun K' hK => ?_) ?_
              · go_simp
                refine hK.out _ _ (by first | exact c2 | simp [go_sem, c2, n6, n7]) (fun _ => ?_)
                clear hK
                refine wpAnyH_take (i := 1) (v := .bool false) rfl (by kernel_rfl) (by kernel_rfl) (by kernel_rfl) (fun _ _ _ h => nomatch h.1) (.inl ⟨rfl, fun _ _ => rfl⟩) (by first | exact c2 | simp [go_sem, c2, n6, n7]) ?_
                simp only [Act.put, List.setIfInBounds_toArray, List.set_cons_succ, List.set_cons_zero, List.getElem_toArray, List.getElem_cons_succ, List.getElem_cons_zero]
                refine wpAnyH_take (i := 2) (v := .pointer (some ⟨b6, 2, none⟩)) rfl (by kernel_rfl) (by kernel_rfl) (by kernel_rfl) (fun _ _ _ h => nomatch h.1) (.inl ⟨by simp [Region.wanted, yielded], fun _ _ => rfl⟩) (by first | exact c2 | simp [go_sem, c2, n6, n7]) ?_
                simp only [Act.put, List.setIfInBounds_toArray, List.set_cons_succ, List.set_cons_zero, List.getElem_toArray, List.getElem_cons_succ, List.getElem_cons_zero]
                refine wpAnyH_take (i := 3) (v := .int .i64 c.place) rfl (by kernel_rfl) (by kernel_rfl) (by kernel_rfl) (fun _ _ _ h => nomatch h.1) (.inl ⟨by simp [Region.wanted, yielded], fun w' hS => by simp [go_sem, hS]⟩) (by first | exact c2 | simp [go_sem, c2, n6, n7]) ?_
                simp only [Act.put, List.setIfInBounds_toArray, List.set_cons_succ, List.set_cons_zero, List.getElem_toArray, List.getElem_cons_succ, List.getElem_cons_zero]
                refine wpAnyH_take (i := 4) (v := .bool (decide (c.place > 0))) rfl (by kernel_rfl) (by kernel_rfl) (by kernel_rfl) (fun _ _ _ h => nomatch h.1) (.inl ⟨by simp [Region.wanted, yielded], fun _ _ => rfl⟩) (by first | exact c2 | simp [go_sem, c2, n6, n7]) ?_
                simp only [Act.put, List.setIfInBounds_toArray, List.set_cons_succ, List.set_cons_zero, List.getElem_toArray, List.getElem_cons_succ, List.getElem_cons_zero]
                refine wpAnyH_take (i := 5) (v := .bool (decide (c.place > 0))) rfl (by kernel_rfl) (by kernel_rfl) (by kernel_rfl) (fun _ _ _ h => nomatch h.1) (.inl ⟨by simp [Region.wanted, yielded], fun _ _ => by simp [go_sem]⟩) (by first | exact c2 | simp [go_sem, c2, n6, n7]) ?_
                simp only [Act.put, List.setIfInBounds_toArray, List.set_cons_succ, List.set_cons_zero, List.getElem_toArray, List.getElem_cons_succ, List.getElem_cons_zero]
                refine wpAnyH_ready (rs := [6]) (by kernel_rfl) (by simp) ?_
                refine AllReadyH.cons rfl (fun K' hK => ?_) AllReadyH.nil
                go_simp
                refine hK.out _ _ (by first | exact c2 | simp [go_sem, c2, n6, n7]) (fun _ => ?_)
                clear hK
                refine wpAnyH_take (i := 7) (v := .bool true) rfl (by kernel_rfl) (by kernel_rfl) (by kernel_rfl) (fun _ _ _ h => nomatch h.1) (.inl ⟨rfl, fun _ _ => rfl⟩) (by first | exact c2 | simp [go_sem, c2, n6, n7]) ?_
                simp only [Act.put, List.setIfInBounds_toArray, List.set_cons_succ, List.set_cons_zero, List.getElem_toArray, List.getElem_cons_succ, List.getElem_cons_zero]
                refine wpAnyH_take (i := 8) (v := undef) rfl (by kernel_rfl) (by kernel_rfl) (by kernel_rfl) (fun _ _ _ h => nomatch h.1) (.inr ⟨by simp [Region.wanted, yielded], rfl⟩) (by first | exact c2 | simp [go_sem, c2, n6, n7]) ?_
                simp only [Act.put, List.setIfInBounds_toArray, List.set_cons_succ, List.set_cons_zero, List.getElem_toArray, List.getElem_cons_succ, List.getElem_cons_zero]
                refine wpAnyH_take (i := 9) (v := undef) rfl (by kernel_rfl) (by kernel_rfl) (by kernel_rfl) (fun _ _ _ h => nomatch h.1) (.inr ⟨by simp [Region.wanted, yielded], rfl⟩) (by first | exact c2 | simp [go_sem, c2, n6, n7]) ?_
                simp only [Act.put, List.setIfInBounds_toArray, List.set_cons_succ, List.set_cons_zero, List.getElem_toArray, List.getElem_cons_succ, List.getElem_cons_zero]
                refine wpAnyH_take (i := 10) (v := undef) rfl (by kernel_rfl) (by kernel_rfl) (by kernel_rfl) (fun _ _ _ h => nomatch h.1) (.inr ⟨by simp [Region.wanted, yielded], rfl⟩) (by first | exact c2 | simp [go_sem, c2, n6, n7]) ?_
                simp only [Act.put, List.setIfInBounds_toArray, List.set_cons_succ, List.set_cons_zero, List.getElem_toArray, List.getElem_cons_succ, List.getElem_cons_zero]
                refine wpAnyH_take (i := 11) (v := .bool true) rfl (by kernel_rfl) (by kernel_rfl) (by kernel_rfl) (fun _ _ _ h => nomatch h.1) (.inl ⟨by simp [Region.wanted, yielded], fun _ _ => by simp [go_sem]⟩) (by first | exact c2 | simp [go_sem, c2, n6, n7]) ?_
                simp only [Act.put, List.setIfInBounds_toArray, List.set_cons_succ, List.set_cons_zero, List.getElem_toArray, List.getElem_cons_succ, List.getElem_cons_zero]
                refine wpAnyH_ready (rs := [12]) (by kernel_rfl) (by simp) ?_
                refine AllReadyH.cons rfl (fun K' hK => ?_) AllReadyH.nil
                go_simp
                refine hK.out _ _ (by first | exact c2 | simp [go_sem, c2, n6, n7]) (fun _ => ?_)
                clear hK
                refine wpAnyH_ready (rs := [13]) (by kernel_rfl) (by simp) ?_
                refine AllReadyH.cons rfl (fun K' hK => ?_) AllReadyH.nil
                go_simp
                refine hK.out _ _ (by first | exact c2 | simp [go_sem, c2, n6, n7]) (fun _ => ?_)
                clear hK
                exact wpAnyH_done (by kernel_rfl) ⟨rfl, ⟨_, _, _, _, _, _, _, _, _, _, _, _, rfl⟩, rfl⟩ _
              refine AllReadyH.cons rfl (fun K' hK => ?_) ?_
              · go_simp
                refine hK.out _ _ (by first | exact c2 | simp [go_sem, c2, n6, n7]) (fun _ => ?_)
                clear hK
                refine wpAnyH_ready (rs := [0]) (by kernel_rfl) (by simp) ?_
                refine AllReadyH.cons rfl (fun K' hK => ?_) AllReadyH.nil
                go_simp
                refine hK.out _ _ (by first | exact c2 | simp [go_sem, c2, n6, n7]) (fun _ => ?_)
                clear hK
                refine wpAnyH_take (i := 1) (v := .bool false) rfl (by kernel_rfl) (by kernel_rfl) (by kernel_rfl) (fun _ _ _ h => nomatch h.1) (.inl ⟨rfl, fun _ _ => rfl⟩) (by first | exact c2 | simp [go_sem, c2, n6, n7]) ?_
                simp only [Act.put, List.setIfInBounds_toArray, List.set_cons_succ, List.set_cons_zero, List.getElem_toArray, List.getElem_cons_succ, List.getElem_cons_zero]
                refine wpAnyH_take (i := 2) (v := .pointer (some ⟨b6, 2, none⟩)) rfl (by kernel_rfl) (by kernel_rfl) (by kernel_rfl) (fun _ _ _ h => nomatch h.1) (.inl ⟨by simp [Region.wanted, yielded], fun _ _ => rfl⟩) (by first | exact c2 | simp [go_sem, c2, n6, n7]) ?_
                simp only [Act.put, List.setIfInBounds_toArray, List.set_cons_succ, List.set_cons_zero, List.getElem_toArray, List.getElem_cons_succ, List.getElem_cons_zero]
                refine wpAnyH_take (i := 3) (v := .int .i64 c.place) rfl (by kernel_rfl) (by kernel_rfl) (by kernel_rfl) (fun _ _ _ h => nomatch h.1) (.inl ⟨by simp [Region.wanted, yielded], fun w' hS => by simp [go_sem, hS]⟩) (by first | exact c2 | simp [go_sem, c2, n6, n7]) ?_
                simp only [Act.put, List.setIfInBounds_toArray, List.set_cons_succ, List.set_cons_zero, List.getElem_toArray, List.getElem_cons_succ, List.getElem_cons_zero]
                refine wpAnyH_take (i := 4) (v := .bool (decide (c.place > 0))) rfl (by kernel_rfl) (by kernel_rfl) (by kernel_rfl) (fun _ _ _ h => nomatch h.1) (.inl ⟨by simp [Region.wanted, yielded], fun _ _ => rfl⟩) (by first | exact c2 | simp [go_sem, c2, n6, n7]) ?_
                simp only [Act.put, List.setIfInBounds_toArray, List.set_cons_succ, List.set_cons_zero, List.getElem_toArray, List.getElem_cons_succ, List.getElem_cons_zero]
                refine wpAnyH_take (i := 5) (v := .bool (decide (c.place > 0))) rfl (by kernel_rfl) (by kernel_rfl) (by kernel_rfl) (fun _ _ _ h => nomatch h.1) (.inl ⟨by simp [Region.wanted, yielded], fun _ _ => by simp [go_sem]⟩) (by first | exact c2 | simp [go_sem, c2, n6, n7]) ?_
                simp only [Act.put, List.setIfInBounds_toArray, List.set_cons_succ, List.set_cons_zero, List.getElem_toArray, List.getElem_cons_succ, List.getElem_cons_zero]
                refine wpAnyH_take (i := 7) (v := .bool true) rfl (by kernel_rfl) (by kernel_rfl) (by kernel_rfl) (fun _ _ _ h => nomatch h.1) (.inl ⟨rfl, fun _ _ => rfl⟩) (by first | exact c2 | simp [go_sem, c2, n6, n7]) ?_
                simp only [Act.put, List.setIfInBounds_toArray, List.set_cons_succ, List.set_cons_zero, List.getElem_toArray, List.getElem_cons_succ, List.getElem_cons_zero]
                refine wpAnyH_take (i := 8) (v := undef) rfl (by kernel_rfl) (by kernel_rfl) (by kernel_rfl) (fun _ _ _ h => nomatch h.1) (.inr ⟨by simp [Region.wanted, yielded], rfl⟩) (by first | exact c2 | simp [go_sem, c2, n6, n7]) ?_
                simp only [Act.put, List.setIfInBounds_toArray, List.set_cons_succ, List.set_cons_zero, List.getElem_toArray, List.getElem_cons_succ, List.getElem_cons_zero]
                refine wpAnyH_take (i := 9) (v := undef) rfl (by kernel_rfl) (by kernel_rfl) (by kernel_rfl) (fun _ _ _ h => nomatch h.1) (.inr ⟨by simp [Region.wanted, yielded], rfl⟩) (by first | exact c2 | simp [go_sem, c2, n6, n7]) ?_
                simp only [Act.put, List.setIfInBounds_toArray, List.set_cons_succ, List.set_cons_zero, List.getElem_toArray, List.getElem_cons_succ, List.getElem_cons_zero]
                refine wpAnyH_take (i := 10) (v := undef) rfl (by kernel_rfl) (by kernel_rfl) (by kernel_rfl) (fun _ _ _ h => nomatch h.1) (.inr ⟨by simp [Region.wanted, yielded], rfl⟩) (by first | exact c2 | simp [go_sem, c2, n6, n7]) ?_
                simp only [Act.put, List.setIfInBounds_toArray, List.set_cons_succ, List.set_cons_zero, List.getElem_toArray, List.getElem_cons_succ, List.getElem_cons_zero]
                refine wpAnyH_take (i := 11) (v := .bool true) rfl (by kernel_rfl) (by kernel_rfl) (by kernel_rfl) (fun _ _ _ h => nomatch h.1) (.inl ⟨by simp [Region.wanted, yielded], fun _ _ => by simp [go_sem]⟩) (by first | exact c2 | simp [go_sem, c2, n6, n7]) ?_
                simp only [Act.put, List.setIfInBounds_toArray, List.set_cons_succ, List.set_cons_zero, List.getElem_toArray, List.getElem_cons_succ, List.getElem_cons_zero]
                refine wpAnyH_ready (rs := [12]) (by kernel_rfl) (by simp) ?_
                refine AllReadyH.cons rfl (fun K' hK => ?_) AllReadyH.nil
                go_simp
                refine hK.out _ _ (by first | exact c2 | simp [go_sem, c2, n6, n7]) (fun _ => ?_)
                clear hK
                refine wpAnyH_ready (rs := [13]) (by kernel_rfl) (by simp) ?_
                refine AllReadyH.cons rfl (fun K' hK => ?_) AllReadyH.nil
                go_simp
                refine hK.out _ _ (by first | exact c2 | simp [go_sem, c2, n6, n7]) (fun _ => ?_)
                clear hK
                exact wpAnyH_done (by kernel_rfl) ⟨rfl, ⟨_, _, _, _, _, _, _, _, _, _, _, _, rfl⟩, rfl⟩ _
              exact AllReadyH.nil
          · cases ot
            · refine wpAnyH_ready (rs := [0, 6]) (by kernel_rfl) (by simp) ?_
              refine AllReadyH.cons rfl (fun K' hK => ?_) ?_
              · go_simp
                refine hK.out _ _ (by first | exact c2 | simp [go_sem, c2, n6, n7]) (fun _ => ?_)
                clear hK
                refine wpAnyH_take (i := 1) (v := .bool true) rfl (by kernel_rfl) (by kernel_rfl) (by kernel_rfl) (fun _ _ _ h => nomatch h.1) (.inl ⟨rfl, fun _ _ => rfl⟩) (by first | exact c2 | simp [go_sem, c2, n6, n7]) ?_
                simp only [Act.put, List.setIfInBounds_toArray, List.set_cons_succ, List.set_cons_zero, List.getElem_toArray, List.getElem_cons_succ, List.getElem_cons_zero]
                refine wpAnyH_take (i := 2) (v := undef) rfl (by kernel_rfl) (by kernel_rfl) (by kernel_rfl) (fun _ _ _ h => nomatch h.1) (.inr ⟨by simp [Region.wanted, yielded], rfl⟩) (by first | exact c2 | simp [go_sem, c2, n6, n7]) ?_
                simp only [Act.put, List.setIfInBounds_toArray, List.set_cons_succ, List.set_cons_zero, List.getElem_toArray, List.getElem_cons_succ, List.getElem_cons_zero]
                refine wpAnyH_take (i := 3) (v := undef) rfl (by kernel_rfl) (by kernel_rfl) (by kernel_rfl) (fun _ _ _ h => nomatch h.1) (.inr ⟨by simp [Region.wanted, yielded], rfl⟩) (by first | exact c2 | simp [go_sem, c2, n6, n7]) ?_
                simp only [Act.put, List.setIfInBounds_toArray, List.set_cons_succ, List.set_cons_zero, List.getElem_toArray, List.getElem_cons_succ, List.getElem_cons_zero]
                refine wpAnyH_take (i := 4) (v := undef) rfl (by kernel_rfl) (by kernel_rfl) (by kernel_rfl) (fun _ _ _ h => nomatch h.1) (.inr ⟨by simp [Region.wanted, yielded], rfl⟩) (by first | exact c2 | simp [go_sem, c2, n6, n7]) ?_
                simp only [Act.put, List.setIfInBounds_toArray, List.set_cons_succ, List.set_cons_zero, List.getElem_toArray, List.getElem_cons_succ, List.getElem_cons_zero]
                refine wpAnyH_take (i := 5) (v := .bool true) rfl (by kernel_rfl) (by kernel_rfl) (by kernel_rfl) (fun _ _ _ h => nomatch h.1) (.inl ⟨by simp [Region.wanted, yielded], fun _ _ => by simp [go_sem]⟩) (by first | exact c2 | simp [go_sem, c2, n6, n7]) ?_
                simp only [Act.put, List.setIfInBounds_toArray, List.set_cons_succ, List.set_cons_zero, List.getElem_toArray, List.getElem_cons_succ, List.getElem_cons_zero]
                refine wpAnyH_ready (rs := [6]) (by kernel_rfl) (by simp) ?_
                refine AllReadyH.cons rfl (fun K' hK => ?_) AllReadyH.nil
                go_simp
                refine hK.out _ _ (by first | exact c2 | simp [go_sem, c2, n6, n7]) (fun _ => ?_)
                clear hK
                refine wpAnyH_take (i := 7) (v := .bool false) rfl (by kernel_rfl) (by kernel_rfl) (by kernel_rfl) (fun _ _ _ h => nomatch h.1) (.inl ⟨rfl, fun _ _ => rfl⟩) (by first | exact c2 | simp [go_sem, c2, n6, n7]) ?_
                simp only [Act.put, List.setIfInBounds_toArray, List.set_cons_succ, List.set_cons_zero, List.getElem_toArray, List.getElem_cons_succ, List.getElem_cons_zero]
                refine wpAnyH_take (i := 8) (v := .pointer (some ⟨b6, 2, none⟩)) rfl (by kernel_rfl) (by kernel_rfl) (by kernel_rfl) (fun _ _ _ h => nomatch h.1) (.inl ⟨by simp [Region.wanted, yielded], fun _ _ => rfl⟩) (by first | exact c2 | simp [go_sem, c2, n6, n7]) ?_
                simp only [Act.put, List.setIfInBounds_toArray, List.set_cons_succ, List.set_cons_zero, List.getElem_toArray, List.getElem_cons_succ, List.getElem_cons_zero]
                refine wpAnyH_take (i := 9) (v := .int .i64 c.place) rfl (by kernel_rfl) (by kernel_rfl) (by kernel_rfl) (fun _ _ _ h => nomatch h.1) (.inl ⟨by simp [Region.wanted, yielded], fun w' hS => by simp [go_sem, hS]⟩) (by first | exact c2 | simp [go_sem, c2, n6, n7]) ?_
                simp only [Act.put, List.setIfInBounds_toArray, List.set_cons_succ, List.set_cons_zero, List.getElem_toArray, List.getElem_cons_succ, List.getElem_cons_zero]
                refine wpAnyH_take (i := 10) (v := .bool (c.place == 0)) rfl (by kernel_rfl) (by kernel_rfl) (by kernel_rfl) (fun _ _ _ h => nomatch h.1) (.inl ⟨by simp [Region.wanted, yielded], fun _ _ => rfl⟩) (by first | exact c2 | simp [go_sem, c2, n6, n7]) ?_
                simp only [Act.put, List.setIfInBounds_toArray, List.set_cons_succ, List.set_cons_zero, List.getElem_toArray, List.getElem_cons_succ, List.getElem_cons_zero]
                refine wpAnyH_take (i := 11) (v := .bool (c.place == 0)) rfl (by kernel_rfl) (by kernel_rfl) (by kernel_rfl) (fun _ _ _ h => nomatch h.1) (.inl ⟨by simp [Region.wanted, yielded], fun _ _ => by simp [go_sem]⟩) (by first | exact c2 | simp [go_sem, c2, n6, n7]) ?_
                simp only [Act.put, List.setIfInBounds_toArray, List.set_cons_succ, List.set_cons_zero, List.getElem_toArray, List.getElem_cons_succ, List.getElem_cons_zero]
                refine wpAnyH_ready (rs := [12]) (by kernel_rfl) (by simp) ?_
                refine AllReadyH.cons rfl (fun K' hK => ?_) AllReadyH.nil
                go_simp
                refine hK.out _ _ (by first | exact c2 | simp [go_sem, c2, n6, n7]) (fun _ => ?_)
                clear hK
                refine wpAnyH_ready (rs := [13]) (by kernel_rfl) (by simp) ?_
                refine AllReadyH.cons rfl (fun K' hK => ?_) AllReadyH.nil
                go_simp
                refine hK.out _ _ (by first | exact c2 | simp [go_sem, c2, n6, n7]) (fun _ => ?_)
                clear hK
                exact wpAnyH_done (by kernel_rfl) ⟨rfl, ⟨_, _, _, _, _, _, _, _, _, _, _, _, rfl⟩, rfl⟩ _
              refine AllReadyH.cons rfl (fun K' hK => ?_) ?_
              · go_simp
                refine hK.out _ _ (by first | exact c2 | simp [go_sem, c2, n6, n7]) (fun _ => ?_)
                clear hK
                refine wpAnyH_ready (rs := [0]) (by kernel_rfl) (by simp) ?_
                refine AllReadyH.cons rfl (fun K' hK => ?_) AllReadyH.nil
                go_simp
                refine hK.out _ _ (by first | exact c2 | simp [go_sem, c2, n6, n7]) (fun _ => ?_)
                clear hK
                refine wpAnyH_take (i := 1) (v := .bool true) rfl (by kernel_rfl) (by kernel_rfl) (by kernel_rfl) (fun _ _ _ h => nomatch h.1) (.inl ⟨rfl, fun _ _ => rfl⟩) (by first | exact c2 | simp [go_sem, c2, n6, n7]) ?_
                simp only [Act.put, List.setIfInBounds_toArray, List.set_cons_succ, List.set_cons_zero, List.getElem_toArray, List.getElem_cons_succ, List.getElem_cons_zero]
                refine wpAnyH_take (i := 2) (v := undef) rfl (by kernel_rfl) (by kernel_rfl) (by kernel_rfl) (fun _ _ _ h => nomatch h.1) (.inr ⟨by simp [Region.wanted, yielded], rfl⟩) (by first | exact c2 | simp [go_sem, c2, n6, n7]) ?_
                simp only [Act.put, List.setIfInBounds_toArray, List.set_cons_succ, List.set_cons_zero, List.getElem_toArray, List.getElem_cons_succ, List.getElem_cons_zero]
                refine wpAnyH_take (i := 3) (v := undef) rfl (by kernel_rfl) (by kernel_rfl) (by kernel_rfl) (fun _ _ _ h => nomatch h.1) (.inr ⟨by simp [Region.wanted, yielded], rfl⟩) (by first | exact c2 | simp [go_sem, c2, n6, n7]) ?_
                simp only [Act.put, List.setIfInBounds_toArray, List.set_cons_succ, List.set_cons_zero, List.getElem_toArray, List.getElem_cons_succ, List.getElem_cons_zero]
                refine wpAnyH_take (i := 4) (v := undef) rfl (by kernel_rfl) (by kernel_rfl) (by kernel_rfl) (fun _ _ _ h => nomatch h.1) (.inr ⟨by simp [Region.wanted, yielded], rfl⟩) (by first | exact c2 | simp [go_sem, c2, n6, n7]) ?_
                simp only [Act.put, List.setIfInBounds_toArray, List.set_cons_succ, List.set_cons_zero, List.getElem_toArray, List.getElem_cons_succ, List.getElem_cons_zero]
                refine wpAnyH_take (i := 5) (v := .bool true) rfl (by kernel_rfl) (by kernel_rfl) (by kernel_rfl) (fun _ _ _ h => nomatch h.1) (.inl ⟨by simp [Region.wanted, yielded], fun _ _ => by simp [go_sem]⟩) (by first | exact c2 | simp [go_sem, c2, n6, n7]) ?_
                simp only [Act.put, List.setIfInBounds_toArray, List.set_cons_succ, List.set_cons_zero, List.getElem_toArray, List.getElem_cons_succ, List.getElem_cons_zero]
                refine wpAnyH_take (i := 7) (v := .bool false) rfl (by kernel_rfl) (by kernel_rfl) (by kernel_rfl) (fun _ _ _ h => nomatch h.1) (.inl ⟨rfl, fun _ _ => rfl⟩) (by first | exact c2 | simp [go_sem, c2, n6, n7]) ?_
                simp only [Act.put, List.setIfInBounds_toArray, List.set_cons_succ, List.set_cons_zero, List.getElem_toArray, List.getElem_cons_succ, List.getElem_cons_zero]
                refine wpAnyH_take (i := 8) (v := .pointer (some ⟨b6, 2, none⟩)) rfl (by kernel_rfl) (by kernel_rfl) (by kernel_rfl) (fun _ _ _ h => nomatch h.1) (.inl ⟨by simp [Region.wanted, yielded], fun _ _ => rfl⟩) (by first | exact c2 | simp [go_sem, c2, n6, n7]) ?_
                simp only [Act.put, List.setIfInBounds_toArray, List.set_cons_succ, List.set_cons_zero, List.getElem_toArray, List.getElem_cons_succ, List.getElem_cons_zero]
                refine wpAnyH_take (i := 9) (v := .int .i64 c.place) rfl (by kernel_rfl) (by kernel_rfl) (by kernel_rfl) (fun _ _ _ h => nomatch h.1) (.inl ⟨by simp [Region.wanted, yielded], fun w' hS => by simp [go_sem, hS]⟩) (by first | exact c2 | simp [go_sem, c2, n6, n7]) ?_
                simp only [Act.put, List.setIfInBounds_toArray, List.set_cons_succ, List.set_cons_zero, List.getElem_toArray, List.getElem_cons_succ, List.getElem_cons_zero]
                refine wpAnyH_take (i := 10) (v := .bool (c.place == 0)) rfl (by kernel_rfl) (by kernel_rfl) (by kernel_rfl) (fun _ _ _ h => nomatch h.1) (.inl ⟨by simp [Region.wanted, yielded], fun _ _ => rfl⟩) (by first | exact c2 | simp [go_sem, c2, n6, n7]) ?_
                simp only [Act.put, List.setIfInBounds_toArray, List.set_cons_succ, List.set_cons_zero, List.getElem_toArray, List.getElem_cons_succ, List.getElem_cons_zero]
                refine wpAnyH_take (i := 11) (v := .bool (c.place == 0)) rfl (by kernel_rfl) (by kernel_rfl) (by kernel_rfl) (fun _ _ _ h => nomatch h.1) (.inl ⟨by simp [Region.wanted, yielded], fun _ _ => by simp [go_sem]⟩) (by first | exact c2 | simp [go_sem, c2, n6, n7]) ?_
                simp only [Act.put, List.setIfInBounds_toArray, List.set_cons_succ, List.set_cons_zero, List.getElem_toArray, List.getElem_cons_succ, List.getElem_cons_zero]
                refine wpAnyH_ready (rs := [12]) (by kernel_rfl) (by simp) ?_
                refine AllReadyH.cons rfl (fun K' hK => ?_) AllReadyH.nil
                go_simp
                refine hK.out _ _ (by first | exact c2 | simp [go_sem, c2, n6, n7]) (fun _ => ?_)
                clear hK
                refine wpAnyH_ready (rs := [13]) (by kernel_rfl) (by simp) ?_
                refine AllReadyH.cons rfl (fun K' hK => ?_) AllReadyH.nil
                go_simp
                refine hK.out _ _ (by first | exact c2 | simp [go_sem, c2, n6, n7]) (fun _ => ?_)
                clear hK
                exact wpAnyH_done (by kernel_rfl) ⟨rfl, ⟨_, _, _, _, _, _, _, _, _, _, _, _, rfl⟩, rfl⟩ _
              exact AllReadyH.nil
            · refine wpAnyH_ready (rs := [0, 6]) (by kernel_rfl) (by simp) ?_
              refine AllReadyH.cons rfl (fun K' hK => ?_) ?_
              · go_simp
                refine hK.out _ _ (by first | exact c2 | simp [go_sem, c2, n6, n7]) (fun _ => ?_)
                clear hK
                refine wpAnyH_take (i := 1) (v := .bool true) rfl (by kernel_rfl) (by kernel_rfl) (by kernel_rfl) (fun _ _ _ h => nomatch h.1) (.inl ⟨rfl, fun _ _ => rfl⟩) (by first | exact c2 | simp [go_sem, c2, n6, n7]) ?_
                simp only [Act.put, List.setIfInBounds_toArray, List.set_cons_succ, List.set_cons_zero, List.getElem_toArray, List.getElem_cons_succ, List.getElem_cons_zero]
                refine wpAnyH_take (i := 2) (v := undef) rfl (by kernel_rfl) (by kernel_rfl) (by kernel_rfl) (fun _ _ _ h => nomatch h.1) (.inr ⟨by simp [Region.wanted, yielded], rfl⟩) (by first | exact c2 | simp [go_sem, c2, n6, n7]) ?_
                simp only [Act.put, List.setIfInBounds_toArray, List.set_cons_succ, List.set_cons_zero, List.getElem_toArray, List.getElem_cons_succ, List.getElem_cons_zero]
                refine wpAnyH_take (i := 3) (v := undef) rfl (by kernel_rfl) (by kernel_rfl) (by kernel_rfl) (fun _ _ _ h => nomatch h.1) (.inr ⟨by simp [Region.wanted, yielded], rfl⟩) (by first | exact c2 | simp [go_sem, c2, n6, n7]) ?_
                simp only [Act.put, List.setIfInBounds_toArray, List.set_cons_succ, List.set_cons_zero, List.getElem_toArray, List.getElem_cons_succ, List.getElem_cons_zero]
                refine wpAnyH_take (i := 4) (v := undef) rfl (by kernel_rfl) (by kernel_rfl) (by kernel_rfl) (fun _ _ _ h => nomatch h.1) (.inr ⟨by simp [Region.wanted, yielded], rfl⟩) (by first | exact c2 | simp [go_sem, c2, n6, n7]) ?_
                simp only [Act.put, List.setIfInBounds_toArray, List.set_cons_succ, List.set_cons_zero, List.getElem_toArray, List.getElem_cons_succ, List.getElem_cons_zero]
                refine wpAnyH_take (i := 5) (v := .bool true) rfl (by kernel_rfl) (by kernel_rfl) (by kernel_rfl) (fun _ _ _ h => nomatch h.1) (.inl ⟨by simp [Region.wanted, yielded], fun _ _ => by simp [go_sem]⟩) (by first | exact c2 | simp [go_sem, c2, n6, n7]) ?_
                simp only [Act.put, List.setIfInBounds_toArray, List.set_cons_succ, List.set_cons_zero, List.getElem_toArray, List.getElem_cons_succ, List.getElem_cons_zero]
                refine wpAnyH_ready (rs := [6]) (by kernel_rfl) (by simp) ?_
                refine AllReadyH.cons rfl (fun K' hK => ?_) AllReadyH.nil
                go_simp
                refine hK.out _ _ (by first | exact c2 | simp [go_sem, c2, n6, n7]) (fun _ => ?_)
                clear hK
                refine wpAnyH_take (i := 7) (v := .bool true) rfl (by kernel_rfl) (by kernel_rfl) (by kernel_rfl) (fun _ _ _ h => nomatch h.1) (.inl ⟨rfl, fun _ _ => rfl⟩) (by first | exact c2 | simp [go_sem, c2, n6, n7]) ?_
                simp only [Act.put, List.setIfInBounds_toArray, List.set_cons_succ, List.set_cons_zero, List.getElem_toArray, List.getElem_cons_succ, List.getElem_cons_zero]
                refine wpAnyH_take (i := 8) (v := undef) rfl (by kernel_rfl) (by kernel_rfl) (by kernel_rfl) (fun _ _ _ h => nomatch h.1) (.inr ⟨by simp [Region.wanted, yielded], rfl⟩) (by first | exact c2 | simp [go_sem, c2, n6, n7]) ?_
                simp only [Act.put, List.setIfInBounds_toArray, List.set_cons_succ, List.set_cons_zero, List.getElem_toArray, List.getElem_cons_succ, List.getElem_cons_zero]
                refine wpAnyH_take (i := 9) (v := undef) rfl (by kernel_rfl) (by kernel_rfl) (by kernel_rfl) (fun _ _ _ h => nomatch h.1) (.inr ⟨by simp [Region.wanted, yielded], rfl⟩) (by first | exact c2 | simp [go_sem, c2, n6, n7]) ?_
                simp only [Act.put, List.setIfInBounds_toArray, List.set_cons_succ, List.set_cons_zero, List.getElem_toArray, List.getElem_cons_succ, List.getElem_cons_zero]
                refine wpAnyH_take (i := 10) (v := undef) rfl (by kernel_rfl) (by kernel_rfl) (by kernel_rfl) (fun _ _ _ h => nomatch h.1) (.inr ⟨by simp [Region.wanted, yielded], rfl⟩) (by first | exact c2 | simp [go_sem, c2, n6, n7]) ?_
                simp only [Act.put, List.setIfInBounds_toArray, List.set_cons_succ, List.set_cons_zero, List.getElem_toArray, List.getElem_cons_succ, List.getElem_cons_zero]
                refine wpAnyH_take (i := 11) (v := .bool true) rfl (by kernel_rfl) (by kernel_rfl) (by kernel_rfl) (fun _ _ _ h => nomatch h.1) (.inl ⟨by simp [Region.wanted, yielded], fun _ _ => by simp [go_sem]⟩) (by first | exact c2 | simp [go_sem, c2, n6, n7]) ?_
                simp only [Act.put, List.setIfInBounds_toArray, List.set_cons_succ, List.set_cons_zero, List.getElem_toArray, List.getElem_cons_succ, List.getElem_cons_zero]
                refine wpAnyH_ready (rs := [12]) (by kernel_rfl) (by simp) ?_
                refine AllReadyH.cons rfl (fun K' hK => ?_) AllReadyH.nil
                go_simp
                refine hK.out _ _ (by first | exact c2 | simp [go_sem, c2, n6, n7]) (fun _ => ?_)
                clear hK
                refine wpAnyH_ready (rs := [13]) (by kernel_rfl) (by simp) ?_
                refine AllReadyH.cons rfl (fun K' hK => ?_) AllReadyH.nil
                go_simp
                refine hK.out _ _ (by first | exact c2 | simp [go_sem, c2, n6, n7]) (fun _ => ?_)
                clear hK
                exact wpAnyH_done (by kernel_rfl) ⟨rfl, ⟨_, _, _, _, _, _, _, _, _, _, _, _, rfl⟩, rfl⟩ _
              refine AllReadyH.cons rfl (fun K' hK => ?_) ?_
              · go_simp
                refine hK.out _ _ (by first | exact c2 | simp [go_sem, c2, n6, n7]) (fun _ => ?_)
                clear hK
                refine wpAnyH_ready (rs := [0]) (by kernel_rfl) (by simp) ?_
                refine AllReadyH.cons rfl (fun K' hK => ?_) AllReadyH.nil
                go_simp
                refine hK.out _ _ (by first | exact c2 | simp [go_sem, c2, n6, n7]) (fun _ => ?_)
                clear hK
                refine wpAnyH_take (i := 1) (v := .bool true) rfl (by kernel_rfl) (by kernel_rfl) (by kernel_rfl) (fun _ _ _ h => nomatch h.1) (.inl ⟨rfl, fun _ _ => rfl⟩) (by first | exact c2 | simp [go_sem, c2, n6, n7]) ?_
                simp only [Act.put, List.setIfInBounds_toArray, List.set_cons_succ, List.set_cons_zero, List.getElem_toArray, List.getElem_cons_succ, List.getElem_cons_zero]
                refine wpAnyH_take (i := 2) (v := undef) rfl (by kernel_rfl) (by kernel_rfl) (by kernel_rfl) (fun _ _ _ h => nomatch h.1) (.inr ⟨by simp [Region.wanted, yielded], rfl⟩) (by first | exact c2 | simp [go_sem, c2, n6, n7]) ?_
                simp only [Act.put, List.setIfInBounds_toArray, List.set_cons_succ, List.set_cons_zero, List.getElem_toArray, List.getElem_cons_succ, List.getElem_cons_zero]
                refine wpAnyH_take (i := 3) (v := undef) rfl (by kernel_rfl) (by kernel_rfl) (by kernel_rfl) (fun _ _ _ h => nomatch h.1) (.inr ⟨by simp [Region.wanted, yielded], rfl⟩) (by first | exact c2 | simp [go_sem, c2, n6, n7]) ?_
                simp only [Act.put, List.setIfInBounds_toArray, List.set_cons_succ, List.set_cons_zero, List.getElem_toArray, List.getElem_cons_succ, List.getElem_cons_zero]
                refine wpAnyH_take (i := 4) (v := undef) rfl (by kernel_rfl) (by kernel_rfl) (by kernel_rfl) (fun _ _ _ h => nomatch h.1) (.inr ⟨by simp [Region.wanted, yielded], rfl⟩) (by first | exact c2 | simp [go_sem, c2, n6, n7]) ?_
                simp only [Act.put, List.setIfInBounds_toArray, List.set_cons_succ, List.set_cons_zero, List.getElem_toArray, List.getElem_cons_succ, List.getElem_cons_zero]
                refine wpAnyH_take (i := 5) (v := .bool true) rfl (by kernel_rfl) (by kernel_rfl) (by kernel_rfl) (fun _ _ _ h => nomatch h.1) (.inl ⟨by simp [Region.wanted, yielded], fun _ _ => by simp [go_sem]⟩) (by first | exact c2 | simp [go_sem, c2, n6, n7]) ?_
                simp only [Act.put, List.setIfInBounds_toArray, List.set_cons_succ, List.set_cons_zero, List.getElem_toArray, List.getElem_cons_succ, List.getElem_cons_zero]
                refine wpAnyH_take (i := 7) (v := .bool true) rfl (by kernel_rfl) (by kernel_rfl) (by kernel_rfl) (fun _ _ _ h => nomatch h.1) (.inl ⟨rfl, fun _ _ => rfl⟩) (by first | exact c2 | simp [go_sem, c2, n6, n7]) ?_
                simp only [Act.put, List.setIfInBounds_toArray, List.set_cons_succ, List.set_cons_zero, List.getElem_toArray, List.getElem_cons_succ, List.getElem_cons_zero]
                refine wpAnyH_take (i := 8) (v := undef) rfl (by kernel_rfl) (by kernel_rfl) (by kernel_rfl) (fun _ _ _ h => nomatch h.1) (.inr ⟨by simp [Region.wanted, yielded], rfl⟩) (by first | exact c2 | simp [go_sem, c2, n6, n7]) ?_
                simp only [Act.put, List.setIfInBounds_toArray, List.set_cons_succ, List.set_cons_zero, List.getElem_toArray, List.getElem_cons_succ, List.getElem_cons_zero]
                refine wpAnyH_take (i := 9) (v := undef) rfl (by kernel_rfl) (by kernel_rfl) (by kernel_rfl) (fun _ _ _ h => nomatch h.1) (.inr ⟨by simp [Region.wanted, yielded], rfl⟩) (by first | exact c2 | simp [go_sem, c2, n6, n7]) ?_
                simp only [Act.put, List.setIfInBounds_toArray, List.set_cons_succ, List.set_cons_zero, List.getElem_toArray, List.getElem_cons_succ, List.getElem_cons_zero]
                refine wpAnyH_take (i := 10) (v := undef) rfl (by kernel_rfl) (by kernel_rfl) (by kernel_rfl) (fun _ _ _ h => nomatch h.1) (.inr ⟨by simp [Region.wanted, yielded], rfl⟩) (by first | exact c2 | simp [go_sem, c2, n6, n7]) ?_
                simp only [Act.put, List.setIfInBounds_toArray, List.set_cons_succ, List.set_cons_zero, List.getElem_toArray, List.getElem_cons_succ, List.getElem_cons_zero]
                refine wpAnyH_take (i := 11) (v := .bool true) rfl (by kernel_rfl) (by kernel_rfl) (by kernel_rfl) (fun _ _ _ h => nomatch h.1) (.inl ⟨by simp [Region.wanted, yielded], fun _ _ => by simp [go_sem]⟩) (by first | exact c2 | simp [go_sem, c2, n6, n7]) ?_
                simp only [Act.put, List.setIfInBounds_toArray, List.set_cons_succ, List.set_cons_zero, List.getElem_toArray, List.getElem_cons_succ, List.getElem_cons_zero]
                refine wpAnyH_ready (rs := [12]) (by kernel_rfl) (by simp) ?_
                refine AllReadyH.cons rfl (fun K' hK => ?_) AllReadyH.nil
                go_simp
                refine hK.out _ _ (by first | exact c2 | simp [go_sem, c2, n6, n7]) (fun _ => ?_)
                clear hK
                refine wpAnyH_ready (rs := [13]) (by kernel_rfl) (by simp) ?_
                refine AllReadyH.cons rfl (fun K' hK => ?_) AllReadyH.nil
                go_simp
                refine hK.out _ _ (by first | exact c2 | simp [go_sem, c2, n6, n7]) (fun _ => ?_)
                clear hK
                exact wpAnyH_done (by kernel_rfl) ⟨rfl, ⟨_, _, _, _, _, _, _, _, _, _, _, _, rfl⟩, rfl⟩ _
              exact AllReadyH.nil
        · rintro e a' w' ⟨rfl, ⟨u25, u26, u27, u28, u29, u30, u31, u32, u33, u34, u35, u36, rfl⟩, rfl⟩
          rename_i K hK
          refine hK _ _ ?_
          clear hK
          obtain ⟨pl', hpl'⟩ : ∃ x, x = (pl || decide (c.place > 0)) := ⟨_, rfl⟩
          obtain ⟨ot', hot'⟩ : ∃ x, x = (ot || c.place == 0) := ⟨_, rfl⟩
          have HS2 := HS.out
          rw [if_neg HL0.out, if_neg HL37.out, ← hpl', ← hot'] at HS2
          rw [← hpl', ← hot']
          obtain ⟨W2, hW2⟩ : ∃ W2, W2 = ((W.drew.setCell ⟨a + 1 + 1 + 1, 0, none⟩ (.bool pl')).setCell ⟨a + 1 + 1 + 1 + 1, 0, none⟩ (.bool ot')) := ⟨_, rfl⟩
          have ck : Chg (fun k => k = a + 1 + 1 + 1 ∨ k = a + 1 + 1 + 1 + 1) W W2 := by rw [hW2]; exact ((Chg.refl _ W).drew.setCell _ _ (.inl (.inl rfl))).setCell _ _ (.inl (.inr rfl))
          have fe2 := fe.chg ck (by omega) (by omega) (by omega) (by omega) (by omega) (by omega) (by omega) (by omega) (by omega)
          have tk2 := tk.chg ck (by omega) (by omega) (fun i hi => by omega)
          have p42 : B1 W2 (a + 1 + 1 + 1) pl' := by rw [hW2]; exact (B1.set (w := W.drew) p4).set_ne (by omega)
          have p52 : B1 W2 (a + 1 + 1 + 1 + 1) ot' := by rw [hW2]; exact (B1.set_ne (w := W.drew) p5 (by omega)).set
          have bb2 : BB W2 (a + 1 + 1) w4.heap.size pv bv bt := ⟨(ck.block _ bb.lt (by omega)).trans bb.1, bb.2.1, own_move bb.2.2 (fun i hi => by
            obtain ⟨cells, hc⟩ := own_typed bb.2.2 i hi
            have := own_base bb.2.2 i hi
            exact ck.block i (Array.getElem?_eq_some_iff.1 hc).1 (by omega))⟩
          have hcv2 : CV W2 b6 c := hcv.chg ck (by omega)
          have kh2 : KeepHi w4.heap.size W W2 := ⟨ck.size, fun i h1 h2 _ => ck.block i h2 (by omega)⟩
          have hbw2 : Below b w W2 := hbw.trans (ck.below (by omega) (fun i h => by omega))
          have hle2 : w4.heap.size ≤ W2.heap.size := Nat.le_trans hle ck.size
          rw [← hW2]
          have HS := Lib.hid HS2
          clear hW2 HS2 hpl' hot' c8 c2 c6 c7 d4 d5 f4 f5 c0 fe tk p4 p5 bb hcv hbw ck hsf n6 n7
          have d4 := p42.c
          have d5 := p52.c
          obtain ⟨wi, hwi⟩ : ∃ x, x = c.wide := ⟨_, rfl⟩
          obtain ⟨pr, hpr⟩ : ∃ x, x = c.precise := ⟨_, rfl⟩
          have c6 := hcv2.c6
          have c7 := hcv2.c7
          have c0 := hcv2.c0
          rw [← hwi] at c6 HS
          rw [← hpr] at c7 HS
          clear hwi hpr
          by_cases hbad : (pl' && (ot' || wi || pr)) = true
          · have HE := HS.out
            rw [if_pos hbad] at HE
            have HF := Lib.hid HE
            clear HE HS
            have hpl1 : pl' = true := by revert hbad; cases pl' <;> simp
            subst hpl1
            have hb2 : (ot' || wi || pr) = true := by simpa using hbad
            clear hbad
            have HP1 := Lib.hid (show c.at_ = (p : Int) from hat)
            have HK := Lib.hid kh2
            have HBW := Lib.hid hbw2
            have HFE := Lib.hid fe2
            clear kh2 hbw2 p42 p52 fe2 tk2 bb2 hat
            cases ot' <;> cases wi <;> cases pr
            · cases hb2
            all_goals
              clear hb2
              gi_wp2
              refine ⟨rfl, HK.out, _, _, rfl, HFE.out.sb, HFE.out.at_, HFE.out.er, by decide, ?_, HBW.out⟩
              rw [← HF.out, HP1.out]
          · have HE := HS.out
            rw [if_neg hbad] at HE
            have HF := Lib.hid HE
            clear HE HS
            have hflok := flR_ok hok xs n
            have hfld := filled_calls c (by have := hok.fl; omega) N A b0 n n1 (by omega) v xs hx W2 tk2
            rcases hfl : flR xs c n with ⟨c1, m1, er⟩
            rw [hfl] at hflok hfld
            obtain ⟨⟨w10, w11, p10, p11, pl1, at1, le1, n10⟩, n11⟩ := hflok
            simp only at w10 w11 p10 p11 pl1 at1 le1 n10 n11 hfld
            have hFC : fmC QT xs c n = if er ≠ 0 then (⟨#[]⟩, m1, er) else if (tkR xs (tkI m1 c1.place)).2 ≠ 0 then (⟨#[]⟩, tkN m1 c1.place, (tkR xs (tkI m1 c1.place)).2)
              else ((wrt QT c1 (tkR xs (tkI m1 c1.place)).1).1, tkN m1 c1.place, (wrt QT c1 (tkR xs (tkI m1 c1.place)).1).2) := by unfold fmC; rw [hfl, pl1]
            have HFC := Lib.hid hFC
            have q0 : 0 ≤ c1.place := by omega
            have q9 : c1.place ≤ 99 := by omega
            have PL := Lib.hid pl1
            have LE := Lib.hid le1
            have AT := Lib.hid (at1.trans hat)
            have AT0 := Lib.hid hat
            clear pl1 le1 at1 hat
            have HFLD := Lib.hid hfld
            have e7 : W2.cell? ⟨a, 0, none⟩ = some (.map (some m0)) := cell_of fe2.mp 0 rfl
            have e8 : W2.cell? ⟨a + 1, 0, none⟩ = some (.func (.func 46) #[] #[.pointer (some ⟨N, 0, none⟩), .pointer (some ⟨A, 0, none⟩)]) := cell_of fe2.tk 0 rfl
            have hi11 : (Tryz.prog.info? 51).map (·.size) = some 11 := by kernel_rfl
            have hran := hcv2.range
            have HRAN := Lib.hid hran
            have HBAD := Lib.hid hbad
            obtain ⟨pl'', hpl''⟩ : ∃ x, x = pl' := ⟨_, rfl⟩
            obtain ⟨ot'', hot''⟩ : ∃ x, x = ot' := ⟨_, rfl⟩
            rw [← hpl'', ← hot''] at HF
            rw [← hpl''] at p42
            rw [← hot''] at p52
            clear hpl'' hot''
            have HOK := Lib.hid hok
            have HLET := Lib.hid hlet
            have HQ := Lib.hid (show c.letter = 113 → QuoteOk QT from hqc)
            clear hfl hfld hFC hran hok hlet
            have hcase : pl' = false ∨ (pl' = true ∧ ot' = false ∧ wi = false ∧ pr = false) := by
              have := HBAD.out
              cases pl' <;> cases ot' <;> cases wi <;> cases pr <;> simp_all
            clear hbad
            rcases hcase with rfl | ⟨rfl, rfl, rfl, rfl⟩
            all_goals
              unfold tkF
              gi_wp2_with (first | (refine wpListIn_load_mid rfl 51 _ rfl b6 0 rfl c.cells _ HRAN.out Tryz.underlying51 rfl hi11 ?_))
              refine ⟨trivial, rfl, ?_⟩
              refine (CallsIn.inRound l (callsIn_wide.2 HFLD.out)).mono ?_
              rintro e W3 ⟨rfl, tk3, k3⟩
              have hNb : b0 ≤ N := hNA
              have fe3 := fe2.chg k3 (by omega) (by omega) (by omega) (by omega) (by omega) (by omega) (by omega) (by omega) (by omega)
              have p43 := p42.chg k3 (by omega)
              have p53 := p52.chg k3 (by omega)
              have hcv3 := hcv2.chg k3 (by omega)
              have bb3 : BB W3 (a + 1 + 1) w4.heap.size pv bv bt := ⟨(k3.block _ bb2.lt (by omega)).trans bb2.1, bb2.2.1, own_move bb2.2.2 (fun i hi => by
                obtain ⟨cells, hc⟩ := own_typed bb2.2.2 i hi
                have := own_base bb2.2.2 i hi
                exact k3.block i (Array.getElem?_eq_some_iff.1 hc).1 (by omega))⟩
              have kh3 : KeepHi w4.heap.size W W3 := kh2.trans (keepHi_chg k3 (fun i hi => by omega))
              have hbw3 : Below b w W3 := hbw2.trans (k3.below (by omega) (fun i hi => by omega))
              have hle3 : w4.heap.size ≤ W3.heap.size := Nat.le_trans hle2 k3.size
              clear k3 fe2 tk2 p42 p52 hcv2 bb2 kh2 hbw2 hle2 e7 e8 c0 c6 c7 d4 d5
              obtain ⟨Wb, hst, hCb, kb⟩ := new_conv W3 c1
              have fe4 := fe3.chg kb (fun h => h) (fun h => h) (fun h => h) (fun h => h) (fun h => h) (fun h => h) (fun h => h) (fun h => h) (by omega)
              have tk4 := tk3.chg kb (fun h => h) (fun h => h) (fun _ _ h => h)
              have p44 := p43.chg kb (fun h => h)
              have p54 := p53.chg kb (fun h => h)
              have hcv4 := hcv3.chg kb (fun h => h)
              have bb4 : BB Wb (a + 1 + 1) w4.heap.size pv bv bt := ⟨(kb.block _ bb3.lt (fun h => h)).trans bb3.1, bb3.2.1, own_move bb3.2.2 (fun i hi => by
                obtain ⟨cells, hc⟩ := own_typed bb3.2.2 i hi
                exact kb.block i (Array.getElem?_eq_some_iff.1 hc).1 (fun h => h))⟩
              have kh4 : KeepHi w4.heap.size W Wb := kh3.trans (keepHi_chg kb (fun i hi => hi.elim))
              have hbw4 : Below b w Wb := hbw3.trans (kb.below (by omega) (fun i hi => hi.elim))
              have hle4 : w4.heap.size ≤ Wb.heap.size := Nat.le_trans hle3 kb.size
              have hCge : w4.heap.size ≤ W3.heap.size := hle3
              clear kb fe3 tk3 p43 p53 hcv3 bb3 kh3 hbw3 hle3
              have c0 := hCb.c0
              have c2 := hCb.c2
              by_cases hz0 : er = 0
              · subst hz0
                have HFC2 := Lib.hid (show fmC QT xs c n = if (tkR xs (tkI m1 c1.place)).2 ≠ 0 then (⟨#[]⟩, tkN m1 c1.place, (tkR xs (tkI m1 c1.place)).2) else ((wrt QT c1 (tkR xs (tkI m1 c1.place)).1).1, tkN m1 c1.place, (wrt QT c1 (tkR xs (tkI m1 c1.place)).1).2) by rw [HFC.out, if_neg (by simp)])
                have e8 : Wb.cell? ⟨a + 1, 0, none⟩ = some (.func (.func 46) #[] #[.pointer (some ⟨N, 0, none⟩), .pointer (some ⟨A, 0, none⟩)]) := cell_of fe4.tk 0 rfl
                have htk := taken1_calls N A b0 c1.place (by omega) (by omega) m1 (by omega) (by omega) v xs Wb tk4
                rcases hta : tkR xs (tkI m1 c1.place) with ⟨x, e2⟩
                have hxs := tkR_size hx (tkI m1 c1.place)
                have hec := tkR_code xs (tkI m1 c1.place)
                rw [hta] at htk hxs hec
                simp only at htk hxs hec
                have HFC3 := Lib.hid (show fmC QT xs c n = if e2 ≠ 0 then (⟨#[]⟩, tkN m1 c1.place, e2) else ((wrt QT c1 x).1, tkN m1 c1.place, (wrt QT c1 x).2) by rw [HFC2.out, hta])
                have HTK := Lib.hid htk
                have htn : m1 ≤ tkN m1 c1.place ∧ tkN m1 c1.place ≤ m1 + 1 := by unfold tkN; split <;> omega
                clear hta htk
                gi_wp2
                refine ⟨trivial, rfl, ?_⟩
                refine (CallsIn.inRound l (callsIn_wide.2 HTK.out)).mono ?_
                rintro e W5 ⟨rfl, tk5, k5⟩
                have fe5 := fe4.chg k5 (by omega) (by omega) (by omega) (by omega) (by omega) (by omega) (by omega) (by omega) (by omega)
                have p45 := p44.chg k5 (by omega)
                have p55 := p54.chg k5 (by omega)
                have hcv5 := hcv4.chg k5 (by omega)
                have hCb5 := hCb.chg k5 (by omega)
                have bb5 : BB W5 (a + 1 + 1) w4.heap.size pv bv bt := ⟨(k5.block _ bb4.lt (by omega)).trans bb4.1, bb4.2.1, own_move bb4.2.2 (fun i hi => by
                  obtain ⟨cells, hc⟩ := own_typed bb4.2.2 i hi
                  have := own_base bb4.2.2 i hi
                  exact k5.block i (Array.getElem?_eq_some_iff.1 hc).1 (by omega))⟩
                have kh5 : KeepHi w4.heap.size W W5 := kh4.trans (keepHi_chg k5 (fun i hi => by omega))
                have hbw5 : Below b w W5 := hbw4.trans (k5.below (by omega) (fun i hi => by omega))
                have hle5 : w4.heap.size ≤ W5.heap.size := Nat.le_trans hle4 k5.size
                clear k5 fe4 tk4 p44 p54 hcv4 hCb bb4 kh4 hbw4 hle4 e8 c0 c2 hst HTK
                have c0 := hCb5.c0
                have c8 := hCb5.c8
                rcases hec with rfl | rfl
                · have e7 : W5.cell? ⟨a, 0, none⟩ = some (.map (some m0)) := cell_of fe5.mp 0 rfl
                  have hlet1 : LetW c1.letter := by
                    rw [LE.out]
                    rcases HLET.out with h | h | h
                    · exact absurd h HL0.out
                    · exact absurd h HL37.out
                    · exact h
                  have hlk := fe5.wm.look c1.letter hlet1
                  have hen := wr_enters c1.letter
                  have hfl64 := fld64 (wrF c1.letter) W5
                  have hq1 : c1.letter = 113 → QuoteOk QT := fun h => HQ.out (by rw [← LE.out]; exact h)
                  have hwc := wr_calls QT c1 hlet1 hq1 (by omega) (by omega) (by omega) (by omega) x hxs W5
                  have hws := wrt_size QT hQ c1 (by omega) (by omega) x hxs
                  have HRAN5 := Lib.hid hCb5.range
                  rcases hwr : wrt QT c1 x with ⟨y0, e3⟩
                  rw [hwr] at hwc hws
                  simp only at hwc hws
                  have HFC4 := Lib.hid (show fmC QT xs c n = (y0, tkN m1 c1.place, e3) by rw [HFC3.out, hwr]; rfl)
                  have HWC := Lib.hid hwc
                  have HWS := Lib.hid hws
                  clear hwr hwc hws hlet1 hq1
                  gi_wp2_with (first | (refine wpListIn_load_mid rfl 51 _ rfl W3.heap.size 0 rfl c1.cells _ HRAN5.out Tryz.underlying51 rfl hi11 ?_))
                  refine ⟨trivial, rfl, ?_⟩
                  refine (CallsIn.inRound l (callsIn_wide.2 HWC.out)).mono ?_
                  rintro e W6 ⟨rfl, k6⟩
                  have fe6 := fe5.chg k6 (fun h => h) (fun h => h) (fun h => h) (fun h => h) (fun h => h) (fun h => h) (fun h => h) (fun h => h) (by omega)
                  have tk6 := tk5.chg k6 (fun h => h) (fun h => h) (fun _ _ h => h)
                  have p46 := p45.chg k6 (fun h => h)
                  have p56 := p55.chg k6 (fun h => h)
                  have hcv6 := hcv5.chg k6 (fun h => h)
                  have hCb6 := hCb5.chg k6 (fun h => h)
                  have bb6 : BB W6 (a + 1 + 1) w4.heap.size pv bv bt := ⟨(k6.block _ bb5.lt (fun h => h)).trans bb5.1, bb5.2.1, own_move bb5.2.2 (fun i hi => by
                    obtain ⟨cells, hc⟩ := own_typed bb5.2.2 i hi
                    exact k6.block i (Array.getElem?_eq_some_iff.1 hc).1 (fun h => h))⟩
                  have kh6 : KeepHi w4.heap.size W W6 := kh5.trans (keepHi_chg k6 (fun i hi => hi.elim))
                  have hbw6 : Below b w W6 := hbw5.trans (k6.below (by omega) (fun i hi => hi.elim))
                  have hle6 : w4.heap.size ≤ W6.heap.size := Nat.le_trans hle5 k6.size
                  clear k6 fe5 tk5 p45 p55 hcv5 hCb5 bb5 kh5 hbw5 hle5 e7 c0 c8 hlk hen hfl64 HRAN5 HRAN
                  have c0 := hCb6.c0
                  by_cases hz3 : e3 = 0
                  · subst hz3
                    have hg0 : ((0 : Int) != 0) = false := rfl
                    have HF2 := Lib.hid (show (if 65536 < (bt ++ y0).size then ((⟨#[]⟩, (p : Int), 4) : ByteArray × Int × Int) else fmR QT s xs q (bt ++ y0) pl'' ot'' (tkN m1 c1.place)) = fmt QT s xs by have := HF.out; rw [HFC4.out, if_neg (by simp)] at this; exact this)
                    have hws2 := WriteString_calls (a + 1 + 1) w4.heap.size pv bv bt y0 (by omega) (by have := HWS.out; omega) W6 bb6 hle6
                    have HWS2 := Lib.hid hws2
                    clear c0 hws2 HFC HFC2 HFC3 HFC4 HF
                    gi_wp2
                    refine ⟨trivial, rfl, ?_⟩
                    refine (CallsIn.inRound l (callsIn_wide.2 HWS2.out)).mono ?_
                    rintro e W7 ⟨rfl, v', bb7, k7⟩
                    have hrow : ∀ i, bv.ownBlock = some i → w4.heap.size ≤ i := fun i h => own_base bb6.2.2 i h
                    have hlow : ∀ i, i < w4.heap.size → i ≠ a + 1 + 1 → ¬ (i = a + 1 + 1 ∨ bv.ownBlock = some i) := fun i h1 h2 h => h.elim h2 (fun h => by have := hrow i h; omega)
                    have fe7 := fe6.chg k7 (hlow _ (by omega) (by omega)) (hlow _ (by omega) (by omega)) (hlow _ (by omega) (by omega)) (hlow _ (by omega) (by omega)) (hlow _ (by omega) (by omega)) (hlow _ (by omega) (by omega)) (hlow _ (by omega) (by omega)) (hlow _ (by omega) (by omega)) (by omega)
                    have tk7 := tk6.chg k7 (hlow _ (by omega) (by omega)) (hlow _ (by omega) (by omega)) (fun i hi => hlow _ (by omega) (by omega))
                    have p47 : B1 W7 (a + 1 + 1 + 1) pl'' := p46.chg k7 (hlow _ (by omega) (by omega))
                    have p57 : B1 W7 (a + 1 + 1 + 1 + 1) ot'' := p56.chg k7 (hlow _ (by omega) (by omega))
                    have hcv7 : CV W7 b6 c := hcv6.chg k7 (by
                      rintro (h | h)
                      · omega
                      · obtain ⟨cells, hc⟩ := own_typed bb6.2.2 b6 h
                        unfold CV at hcv6
                        rw [hc] at hcv6
                        injection hcv6 with hcv6
                        injection hcv6 with _ hcv6
                        exact absurd hcv6 (by decide))
                    have kh7 : KeepHi w4.heap.size W W7 := kh6.trans ⟨k7.size, fun i h1 h2 h3 => k7.block i h2 (by
                      rintro (h | h)
                      · omega
                      · obtain ⟨cells, hc⟩ := own_typed bb6.2.2 i h
                        exact h3 ⟨cells, 5, (0, 0), hc, .inr rfl⟩)⟩
                    have hbw7 : Below b w W7 := hbw6.trans (k7.below (by omega) (fun i hi => hi.elim (fun h => by omega) (fun h => by have := hrow i h; omega)))
                    obtain ⟨y, hy⟩ : ∃ y, y = bt ++ y0 := ⟨_, rfl⟩
                    rw [← hy] at bb7 HF2
                    clear fe6 tk6 p46 p56 hcv6 hCb6 bb6 kh6 hbw6 hle6 hrow hlow k7 hy HWS2 HWS HWC
                    have c8 := hcv7.c8
                    have c0 := hcv7.c0
                    have hlen := Len_calls (a + 1 + 1) w4.heap.size _ v' y W7 bb7 (by omega)
                    have HL := Lib.hid hlen
                    clear hlen
                    gi_wp2
                    refine ⟨trivial, rfl, ?_⟩
                    refine (CallsIn.inRound l (callsIn_wide.2 HL.out)).mono ?_
                    rintro e W8 ⟨rfl, rfl⟩
                    by_cases hbig : 65536 < y.size
                    · have g3 : decide ((65536 : Int) < (y.size : Int)) = true := by simp only [decide_eq_true_eq]; omega
                      have HS3 := Lib.hid (show ((⟨#[]⟩, (p : Int), 4) : ByteArray × Int × Int) = fmt QT s xs by have := HF2.out; rw [if_pos hbig] at this; exact this)
                      have g4 : ((65536 : Int) < (y.size : Int)) = True := by simp; omega
                      clear hbig
                      gi_wp2
                      refine ⟨trivial, rfl, ?_⟩
                      refine (CallsIn.inRound l (callsIn_wide.2 HL.out)).mono ?_
                      rintro e W9 ⟨rfl, rfl⟩
                      gi_wp2
                      refine ⟨rfl, kh7, _, _, rfl, fe7.sb, fe7.at_, fe7.er, by decide, ?_, hbw7⟩
                      rw [← HS3.out, AT0.out]
                    · have g3 : decide ((65536 : Int) < (y.size : Int)) = false := by simp only [decide_eq_false_iff_not]; omega
                      have g4 : ((65536 : Int) < (y.size : Int)) = False := by simp; omega
                      have HS3 := Lib.hid (show fmR QT s xs q y pl'' ot'' (tkN m1 c1.place) = fmt QT s xs by have := HF2.out; rw [if_neg hbig] at this; exact this)
                      have hk : y.size ≤ 65536 := by omega
                      have HK := Lib.hid hk
                      clear hbig hk
                      gi_wp2
                      refine ⟨trivial, rfl, ?_⟩
                      refine (CallsIn.inRound l (callsIn_wide.2 HL.out)).mono ?_
                      rintro e W9 ⟨rfl, rfl⟩
                      gi_wp2
                      exact ⟨kh7, y, pl'', ot'', tkN m1 c1.place, _, v', fe7, tk7, bb7, p47, p57, HK.out, by omega, by omega, HS3.out, hbw7⟩
                  · have hg0 : (e3 != 0) = true := by simpa using hz3
                    have HNZ := Lib.hid hz3
                    clear hz3
                    gi_wp2
                    refine ⟨rfl, kh6, _, _, rfl, fe6.sb, fe6.at_, fe6.er, HNZ.out, ?_, hbw6⟩
                    have := HF.out
                    rw [HFC4.out, if_pos HNZ.out] at this
                    rw [← this, AT.out]
                · have hz8 : ((8 : Int) ≠ 0) := by decide
                  gi_wp2
                  refine ⟨rfl, kh5, _, _, rfl, fe5.sb, fe5.at_, fe5.er, hz8, ?_, hbw5⟩
                  have := HF.out
                  rw [HFC3.out, if_pos hz8, if_pos hz8] at this
                  rw [← this, AT.out]
              · have hg0 : (er == 0) = false := by simpa using hz0
                have hg1 : (er != 0) = true := by simpa using hz0
                have HNZ := Lib.hid hz0
                clear hz0 c2
                gi_wp2
                refine ⟨rfl, kh4, _, _, rfl, fe4.sb, fe4.at_, fe4.er, HNZ.out, ?_, hbw4⟩
                have := HF.out
                rw [HFC.out, if_pos HNZ.out, if_pos HNZ.out] at this
                rw [← this, AT.out]
  · rintro W ⟨bt, pl, ot, n, pv, bv, fe, tk, bb, p4, p5, n0, n1, n2, hf, hbw⟩ hle hD
    rw [fmR_end] at hf
    have HR := Lib.hid hf.symm
    have HD := Lib.hid hD
    have hlt : w4.heap.size < W.heap.size := (Array.getElem?_eq_some_iff.1 hD).1
    clear hD hf
    show wpV _ _ _ _ _ _
    refine wpV_of_wpIn ?_
    refine (wpIn_wide (n := 0)).2 ?_
    have hstr := String_calls (a + 1 + 1) w4.heap.size pv bv bt W bb (by omega)
    have HSTR := Lib.hid hstr
    have HZ := Lib.hid hz
    clear hstr hz
    go_wp2_with fail
    refine HSTR.out.mono ?_
    rintro e W1 ⟨rfl, kb, ko⟩
    have hz := HZ.out
    have l4 : SB W1 b ⟨#[]⟩ := (kb.block b (by omega)).trans fe.sb
    have l5 : I1 W1 (b + 1) 3 0 := (kb.block (b + 1) (by omega)).trans fe.at_
    have l6 : I1 W1 (b + 1 + 1) 25 0 := (kb.block (b + 1 + 1) (by omega)).trans fe.er
    have hD1 : W1.heap[w4.heap.size]? = some (.deferred (some [])) := ko _ _ HD.out (by simp; omega) (by intro c f h; cases h)
    have hbw1 : Below b w W1 := hbw.trans (kb.mono (by omega))
    have c4 := l4.c
    have c5 := l5.c
    have c6 := l6.c
    have f4 := blk_frozen l4 0
    have f5 := blk_frozen l5 0
    have f6 := blk_frozen l6 0
    clear hz fe tk bb p4 p5 kb ko
    go_wp2_with fail
    obtain ⟨W4, hW4⟩ : ∃ W4, W4 = ((W1.setCell ⟨b, 0, none⟩ (.string bt)).setCell ⟨b + 1, 0, none⟩ (.int .i64 0)).setCell ⟨b + 1 + 1, 0, none⟩ (.int .i64 0) := ⟨_, rfl⟩
    have hkp : ∀ i, i ≠ b → i ≠ b + 1 → i ≠ b + 1 + 1 → W4.heap[i]? = W1.heap[i]? := fun i h1 h2 h3 => by
      rw [hW4]; exact (Below.heap_setCell _ _ _ i h3).trans ((Below.heap_setCell _ _ _ i h2).trans (Below.heap_setCell _ _ _ i h1))
    have r4 : SB W4 b bt := by rw [hW4]; exact (Below.heap_setCell _ _ _ b (by simp; omega)).trans ((Below.heap_setCell _ _ _ b (by simp)).trans l4.set)
    have r5 : I1 W4 (b + 1) 3 0 := by rw [hW4]; exact I1.set_ne (c := b + 1 + 1) (I1.set (I1.set_ne (c := b) l5 (by omega))) (by omega)
    have r6 : I1 W4 (b + 1 + 1) 25 0 := by rw [hW4]; exact I1.set (I1.set_ne (c := b + 1) (I1.set_ne (c := b) l6 (by omega)) (by omega))
    have hb4 : Below b w W4 := by
      rw [hW4]
      exact ((hbw1.setCell (p := ⟨b, 0, none⟩) (Nat.le_refl _) _).setCell (p := ⟨b + 1, 0, none⟩) (by simp) _).setCell (p := ⟨b + 1 + 1, 0, none⟩) (by simp; omega) _
    have hz := HZ.out
    have hD4 : W4.heap[w4.heap.size]? = some (.deferred (some [])) := (hkp _ (by omega) (by omega) (by omega)).trans hD1
    show LeavesInM _ _ _ _ _ _ _ _ _
    rw [← hW4]
    clear hW4 l4 l5 l6 c4 c5 c6 f4 f5 f6
    refine leave_mark (by intro h; cases h) hD4 ?_
    have hk4 := chg_of_mark (r := w4.heap.size) hb4 HB.out (by omega) (.deferred none)
    have hot : ∀ i, i ≠ w4.heap.size → (W4.putObj w4.heap.size (.deferred none)).heap[i]? = W4.heap[i]? := fun i hi => World.putObj_heap_other hi
    obtain ⟨W5, hW5⟩ : ∃ W5, W5 = W4.putObj w4.heap.size (.deferred none) := ⟨_, rfl⟩
    rw [← hW5] at hk4 hot ⊢
    clear hW5
    have s4 : SB W5 b bt := (hot b (by omega)).trans r4
    have s5 : I1 W5 (b + 1) 3 0 := (hot (b + 1) (by omega)).trans r5
    have s6 : I1 W5 (b + 1 + 1) 25 0 := (hot (b + 1 + 1) (by omega)).trans r6
    refine leavesM_cons (by intro h; cases h) (by simp [invoke, go_sem]) ((caughtIn_idle (b + 1) (b + 1 + 1) _).mono ?_)
    rintro e u' w5 ⟨rfl, rfl, k5⟩
    refine leavesM_cons (by intro h; cases h) (by simp [invoke, go_sem]) ((zeroed18 b (b + 1 + 1) _ 0 _ _ (by omega) (s4.chg k5 (fun h => h)) (s6.chg k5 (fun h => h))).mono ?_)
    rintro e u' w6 ⟨rfl, rfl, k6, t4⟩
    rw [if_pos rfl] at t4
    have k56 : Chg (fun _ => False) w w6 := (hk4.trans k5).trans' k6 (by rintro i h; exact .inr (by have := HB.out; omega))
    have t5 := (s5.chg k5 (fun h => h)).chg k6 (by omega)
    have t6 := (s6.chg k5 (fun h => h)).chg k6 (by omega)
    have d4 := t4.c
    have d5 := t5.c
    have d6 := t6.c
    refine ⟨.tuple #[.string bt, .int .i64 0, .int .i64 0], ?_, ?_, k56⟩
    · simp [results, Tryz.f7, Tryz.results7, go_sem, d4, d5, d6]
    · rw [HR.out]
  · intro c W h; exact h.elim
  · rintro ch W (⟨at_, er, rfl, l4, l5, l6, he0, hf, q8⟩ | ⟨p, hp, hst, rfl, bt, pl, ot, n, pv, bv, fe, tk, bb, p4, p5, n0, n1, n2, hf, hbw⟩) hle hD
    · have HN2 := Lib.hid hf
      clear hf
      have hlt : w4.heap.size < W.heap.size := (Array.getElem?_eq_some_iff.1 hD).1
      show LeavesInM _ _ _ _ _ _ _ _ _
      refine leave_mark (by intro h; cases h) hD ?_
      have hk4 := chg_of_mark (r := w4.heap.size) q8 HB.out (by omega) (.deferred none)
      have hot : ∀ i, i ≠ w4.heap.size → (W.putObj w4.heap.size (.deferred none)).heap[i]? = W.heap[i]? := fun i hi => World.putObj_heap_other hi
      obtain ⟨W5, hW5⟩ : ∃ W5, W5 = W.putObj w4.heap.size (.deferred none) := ⟨_, rfl⟩
      rw [← hW5] at hk4 hot ⊢
      clear hW5
      have s4 : SB W5 b ⟨#[]⟩ := (hot b (by omega)).trans l4
      have s5 : I1 W5 (b + 1) 3 0 := (hot (b + 1) (by omega)).trans l5
      have s6 : I1 W5 (b + 1 + 1) 25 0 := (hot (b + 1 + 1) (by omega)).trans l6
      refine leavesM_cons (by intro h; cases h) (by simp [invoke, go_sem]) ((caughtIn_panicking (b + 1) (b + 1 + 1) (by omega) 0 0 at_ er [] _ s5 s6).mono ?_)
      rintro e u' w5 ⟨rfl, rfl, k5, t5, t6⟩
      have t4 := s4.chg k5 (by rintro (h | h) <;> omega)
      show LeavesInM _ _ _ _ _ _ _ .returning _
      refine leavesM_cons (by intro h; cases h) (by simp [invoke, go_sem]) ((zeroed18 b (b + 1 + 1) _ er _ _ (by omega) t4 t6).mono ?_)
      rintro e u' w6 ⟨rfl, rfl, k6, u4⟩
      rw [if_neg he0] at u4
      have u5 := t5.chg k6 (by omega)
      have u6 := t6.chg k6 (by omega)
      have k56 : Chg (fun _ => False) w w6 := (hk4.trans' k5 (by rintro i (h | h) <;> exact .inr (by have := HB.out; omega))).trans' k6 (by rintro i h; exact .inr (by have := HB.out; omega))
      have d4 := u4.c
      have d5 := u5.c
      have d6 := u6.c
      show LeavesInM _ _ _ _ _ _ _ .returning _
      refine ⟨.tuple #[.string ⟨#[]⟩, .int .i64 at_, .int .i64 er], ?_, ?_, k56⟩
      · simp [results, Tryz.f7, Tryz.results7, go_sem, d4, d5, d6]
      · rw [HN2.out]
    · have hf2 := hf.symm
      rw [fmR_bad hp hst] at hf2
      have l4 := fe.sb
      have l5 := fe.at_
      have l6 := fe.er
      have q8 := hbw
      have he0 : (2 : Int) ≠ 0 := by decide
      obtain ⟨at_, hat⟩ : ∃ at_ : Int, at_ = p := ⟨_, rfl⟩
      obtain ⟨er, her⟩ : ∃ er : Int, er = 2 := ⟨_, rfl⟩
      unfold badV
      rw [← hat, ← her] at hf2 ⊢
      rw [← her] at he0
      have hf := hf2
      clear hat her hf2
      have HN2 := Lib.hid hf
      clear hf
      have hlt : w4.heap.size < W.heap.size := (Array.getElem?_eq_some_iff.1 hD).1
      show LeavesInM _ _ _ _ _ _ _ _ _
      refine leave_mark (by intro h; cases h) hD ?_
      have hk4 := chg_of_mark (r := w4.heap.size) q8 HB.out (by omega) (.deferred none)
      have hot : ∀ i, i ≠ w4.heap.size → (W.putObj w4.heap.size (.deferred none)).heap[i]? = W.heap[i]? := fun i hi => World.putObj_heap_other hi
      obtain ⟨W5, hW5⟩ : ∃ W5, W5 = W.putObj w4.heap.size (.deferred none) := ⟨_, rfl⟩
      rw [← hW5] at hk4 hot ⊢
      clear hW5
      have s4 : SB W5 b ⟨#[]⟩ := (hot b (by omega)).trans l4
      have s5 : I1 W5 (b + 1) 3 0 := (hot (b + 1) (by omega)).trans l5
      have s6 : I1 W5 (b + 1 + 1) 25 0 := (hot (b + 1 + 1) (by omega)).trans l6
      refine leavesM_cons (by intro h; cases h) (by simp [invoke, go_sem]) ((caughtIn_panicking (b + 1) (b + 1 + 1) (by omega) 0 0 at_ er [] _ s5 s6).mono ?_)
      rintro e u' w5 ⟨rfl, rfl, k5, t5, t6⟩
      have t4 := s4.chg k5 (by rintro (h | h) <;> omega)
      show LeavesInM _ _ _ _ _ _ _ .returning _
      refine leavesM_cons (by intro h; cases h) (by simp [invoke, go_sem]) ((zeroed18 b (b + 1 + 1) _ er _ _ (by omega) t4 t6).mono ?_)
      rintro e u' w6 ⟨rfl, rfl, k6, u4⟩
      rw [if_neg he0] at u4
      have u5 := t5.chg k6 (by omega)
      have u6 := t6.chg k6 (by omega)
      have k56 : Chg (fun _ => False) w w6 := (hk4.trans' k5 (by rintro i (h | h) <;> exact .inr (by have := HB.out; omega))).trans' k6 (by rintro i h; exact .inr (by have := HB.out; omega))
      have d4 := u4.c
      have d5 := u5.c
      have d6 := u6.c
      show LeavesInM _ _ _ _ _ _ _ .returning _
      refine ⟨.tuple #[.string ⟨#[]⟩, .int .i64 at_, .int .i64 er], ?_, ?_, k56⟩
      · simp [results, Tryz.f7, Tryz.results7, go_sem, d4, d5, d6]
      · rw [HN2.out]
end Go.Proofs.YtemogjpgkcbaiaaGreatDoor.Sp
end
section
namespace Go.Proofs.YtemogjpgkcbaiaaGreatDoor.Sp
open Go.RowKit
set_option linter.unusedVariables false
set_option linter.unusedSimpArgs false
set_option maxRecDepth 100000
def awS : ByteArray := ⟨#[37, 48, 53, 100, 124, 37, 45, 52, 115, 124, 37, 35, 120]⟩
def awX : List ByteArray := [⟨#[45, 52, 50]⟩, ⟨#[97, 98]⟩, ⟨#[50, 53, 53]⟩]
def awO : ByteArray := ⟨#[45, 48, 48, 52, 50, 124, 97, 98, 32, 32, 124, 48, 120, 102, 102]⟩
def awI : ByteArray := ⟨#[49, 48, 44, 32, 102, 102, 32, 114, 101, 115, 116]⟩
def awC : ByteArray := ⟨#[37, 100, 44, 32, 37, 120, 32, 37, 115]⟩
def awL : List ByteArray := [⟨#[49, 48]⟩, ⟨#[50, 53, 53]⟩, ⟨#[114, 101, 115, 116]⟩]
theorem aw_fmt : fmt id awS awX = (awO, 0, 0) := by kernel_rfl
theorem aw_scn : scn awI awC = (awL, 3, 0) := by kernel_rfl
end Go.Proofs.YtemogjpgkcbaiaaGreatDoor.Sp
end
section
namespace Go.Proofs.YtemogjpgkcbaiaaGreatDoor.Sp
open Go.RowKit Go.Proofs.YtemogjpgkcbaiaaGreatDoorW.PrintWords Go.Proofs.YtemogjpgkcbaiaaGreatDoorW.PrintLast Go.Proofs.YtemogjpgkcbaiaaGreatDoorW.PrintMore
set_option linter.unusedVariables false
set_option linter.unusedSimpArgs false
set_option maxRecDepth 100000
attribute [local go_sem] Oper.semAt_some
theorem aw_noq : ∀ p c q, p < awS.size → pstep awS false p = some (c, q) → c.letter = 113 → QuoteOk id := by
  have h : (List.range 13).all (fun p => match pstep awS false p with | some (c, _) => c.letter != 113 | none => true) = true := by kernel_rfl
  intro p c q hp hst hl
  have := List.all_eq_true.1 h p (List.mem_range.2 hp)
  rw [hst] at this
  simp [hl] at this
theorem cells_new {w : World} {cs : Array Value} {t : TypeId} (j : Nat) (v : Value) (h : cs[j]? = some v) : (w.alloc (.cells cs t)).cell? ((⟨w.heap.size, 0, none⟩ : Addr).add j) = some v := by
  have := cell_of (World.alloc_heap_new w (.cells cs t)) j h
  rwa [show (⟨w.heap.size, 0, none⟩ : Addr).add j = ⟨w.heap.size, j, none⟩ from by unfold Addr.add; split <;> simp_all]
theorem AR_new (w : World) (l : List ByteArray) (hl : l.length ≤ 1000000) : AR (w.alloc (.cells (l.map Value.string).toArray 9)) (w.alloc (.cells (l.map Value.string).toArray 9)).heap.size (.slice (some ⟨w.heap.size, 0, none⟩) l.length l.length) l := by
  refine ⟨_, _, rfl, hl, fun _ => ⟨_, rfl, by simp, fun j x hj => cells_new j _ ?_⟩⟩
  simp [hj]
theorem C_new (w : World) (l : List ByteArray) (hl : l.length ≤ 1000000) : Kd.C Kd.string (w.alloc (.cells (l.map Value.string).toArray 9)) (some ⟨w.heap.size, 0, none⟩) l.length l := by
  refine ⟨rfl, by omega, fun _ => ⟨_, rfl, fun j p hj => ⟨[.string p], rfl, rfl, fun i u hu => ?_⟩⟩⟩
  have hi : i = 0 := by
    rcases i with _ | i
    · rfl
    · simp at hu
  subst hi
  simp only [List.getElem?_cons_zero, Option.some.injEq] at hu
  subst hu
  show World.cell? _ ((⟨w.heap.size, 0, none⟩ : Addr).add (j * 1 + 0)) = _
  rw [Nat.mul_one, Nat.add_zero]
  exact cells_new j _ (by simp [hj])
theorem same_f (l m : List ByteArray) (h : l = m) (hl : l.length ≤ 1000000) : PSame.threadbareref01_Same.f (l.length + 2) l m = some true := by
  subst h
  unfold PSame.threadbareref01_Same.f
  rw [if_pos rfl]
  have key : ∀ (r k i : Nat), i + r = l.length → r < k → PSame.threadbareref01_Same.l0 k l l (l.length : Int) (i : Int) = some true := by
    intro r
    induction r with
    | zero =>
      intro k i hi hk
      obtain ⟨k, rfl⟩ : ∃ q, k = q + 1 := ⟨k - 1, by omega⟩
      rw [PSame.threadbareref01_Same.l0, if_neg (by omega)]
    | succ r ih =>
      intro k i hi hk
      obtain ⟨k, rfl⟩ : ∃ q, k = q + 1 := ⟨k - 1, by omega⟩
      rw [PSame.threadbareref01_Same.l0, if_pos (by omega), if_pos (by omega), if_pos (by omega), if_pos (by omega), if_pos rfl, show wrap64 ((i : Int) + 1) = ((i + 1 : Nat) : Int) from by unfold wrap64; omega]
      exact ih k (i + 1) (by omega) (by omega)
  exact key l.length _ 0 (by omega) (by omega)
theorem aw_same : PSame.threadbareref01_Same.f 5 awL awL = some true := same_f awL awL rfl (by decide)
theorem awake_calls (w : World) (hT : T10 w) : Calls Tryz.prog 6 #[] w fun e w' => e = .returned (.bool true) ∧ Chg (fun _ => False) w w' := by
  go_enter Tryz.func6, Tryz.ntmps6
  go_wp2_with fail
  have hA := AR_new w awX (by decide)
  have k1 : Chg (fun _ => False) w (w.alloc (.cells (awX.map Value.string).toArray 9)) := (Chg.refl _ w).alloc _
  obtain ⟨W1, hW1⟩ : ∃ W1, W1 = w.alloc (.cells (awX.map Value.string).toArray 9) := ⟨_, rfl⟩
  have e1 : w.alloc (Obj.cells #[.string ⟨#[45, 52, 50]⟩, .string ⟨#[97, 98]⟩, .string ⟨#[50, 53, 53]⟩] 9) = W1 := by rw [hW1]; rfl
  rw [← hW1] at hA k1
  rw [e1]
  have HF := Lib.hid aw_fmt
  have hf := format_calls id (fun x h => by show x.size ≤ _; omega) awS (by decide) _ awX (by decide) aw_noq W1 hA
  rw [HF.out] at hf
  have hT1 := hT.chg k1 (fun h => h)
  clear e1 hW1 hA hT
  refine Calls.mono hf ?_
  rintro e W2 ⟨rfl, k2⟩
  have k12 := k1.trans k2
  have hT2 := hT1.chg k2 (fun h => h)
  clear k1 k2 hf hT1
  go_wp2_with fail
  refine (scan_calls awI awC (by decide) (by decide) W2 hT2).mono ?_
  rintro e W3 ⟨k3, v, he, hR⟩
  rw [aw_scn] at he hR
  subst he
  obtain ⟨A, cp, rfl, hcp, hC⟩ := Kd.R_reads hR
  have hO : awO.toList = [45, 48, 48, 52, 50, 124, 97, 98, 32, 32, 124, 48, 120, 102, 102] := by kernel_rfl
  have hc1 := Kd.C_below hC (below_alloc (Below.refl W3.heap.size W3) (.cells (awL.map Value.string).toArray 9))
  have hc2 := C_new W3 awL (by decide)
  have k4 : Chg (fun _ => False) W3 (W3.alloc (.cells (awL.map Value.string).toArray 9)) := (Chg.refl _ W3).alloc _
  have hs := PSame.threadbareref01_Same.calls 5 A cp awL _ 3 awL true _ hc1 hcp hc2 (by decide) aw_same
  have HS := Lib.hid hs
  have HK := Lib.hid ((k12.trans k3).trans k4)
  clear hR hC k12 k3 hT2 hc1 hc2 hs k4 hcp
  go_wp2_with fail
  refine (HS.out).mono ?_
  rintro e W4 ⟨rfl, hd⟩
  go_wp2_with fail
  go_ret
  obtain ⟨n, rfl⟩ := hd.out
  exact ⟨rfl, HK.out.drewN n⟩
end Go.Proofs.YtemogjpgkcbaiaaGreatDoor.Sp
end
section
namespace Go.Proofs.YtemogjpgkcbaiaaGreatDoor.Sp
open Go.RowKit Go.Proofs.YtemogjpgkcbaiaaGreatDoorW.PrintWords Go.Proofs.YtemogjpgkcbaiaaGreatDoorW.PrintLast Go.Proofs.YtemogjpgkcbaiaaGreatDoorW.PrintMore
set_option linter.unusedVariables false
set_option linter.unusedSimpArgs false
set_option maxRecDepth 100000
attribute [local go_sem] Oper.semAt_some
theorem scR_len (t s : ByteArray) : ∀ (m p : Nat) (ip n : Int) (xs : List ByteArray), t.size - p ≤ m → (xs.length : Int) ≤ n → ∀ r, scR t s p ip n xs = some r → (r.1.length : Int) ≤ r.2 := by
  intro m
  induction m with
  | zero =>
    intro p ip n xs hm hx r hr
    rw [scR, dif_neg (by omega)] at hr
    cases hr; exact hx
  | succ m ih =>
    intro p ip n xs hm hx r hr
    by_cases h : p < t.size
    · cases hst : pstep t true p with
      | none => rw [scR, dif_pos h, hst] at hr; cases hr
      | some cq =>
        obtain ⟨c, q⟩ := cq
        have hq := (pstep_facts h hst).1
        rw [scR_step h hst hq] at hr
        split at hr
        · split at hr
          · exact ih q _ n xs (by omega) hx r hr
          · cases hr; exact hx
        · split at hr
          · cases hr
          · rename_i x ok _
            split at hr
            · split at hr
              · exact ih q _ n xs (by omega) hx r hr
              · refine ih q _ (n + 1) _ (by omega) ?_ r hr
                split
                · omega
                · simp; omega
            · cases hr; exact hx
    · rw [scR, dif_neg h] at hr
      cases hr; exact hx
theorem scR_top (t s : ByteArray) : ∀ (m p : Nat) (ip n : Int) (xs : List ByteArray), t.size - p ≤ m → ∀ r, scR t s p ip n xs = some r → r.2 ≤ n + m := by
  intro m
  induction m with
  | zero =>
    intro p ip n xs hm r hr
    rw [scR, dif_neg (by omega)] at hr
    cases hr; simp
  | succ m ih =>
    intro p ip n xs hm r hr
    by_cases h : p < t.size
    · cases hst : pstep t true p with
      | none => rw [scR, dif_pos h, hst] at hr; cases hr
      | some cq =>
        obtain ⟨c, q⟩ := cq
        have hq := (pstep_facts h hst).1
        rw [scR_step h hst hq] at hr
        split at hr
        · split at hr
          · have := ih q _ n xs (by omega) r hr; omega
          · cases hr; simp only; omega
        · split at hr
          · cases hr
          · rename_i x ok _
            split at hr
            · split at hr
              · have := ih q _ n xs (by omega) r hr; omega
              · have := ih q _ (n + 1) _ (by omega) r hr; omega
            · cases hr; simp only; omega
    · rw [scR, dif_neg h] at hr
      cases hr; simp only; omega
theorem scn_top (s t : ByteArray) : (scn s t).2.1 ≤ t.size := by
  unfold scn
  split
  · simp
  · split
    · simp
    · rename_i h
      have := scR_top t s t.size 0 0 0 [] (by omega) _ h
      simpa using this
theorem scn_len (s t : ByteArray) : ((scn s t).1.length : Int) ≤ (scn s t).2.1 := by
  unfold scn
  split
  · simp
  · split
    · simp
    · rename_i h
      exact scR_len t s t.size 0 0 0 [] (by omega) (by simp) _ h
theorem light_f (s t : ByteArray) (hs : s.size ≤ 4000000000000000000) (ht : t.size ≤ 4000000000000000000) : Plight.threadbarelaw08_light.f 5 3000 [s, t] = some (decide ((s.size : Int) + t.size ≤ 3000)) := by
  unfold Plight.threadbarelaw08_light.f
  show Plight.threadbarelaw08_light.l0 5 3000 [s, t] 0 [s, t] 2 0 = _
  rw [Plight.threadbarelaw08_light.l0, if_pos (by decide), if_pos (by decide), if_pos (by simp), show rdOf ByteArray.empty [s, t] 0 = s from rfl, show wrap64 (0 + 1) = 1 from by unfold wrap64; omega, show wrap64 (0 + (s.size : Int)) = 0 + (s.size : Int) from by unfold wrap64; omega]
  rw [Plight.threadbarelaw08_light.l0, if_pos (by decide), if_pos (by decide), if_pos (by simp), show rdOf ByteArray.empty [s, t] 1 = t from rfl, show wrap64 (1 + 1) = 2 from by unfold wrap64; omega, show wrap64 (0 + (s.size : Int) + (t.size : Int)) = 0 + (s.size : Int) + (t.size : Int) from by unfold wrap64; omega]
  rw [Plight.threadbarelaw08_light.l0, if_neg (by decide)]
  by_cases h : (s.size : Int) + t.size ≤ 3000
  · rw [if_pos (by omega), decide_eq_true h]; rfl
  · rw [if_neg (by omega), decide_eq_false h]
set_option maxHeartbeats 4000000 in
theorem law4 (s t : ByteArray) (hs : s.size ≤ 4000000000000000000) (ht : t.size ≤ 4000000000000000000) (w : World) (hT : T10 w) : Calls Tryz.prog 4 #[.string s, .string t] w fun e w' => e = .returned (.bool true) ∧ Chg (fun _ => False) w w' := by
  have hl := light_f s t hs ht
  have hc1 := C_new w [s, t] (by simp)
  obtain ⟨W1, hW1⟩ : ∃ W1, W1 = w.alloc (.cells ([s, t].map Value.string).toArray 9) := ⟨_, rfl⟩
  have e1 : w.alloc (Obj.cells #[.string s, .string t] 9) = W1 := by rw [hW1]; rfl
  have k1 : Chg (fun _ => False) w W1 := by rw [hW1]; exact (Chg.refl _ w).alloc _
  rw [← hW1] at hc1
  have hT1 := hT.chg k1 (fun h => h)
  have hcall := Plight.threadbarelaw08_light.calls 5 3000 _ 2 [s, t] _ W1 hc1 (by simp) hl
  by_cases hle : (s.size : Int) + t.size ≤ 3000
  · rw [decide_eq_true hle] at hcall
    have HC := Lib.hid hcall
    have hs1 : s.size ≤ 100000 := by omega
    have ht1 : t.size ≤ 100000 := by omega
    have e2 : w.alloc (Obj.cells #[.string s, .string t] 9) = W1 := e1
    clear hcall hl hle hs ht hW1 hc1
    go_enter Tryz.func4, Tryz.ntmps4
    go_wp2_with fail
    refine (HC.out).mono ?_
    rintro e W2 ⟨rfl, hd⟩
    obtain ⟨n2, rfl⟩ := hd.out
    have k2 : Chg (fun _ => False) w (W1.drewN n2) := k1.drewN n2
    have hT2 : T10 (W1.drewN n2) := hT.chg k2 (fun h => h)
    generalize W1.drewN n2 = W2 at *
    go_wp2_with fail
    refine (scan_calls s t hs1 ht1 W2 hT2).mono ?_
    rintro e W3 ⟨k3, v, rfl, hR⟩
    have k23 := k2.trans k3
    go_wp2_with fail
    refine (scan14 s t hs1 ht1 W3 (hT2.chg k3 (fun h => h))).mono ?_
    rintro e W4 ⟨k4, v', rfl, hR'⟩
    have k24 := k23.trans k4
    go_wp2_with fail
    refine (reads_calls t ht1 W4).mono ?_
    rintro e W5 ⟨rfl, k5⟩
    go_wp2_with fail
    refine (reads16 t ht1 W5).mono ?_
    rintro e W6 ⟨rfl, k6⟩
    go_wp2_with fail
    refine (check_true t ht1 W6).mono ?_
    rintro e W7 ⟨rfl, k7⟩
    go_wp2_with fail
    refine (check12 t ht1 W7).mono ?_
    rintro e W8 ⟨rfl, k8⟩
    have kk := (((k24.trans k5).trans k6).trans k7).trans k8
    have hT8 := hT.chg kk (fun h => h)
    obtain ⟨A, cp, rfl, hcp, hC⟩ := Kd.R_reads hR
    obtain ⟨A', cp', rfl, hcp', hC'⟩ := Kd.R_reads hR'
    have hlen := scn_len s t
    have hbnd : (scn s t).1.length ≤ 1000000 := by have := scn_top s t; omega
    have hR8 := hR.chg (((k4.trans k5).trans k6).trans (k7.trans k8)) (fun _ _ h => h)
    have hR8' := hR'.chg ((k5.trans k6).trans (k7.trans k8)) (fun _ _ h => h)
    obtain ⟨A2, cp2, he, hcp2, hC2⟩ := Kd.R_reads hR8
    cases he
    obtain ⟨A3, cp3, he, hcp3, hC3⟩ := Kd.R_reads hR8'
    cases he
    have hsm := PSame.threadbareref01_Same.calls ((scn s t).1.length + 2) _ _ _ _ _ _ true W8 hC2 hcp2 hC3 hcp3 (same_f _ _ rfl hbnd)
    obtain ⟨X, hX⟩ : ∃ X, X = (scn s t).1.length := ⟨_, rfl⟩
    obtain ⟨N, hN⟩ : ∃ N, N = (scn s t).2.1 := ⟨_, rfl⟩
    obtain ⟨E, hE⟩ : ∃ E, E = (scn s t).2.2 := ⟨_, rfl⟩
    rw [← hX] at hsm
    rw [← hX, ← hN] at hlen
    simp only [← hX, ← hN, ← hE]
    have HSM := Lib.hid hsm
    have g1 : decide ((X : Int) ≤ N) = true := decide_eq_true hlen
    have HK := Lib.hid kk
    have HT8 := Lib.hid hT8
    clear hsm hC2 hC3 hcp2 hcp3 hR hC hcp hR' hC' hcp' hlen hbnd hR8 hR8' hX hN hE kk hT8 k3 k23 k4 k24 k5 k6 k7 k8 k1 k2 hT1 hT2 hd HC
    go_wp2_with fail
    refine (HSM.out).mono ?_
    rintro e W9 ⟨rfl, hd9⟩
    obtain ⟨n9, rfl⟩ := hd9.out
    have k9 : Chg (fun _ => False) w (W8.drewN n9) := HK.out.drewN n9
    have hT9 : T10 (W8.drewN n9) := hT.chg k9 (fun h => h)
    have HT9 := Lib.hid hT9
    generalize W8.drewN n9 = W9 at *
    go_wp2_with fail
    refine (awake_calls _ HT9.out).mono ?_
    rintro e W10 ⟨rfl, k10⟩
    go_wp2_with fail
    go_ret
    exact ⟨rfl, k9.trans k10⟩
  · rw [decide_eq_false hle] at hcall
    have HC := Lib.hid hcall
    clear hcall hl hle hs ht hW1 hc1
    go_enter Tryz.func4, Tryz.ntmps4
    go_wp2_with fail
    refine (HC.out).mono ?_
    rintro e W2 ⟨rfl, hd⟩
    obtain ⟨n2, rfl⟩ := hd.out
    have k2 : Chg (fun _ => False) w (W1.drewN n2) := k1.drewN n2
    have hT2 : T10 (W1.drewN n2) := hT.chg k2 (fun h => h)
    generalize W1.drewN n2 = W2 at *
    go_wp2_with fail
    refine (awake_calls _ hT2).mono ?_
    rintro e W10 ⟨rfl, k10⟩
    go_wp2_with fail
    go_ret
    exact ⟨rfl, k2.trans k10⟩
end Go.Proofs.YtemogjpgkcbaiaaGreatDoor.Sp
end
section
namespace Go.Proofs.YtemogjpgkcbaiaaGreatDoor.SpellS
open Go.ChangeMaps Go.ChangeShapes Go.WideShapes Go.ChangeAt Go.RowKit Go.Proofs.YtemogjpgkcbaiaaGreatDoor.Sp
set_option maxRecDepth 100000 in
theorem contract (H : Type) (enc : TypeId × Value → H) (W : World) (base : Nat) (args : Array Value) (ds gs : List (DataW H)) (before : List MemPlace)
    (hval : ∀ (j : Nat) t v, Tryz.f4.params[j]? = some t → args[j]? = some v → Value.okWide Tryz.prog W .any base t v)
    (hW : DataW.Whole enc Tryz.prog Tryz.f4.params.toList Rows.spellScansSpec.vars false W args.toList ds gs before) (hT : T10 W)
    (hreach : (DataW.weightsEach Tryz.prog (Tryz.f4.params.toList ++ (OpenSpec.ofChange Rows.spellScansSpec).bare.plain.varTypes Tryz.prog) (ds ++ gs)).all (· ≤ reachBytes) = true) :
    Calls Tryz.prog 4 args W fun e W' => ∃ v, e = .returned v ∧ Rows.spellScansSpec.post enc Tryz.prog Tryz.f4 false true false false W args v W' := by
  have hW' := hW
  obtain ⟨p, q, hA0, hV, rfl, hfz, hnd⟩ := hW
  have hA : DataW.TrodAll enc Tryz.prog W 0 (fun _ => true) true Tryz.f4.params.toList args.toList ds p := hA0
  rw [Tryz.params4] at hA hval hreach
  obtain ⟨v0, vs0, d0, ds0, p0, q0, hargs, rfl, rfl, h0, r0⟩ := trodAll_cons hA
  obtain ⟨v1, vs1, d1, ds1, p1, q1, hargs1, rfl, rfl, h1, r1⟩ := trodAll_cons r0
  obtain ⟨rfl, rfl, rfl⟩ := trodAll_nil r1
  obtain rfl : args = #[v0, v1] := by cases args; simp_all
  obtain ⟨rfl, rfl⟩ := trodVars_none hV
  obtain ⟨s, rfl, rfl, rfl, hs⟩ := open_string Tryz.underlying9 (hval 0 9 v0 rfl rfl) h0
  obtain ⟨t, rfl, rfl, rfl, ht⟩ := open_string Tryz.underlying9 (hval 1 9 v1 rfl rfl) h1
  clear hA0
  have hw : s.size ≤ 4000000000000000000 ∧ t.size ≤ 4000000000000000000 := by
    simp [DataW.weightsEach, DataW.weights] at hreach
    have hr : reachBytes ≤ 4000000000000000000 := by decide
    omega
  refine (law4 s t hw.1 hw.2 W hT).mono ?_
  rintro e W' ⟨rfl, k⟩
  refine ⟨_, rfl, _, _, _, [], [], [], hW', trodAll_cons_mk (shut_bool Tryz.underlying4 _) trodAll_mk0, trodAll_cons_mk (shut_string Tryz.underlying9 hs) (trodAll_cons_mk (shut_string Tryz.underlying9 ht) trodAll_mk0), rfl, ?_, fun h => by cases h⟩
  exact (k.below (Nat.le_refl _) (fun _ h => h.elim)).frame _
end Go.Proofs.YtemogjpgkcbaiaaGreatDoor.SpellS
end
section
namespace Go.Proofs.YtemogjpgkcbaiaaGreatDoor.SpellS
open Go.ChangeMaps Go.ChangeShapes Go.WideShapes Go.ChangeAt Go.RowKit Go.Proofs.YtemogjpgkcbaiaaGreatDoor.Sp
theorem laidMet_tail {P : Program} {n : String} {d : DataW Unit} {rest : List (String × DataW Unit)} {W : World} (h : laidMet P ((n, d) :: rest) W) : laidMet P rest W := by
  obtain ⟨ps, ⟨g, t, cs, fuel, p, q, hg, ht, hvar, hd, hq, rfl⟩, hnd, hb⟩ := h
  exact ⟨q, hq, (List.nodup_append.1 hnd).2.1, fun b off hm => hb b off (List.mem_append_right _ hm)⟩
theorem gTab : Tryz.prog.globalNamed "internal/strconv.uint64pow10" = some 2 := by kernel_rfl
theorem gTabType : (Tryz.prog.globals[2]?).map (·.type) = some 212 := by kernel_rfl
theorem cells212 : Tryz.prog.cellsOf 212 = 20 := by kernel_rfl
theorem cells148 : Tryz.prog.cellsOf 148 = 1 := by kernel_rfl
theorem tab {W : World} (h : laidMetH Tryz.prog Rows.spellScansRow.laid W) : T10 W := by
  have h1 : laidMet Tryz.prog Rows.spellScansRow.laid W := h
  have h2 := laidMet_tail (laidMet_tail h1)
  exact Lib.tabIs_of_head gTab gTabType Tryz.underlying212 Tryz.underlying148 cells148 cells212 h2
end Go.Proofs.YtemogjpgkcbaiaaGreatDoor.SpellS
end
section
namespace Go.Proofs.YtemogjpgkcbaiaaGreatDoor.SpellS
open Go.ChangeMaps Go.ChangeShapes Go.WideShapes Go.ChangeAt Go.RowKit Go.Proofs.YtemogjpgkcbaiaaGreatDoor.Sp
theorem own : ownKnob Tryz.prog.godebug = none := by kernel_rfl
noncomputable def laidWorld (os : Os) : World := World.laidAll Tryz.prog os Rows.spellScansRow.laid
theorem laid_met (os : Os) : laidMet Tryz.prog Rows.spellScansRow.laid ((laidWorld os).forCall (fun _ _ => 0) ⟨#[], #[.string ⟨#[]⟩, .string ⟨#[]⟩], []⟩).memory :=
  laidMet_laidAll _ (by kernel_rfl) (by kernel_rfl)
theorem reads (os : Os) {H : Type} (enc : TypeId × Value → H) : ∃ places, DataW.whole enc Tryz.prog ((laidWorld os).forCall (fun _ _ => 0) ⟨#[], #[.string ⟨#[]⟩, .string ⟨#[]⟩], []⟩).memory Tryz.f4.params.toList Rows.spellScansSpec.vars false #[Value.string ⟨#[]⟩, Value.string ⟨#[]⟩].toList 8 = some ([.lit (.string []), .lit (.string [])], [], places) :=
  ⟨[], by kernel_rfl⟩
set_option maxRecDepth 100000 in
theorem lifted (os : Os) (started : os.Started) (H : Type) (enc : TypeId × Value → H) (F : Stop.Interp) :
    ReturnsInHanded {} Tryz.checked os 4 .any ((OpenSpec.ofChange Rows.spellScansSpec).preRow enc Tryz.prog Tryz.f4 Rows.spellScansRow.domain false Rows.spellScansRow.laid) (((OpenSpec.ofChange Rows.spellScansSpec).at F).post enc Tryz.prog Tryz.f4 false true false false) := by
  obtain ⟨places, hx⟩ := reads os enc
  refine returnsInHanded_of_row (C := Tryz.checked) (s := OpenSpec.ofChange Rows.spellScansSpec) own started (by kernel_rfl) Tryz.func4
    (witness_row_atRef (enc := enc) (C := Tryz.checked) false (laidWorld os) #[.string ⟨#[]⟩, .string ⟨#[]⟩] (World.laidAll_os _ _ _) (by kernel_rfl) (by kernel_rfl) (by kernel_rfl)
      (OpenSpec.preRow_of_cond 8 hx (by kernel_rfl) (fun k hk => by cases hk) (by kernel_rfl) (laid_met os))) ?_
  intro W base args ds gs before hval hW _ _ hreach hL _ _
  exact contract H enc W base args ds gs before hval hW (tab hL) hreach
theorem said : Rows.SpellScansSaid :=
  OpenClaim.holds_of_cond 4 Tryz.f4 rfl rfl rfl rfl rfl rfl rfl ⟨rfl, rfl, rfl, rfl, rfl⟩ rfl rfl rfl rfl rfl (by kernel_rfl) Tryz.func4 (by kernel_rfl)
    (of_decide_eq_true (by kernel_rfl)) (by unfold Func.isWrapper; first | (rw [if_pos (by decide +kernel)]; kernel_rfl) | (rw [if_neg (by decide +kernel)]; exact ⟨rfl, rfl⟩))
    (fun os started H enc _ F => by rw [OpenClaim.pre_eq_preRow]; exact lifted os started H enc F)
theorem plain (f : FuncId) (fn : Func) (hf : Tryz.pinned.checked.prog.funcNamed "threadbare/threadbarelaw08.SpellScans" = some f) (hfn : Tryz.pinned.checked.prog.funcs[f]? = some fn) :
    true = Tryz.pinned.checked.prog.looks [] ∧ ∀ (j : Nat) t, fn.params[j]? = some t → Tryz.pinned.checked.prog.wantsStandIn t = false := by
  obtain rfl : f = 4 := Option.some.inj ((show Tryz.prog.funcNamed "threadbare/threadbarelaw08.SpellScans" = some 4 by kernel_rfl).symm.trans hf) |>.symm
  obtain rfl : fn = Tryz.f4 := (Option.some.inj (Tryz.func4.symm.trans hfn)).symm
  refine ⟨by kernel_rfl, fun j t ht => ?_⟩
  rw [Tryz.params4] at ht
  obtain rfl : t = 9 := by have := Array.mem_of_getElem? ht; simpa using this
  exact (show Tryz.prog.wantsStandIn 9 = false by kernel_rfl)
theorem card : Rows.SpellScansCardSaid :=
  Claim7.holds_tied_plain_at .later [] _ _ _ _ said (fun _ h => by cases h) (by kernel_rfl) (fun _ h => by cases h) spellScans_row_tie rfl ⟨rfl, rfl⟩ (by kernel_rfl) rfl plain (by kernel_rfl)
end Go.Proofs.YtemogjpgkcbaiaaGreatDoor.SpellS
end
