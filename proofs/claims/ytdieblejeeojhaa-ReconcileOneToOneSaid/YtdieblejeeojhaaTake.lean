/- The contract of (*table).take. -/
import Derived.Test.YtdieblejeeojhaaRest
import Derived.Shelf.Abstract
namespace Go.Proofs.Ytdieblejeeojhaa.PA
open Go.RowKit Go.Proofs.YtdieblejeeojhaaW.PrintWords Go.Proofs.YtdieblejeeojhaaW.PrintLast Go.Proofs.YtdieblejeeojhaaW.PrintMore Go.Proofs.Ytdieblejeeojhaa.MS
attribute [local go_sem] max2_int min2_int max_two min_two max_three min_three max_four min_four
set_option linter.unusedVariables false
set_option linter.unusedSimpArgs false

/-- The first index of a list whose item is left and fits. -/
def takeL (l1 : List S40) (S : List Int) (p : S40 → Bool) : List Int → Option Int
  | [] => none
  | i :: r => if i ∈ S then takeL l1 S p r else if p (rd_T40 l1 i) = true then some i else takeL l1 S p r
/-- What is taken then. -/
def takeS (S : List Int) : Option Int → List Int
  | none => S
  | some i => i :: S
def takeI : Option Int → Int
  | none => 0
  | some i => i
theorem grown_of_below {w w' : World} (h : Below w.heap.size w w') (r : Option Nat) : w.grownBy w' r := ⟨h.os, h.tape, h.output, h.size, fun i hi _ => h.block i hi⟩
/-- A function value that gives p of an item, and turns nothing that lay. -/
def Fits (g : Nat) (xa : Value) (p : S40 → Bool) (w : World) : Prop :=
  ∀ (y : S40) (W : World), Below w.heap.size w W → Calls Try.prog g #[.agg #[.string y.f0, .int .i64 y.f1, .int .i64 y.f2], xa] W fun e w' => e = .returned (.bool (p y)) ∧ Below W.heap.size W w'
set_option maxHeartbeats 8000000 in
set_option maxRecDepth 100000 in
theorem take.calls (tb : Nat) (A1 : Option Addr) (c1 : Nat) (l1 : List S40) (AL : Option Addr) (cL : Nat) (ls : List Int) (bT n : Nat) (S : List Int) (g : Nat) (xa : Value) (p : S40 → Bool) (w : World)
    (h0 : w.cell? ⟨tb, 0, none⟩ = some (.slice A1 l1.length c1)) (h3 : w.cell? ⟨tb, 3, none⟩ = some (.map (some bT)))
    (hr1 : Kd.C k40 w A1 l1.length l1) (hl : Kd.C (Kd.int .i64) w AL ls.length ls) (hm : BMt w bT n S) (hS : ∀ i ∈ ls, 0 ≤ i ∧ i < (l1.length : Int)) (hs1 : l1.length ≤ 4096) (hsl : ls.length ≤ 4096) (hn : n ≤ 100000) (hf : Fits g xa p w) (eg : ∀ args w, (callFunc g args).run Try.prog w = .ok (.enter g args) w) :
    Calls Try.prog 41 #[.pointer (some ⟨tb, 0, none⟩), .slice AL ls.length cL, .func (.func g) #[] #[xa]] w fun e w' =>
      e = .returned (.tuple #[.int .i64 (takeI (takeL l1 S p ls)), .bool (takeL l1 S p ls).isSome]) ∧ BMt w' bT (n + 1) (takeS S (takeL l1 S p ls)) ∧ w.grownBy w' (some bT) := by
  have HR1 := Aside0.mk hr1
  have HL := Aside0.mk hl
  have HM := Aside0.mk hm
  have HS := Aside0.mk hS
  have HZ := Aside0.mk (And.intro hs1 (And.intro hsl hn))
  have HF := Aside0.mk hf
  have H0 := Aside0.mk h0
  have H3 := Aside0.mk h3
  clear hr1 hl hm hS hs1 hsl hn hf h0 h3
  obtain ⟨R, hR⟩ : ∃ R, R = takeL l1 S p ls := ⟨_, rfl⟩
  rw [← hR]
  have HR := Aside0.mk hR.symm
  clear hR
  go_enter Try.func41, Try.ntmps41
  go_wp2
  go_loopw [12] (fun v wr => ∃ (x : Int) (k : Nat), v = .int .i64 x ∧ Aside0 (x = (k : Int) ∧ k ≤ ls.length) ∧ Aside0 (takeL l1 S p (ls.drop k) = R) ∧ Aside0 (Below w.heap.size w wr))
    (fun v _ => ls.length - (intOf v).toNat)
  case atStart => exact ⟨0, 0, rfl, ⟨rfl, Nat.zero_le _⟩, HR, ⟨Below.refl _ _⟩⟩
  case round =>
    clear HR
    obtain ⟨x, k, rfl, HN, HT, HB⟩ := hrel
    have e2 : wrap64 (x + 1) = ((k + 1 : Nat) : Int) := by have := HN.out; have := HZ.out; unfold wrap64; omega
    have E2 := Aside0.mk e2
    clear e2
    by_cases c1 : x < (ls.length : Int)
    · have c1b : decide (x < (ls.length : Int)) = true := decide_eq_true c1
      have hlt : k < ls.length := by have := HN.out; omega
      have hx0 : 0 ≤ x := by have := HN.out; omega
      have hget : ls.drop k = rd ls x :: ls.drop (k + 1) := by
        rw [List.drop_eq_getElem_cons hlt]
        unfold rd
        rw [HN.out.1]
        simp [List.getD_eq_getElem?_getD, hlt]
      have hmem : rd ls x ∈ ls := by
        have : rd ls x ∈ ls.drop k := by rw [hget]; simp
        exact List.mem_of_mem_drop this
      obtain ⟨hi0, hi1⟩ := HS.out _ hmem
      have hwf : (Lit.int .i64 (rd ls x)).wf = true := wfI hi0 (by have := HZ.out; omega)
      have HT2 := HT.out
      rw [hget] at HT2
      unfold takeL at HT2
      obtain ⟨ad, e1, x0⟩ := Kd.at_int HL.out x hx0 c1
      cases e1
      replace x0 := (HB.out.cell (World.block_lt_of_cell? w _ x0)).trans x0
      obtain ⟨ad1, e2, y0, y1, y2⟩ := at_T40 HR1.out (rd ls x) hi0 hi1
      cases e2
      replace y0 := (HB.out.cell (World.block_lt_of_cell? w _ y0)).trans y0
      replace y1 := (HB.out.cell (World.block_lt_of_cell? w _ y1)).trans y1
      replace y2 := (HB.out.cell (World.block_lt_of_cell? w _ y2)).trans y2
      have t0 := (HB.out.cell (World.block_lt_of_cell? w _ H0.out)).trans H0.out
      have t3 := (HB.out.cell (World.block_lt_of_cell? w _ H3.out)).trans H3.out
      have hM := BM.below HM.out HB.out
      have HX := Aside0.mk hlt
      have q0 := eq_true hx0
      have q1 := eq_true c1
      have q2 := eq_true hi0
      have q3 := eq_true hi1
      clear hlt hx0 c1 hget hmem hi0 hi1
      generalize rd ls x = i at *
      by_cases g1 : i ∈ S
      · rw [if_pos g1] at HT2
        have hl : (Instr.lookup 52 (.map (some bT)) (.int .i64 i) false).run Try.prog wr = .ok (.bool true) wr := BM.lookb hM Try.underlying3 Try.underlying52 Try.underlying4 (Try.zeroValue4 _) hwf (by simp [g1])
        have HT3 := Aside0.mk HT2
        clear hM HT2 g1 hwf
        go_wp2
        go_roundw
        case rel => exact ⟨_, k + 1, rfl, ⟨E2.out, HX.out⟩, HT3, HB⟩
        case measure =>
          have h1 := E2.out
          have h2 := HN.out
          have h3 := HX.out
          simp only [intOf, Array.getD_eq_getD_getElem?]
          rw [h1, h2.1]
          omega
      · rw [if_neg g1] at HT2
        have hl : (Instr.lookup 52 (.map (some bT)) (.int .i64 i) false).run Try.prog wr = .ok (.bool false) wr := BM.lookb hM Try.underlying3 Try.underlying52 Try.underlying4 (Try.zeroValue4 _) hwf (by simp [g1])
        have HG := Aside0.mk g1
        have hM1 := Aside0.mk hM
        have HT3 := Aside0.mk HT2
        have HW := Aside0.mk hwf
        clear hM HT2 g1 hwf
        have hcall := HF.out (rd_T40 l1 i) wr HB.out
        have HC := Aside0.mk hcall
        clear hcall
        generalize rd_T40 l1 i = y at *
        by_cases g2 : p y = true
        · have HT4 := HT3.out
          rw [if_pos g2] at HT4
          have HT5 := Aside0.mk HT4
          rw [g2] at HC
          clear HT4 HT3 g2
          go_wp2_with (first | (go_at_fn g; refine HC.out.mono ?_; rintro e w' ⟨rfl, hb⟩; have t3' := (hb.cell (World.block_lt_of_cell? wr _ t3)).trans t3; obtain ⟨U, u1, u2, u3, u4⟩ := BM.update (T := 52) (BM.below hM1.out hb) Try.underlying3 Try.underlying52 Try.underlying4 (by have := HZ.out; unfold maxLen; omega) HW.out; have HU := Aside0.mk (And.intro u2 (And.intro hb u3)); clear u2 u3 u4 hb))
          go_ret2
          rw [← HT5.out]
          obtain ⟨u2, hb, u3⟩ := HU.out
          exact ⟨rfl, u2, (grown_of_below (HB.out.trans (hb.mono HB.out.size)) _).trans u3⟩
        · have HT4 := HT3.out
          rw [if_neg g2] at HT4
          have HT5 := Aside0.mk HT4
          have g3 : p y = false := by simpa using g2
          rw [g3] at HC
          clear HT4 HT3 g2 g3
          go_wp2_with (first | (go_at_fn g; refine HC.out.mono ?_; rintro e w' ⟨rfl, hb⟩; have HU := Aside0.mk hb; clear hb))
          go_roundw
          case rel => exact ⟨_, k + 1, rfl, ⟨E2.out, HX.out⟩, HT5, ⟨HB.out.trans (HU.out.mono HB.out.size)⟩⟩
          case measure =>
            have h1 := E2.out
            have h2 := HN.out
            have h3 := HX.out
            simp only [intOf, Array.getD_eq_getD_getElem?]
            rw [h1, h2.1]
            omega
    · have c1b : decide (x < (ls.length : Int)) = false := decide_eq_false c1
      have hk : k = ls.length := by have := HN.out; omega
      have hR := HT.out
      rw [hk, List.drop_length] at hR
      unfold takeL at hR
      subst hR
      clear c1
      go_wp2
      go_ret2
      exact ⟨rfl, BM.mono (BM.below HM.out HB.out) (Nat.le_succ _), grown_of_below HB.out _⟩
end Go.Proofs.Ytdieblejeeojhaa.PA
