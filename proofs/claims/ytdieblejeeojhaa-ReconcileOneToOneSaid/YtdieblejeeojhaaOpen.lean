/- The contract of reconcile.open. -/
import Derived.Test.YtdieblejeeojhaaSmall
import Derived.Test.YtdieblejeeojhaaGroups
namespace Go.Proofs.Ytdieblejeeojhaa.PA
open Go.RowKit Go.Proofs.YtdieblejeeojhaaW.PrintWords Go.Proofs.YtdieblejeeojhaaW.PrintLast Go.Proofs.YtdieblejeeojhaaW.PrintMore Go.Proofs.Ytdieblejeeojhaa.MS Go.Proofs.Ytdieblejeeojhaa.GM
attribute [local go_sem] max2_int min2_int max_two min_two max_three min_three max_four min_four
set_option linter.unusedVariables false
set_option linter.unusedSimpArgs false

/-- The places of the items whose key is y, among the first n. -/
noncomputable def grp (f : S40 → Lit) (l : List S40) : Nat → Lit → List Int
  | 0 => fun _ => []
  | n + 1 => upd (grp f l n) (f (rd_T40 l n)) (grp f l n (f (rd_T40 l n)) ++ [(n : Int)])
def refK (x : S40) : Lit := .string x.f0.data.toList
def amtK (x : S40) : Lit := .int .i64 x.f2
abbrev GMr (base : Nat) (w : World) (b n : Nat) (N : Nat → Prop) (G : Lit → List Int) : Prop := GMp Try.prog 9 3 base w b n N G
abbrev GMa (base : Nat) (w : World) (b n : Nat) (N : Nat → Prop) (G : Lit → List Int) : Prop := GMp Try.prog 3 3 base w b n N G
/-- What the table's four fields hold. -/
def TabC (w : World) (tb : Nat) (A : Option Addr) (n c bR bA bT : Nat) : Prop :=
  w.cell? ⟨tb, 0, none⟩ = some (.slice A n c) ∧ w.cell? ⟨tb, 1, none⟩ = some (.map (some bR)) ∧ w.cell? ⟨tb, 2, none⟩ = some (.map (some bA)) ∧ w.cell? ⟨tb, 3, none⟩ = some (.map (some bT))
theorem grown_drew {w W : World} {r : Option Nat} (h : w.grownBy W r) : w.grownBy W.drew r := ⟨h.os, h.tape, h.output, h.size, h.block⟩
theorem tab_new (w : World) (A : Option Addr) (n c bR bA bT : Nat) : TabC (w.alloc (.cells #[.slice A n c, .map (some bR), .map (some bA), .map (some bT)] 61)) w.heap.size A n c bR bA bT := by unfold TabC; simp
theorem ne_some {a b : Nat} (h : a ≠ b) : some a ≠ some b := fun e => h (by injection e)
theorem TabC.kept {w w' : World} {tb n c bR bA bT : Nat} {A : Option Addr} {row : Option Nat} (h : TabC w tb A n c bR bA bT) (hg : w.grownBy w' row) (hne : some tb ≠ row) : TabC w' tb A n c bR bA bT :=
  ⟨hg.cell h.1 hne, hg.cell h.2.1 hne, hg.cell h.2.2.1 hne, hg.cell h.2.2.2 hne⟩
theorem zero26 (w : World) : (zeroValue 26).run Try.prog w = .ok (.slice none 0 0) w := by kernel_rfl
def OpenP (w : World) (A : Option Addr) (c : Nat) (l : List S40) (w' : World) : Prop :=
  TabC w' (w.heap.size + 3) A l.length c w.heap.size (w.heap.size + 1) (w.heap.size + 2) ∧
  (∃ N, GMr (w.heap.size + 4) w' w.heap.size l.length N (grp refK l l.length)) ∧ (∃ N, GMa (w.heap.size + 4) w' (w.heap.size + 1) l.length N (grp amtK l l.length)) ∧
  BMt w' (w.heap.size + 2) 0 [] ∧ w.heap.size + 4 ≤ w'.heap.size ∧ Below w.heap.size w w'
set_option maxHeartbeats 8000000 in
set_option maxRecDepth 100000 in
theorem open_.calls (A : Option Addr) (c : Nat) (l : List S40) (w : World) (hr : Kd.C k40 w A l.length l) (hs : l.length ≤ 4096) (hwf : ∀ x ∈ l, x.f0.size ≤ maxLen ∧ (Lit.int .i64 x.f2).wf = true) :
    Calls Try.prog 28 #[.slice A l.length c] w fun e w' => e = .returned (.pointer (some ⟨w.heap.size + 3, 0, none⟩)) ∧ OpenP w A c l w' := by
  have HR := Aside0.mk hr
  have HS := Aside0.mk hs
  have HF := Aside0.mk hwf
  clear hr hs hwf
  have hmm := @run_makeMap Try.prog
  have hu40 := Try.underlying40
  have hu61 := Try.underlying61
  go_enter Try.func28, Try.ntmps28
  go_wp2
  go_loopw [14] (fun v wr => ∃ (x : Int) (n : Nat) (N : Nat → Prop), v = .int .i64 x ∧ Aside0 (x = n ∧ n ≤ l.length) ∧ Aside0 (GMr (w.heap.size + 4) wr w.heap.size n N (grp refK l n)) ∧ Aside0 (GMa (w.heap.size + 4) wr (w.heap.size + 1) n (fun j => ¬ N j) (grp amtK l n)) ∧ Aside0 (BMt wr (w.heap.size + 2) 0 []) ∧ Aside0 (TabC wr (w.heap.size + 3) A l.length c w.heap.size (w.heap.size + 1) (w.heap.size + 2)) ∧ Aside0 (w.heap.size + 4 ≤ wr.heap.size ∧ Below w.heap.size w wr))
    (fun v _ => l.length - (intOf v).toNat)
  case atStart =>
    refine ⟨0, 0, fun _ => False, rfl, ⟨rfl, Nat.zero_le _⟩, ⟨?_⟩, ⟨?_⟩, ⟨?_⟩, ⟨?_⟩, ⟨?_⟩⟩
    · have h0 := GMp.made (P := Try.prog) (k := 9) (e := 3) (base := w.heap.size + 4) w (fun _ => False) (by omega)
      exact ((h0.kept (World.grownBy_alloc _ _ none) (by simp) (by simp)).kept (World.grownBy_alloc _ _ none) (by simp) (by simp)).kept (World.grownBy_alloc _ _ none) (by simp) (by simp)
    · have h0 := GMp.made (P := Try.prog) (k := 3) (e := 3) (base := w.heap.size + 4) (w.alloc (.map #[] 0)) (fun _ => ¬ False) (by simp)
      have h1 := (h0.kept (World.grownBy_alloc _ (.map #[] 0) none) (by simp) (by simp)).kept (World.grownBy_alloc _ (.cells #[Value.slice A l.length c, Value.map (some w.heap.size), Value.map (some (w.heap.size + 1)), Value.map (some (w.heap.size + 1 + 1))] 61) none) (by simp) (by simp)
      rw [show (w.alloc (.map #[] 0)).heap.size = w.heap.size + 1 by simp] at h1
      exact h1
    · have h0 := BM.made (P := Try.prog) (K := 3) (E := 4) ((w.alloc (.map #[] 0)).alloc (.map #[] 0))
      have h1 := BM.alloc h0 (.cells #[Value.slice A l.length c, Value.map (some w.heap.size), Value.map (some (w.heap.size + 1)), Value.map (some (w.heap.size + 1 + 1))] 61)
      simpa using h1
    · have h := tab_new (((w.alloc (.map #[] 0)).alloc (.map #[] 0)).alloc (.map #[] 0)) A l.length c w.heap.size (w.heap.size + 1) (w.heap.size + 2)
      rw [show (((w.alloc (.map #[] 0)).alloc (.map #[] 0)).alloc (.map #[] 0)).heap.size = w.heap.size + 3 by simp] at h
      exact h
    · refine ⟨by simp, ?_⟩
      exact ((((Below.refl _ _).alloc (Nat.le_refl _) _).alloc (by simp) _).alloc (by simp; omega) _).alloc (by simp; omega) _
  case round =>
    obtain ⟨x, n, N, rfl, HN, H1, H2, H3, HT, HB⟩ := hrel
    by_cases c1 : x < (l.length : Int)
    · have c1b : decide (x < (l.length : Int)) = true := decide_eq_true c1
      have q1 := eq_true c1
      have hx0 : 0 ≤ x := by have := HN.out; omega
      have q0 := eq_true hx0
      obtain ⟨ad, e1, x0, x1, x2⟩ := at_T40 HR.out x hx0 c1
      cases e1
      replace x0 := (HB.out.2.cell (World.block_lt_of_cell? w _ x0)).trans x0
      replace x1 := (HB.out.2.cell (World.block_lt_of_cell? w _ x1)).trans x1
      replace x2 := (HB.out.2.cell (World.block_lt_of_cell? w _ x2)).trans x2
      have hlt : n < l.length := by have := HN.out; omega
      have hxn : x = (n : Int) := HN.out.1
      have hrd : rd_T40 l x = rd_T40 l n := by rw [hxn]
      have hmem : rd_T40 l x ∈ l := by
        unfold rd_T40
        rw [hxn]
        simp [List.getD_eq_getElem?_getD, hlt]
      obtain ⟨hsz, hwf⟩ := HF.out _ hmem
      have hxwf : (Lit.int .i64 x).wf = true := wfI hx0 (by have := HS.out; omega)
      have e2 : wrap64 (x + 1) = ((n + 1 : Nat) : Int) := by have := HN.out; have := HS.out; unfold wrap64; omega
      have E2 := Aside0.mk e2
      have HX := Aside0.mk (And.intro hlt (And.intro hrd (And.intro hsz (And.intro hwf hxwf))))
      clear c1 hx0 hlt hxn hrd hmem hsz hwf hxwf e2
      go_wp2
      obtain ⟨W, hW⟩ : ∃ W, W = wr.alloc (.cells #[.string (rd_T40 l x).f0, .int .i64 (rd_T40 l x).f1, .int .i64 (rd_T40 l x).f2] 40) := ⟨_, rfl⟩
      rw [← hW]
      have hgW : wr.grownBy W.drew none := grown_drew (by rw [hW]; exact World.grownBy_alloc wr _ none)
      have b0 : W.cell? ⟨wr.heap.size, 0, none⟩ = some (.string (rd_T40 l x).f0) := by rw [hW]; simp
      have b2 : W.cell? ⟨wr.heap.size, 2, none⟩ = some (.int .i64 (rd_T40 l x).f2) := by rw [hW]; simp
      have hsW : W.heap.size = wr.heap.size + 1 := by rw [hW]; simp
      have HW := Aside0.mk hW
      clear hW
      obtain ⟨T0, T1, T2, T3⟩ := HT.out
      have hB4 := HB.out.1
      obtain ⟨v, v', w1, w2, hv, hlk, happ, hg1, hup, hg2, hG⟩ := GMp.round (W := W.drew) H1.out (Maps.string_keyed Try.underlying9) Try.underlying58 Try.underlying26 info3 zero26 (by have := HN.out; have := HS.out; omega) (WideMaps.keyOf_string_mk Try.underlying9 HX.out.2.2.1) hgW HX.out.2.2.2.2 hB4 26
      have hb1 : W.drew.heap[w.heap.size]? = wr.heap[w.heap.size]? := hgW.block _ H1.out.lt.1 (by simp)
      have hnv : ∀ g, g < w.heap.size + 4 ∨ g = wr.heap.size → some g ≠ v.ownBlock := fun g hg e => by
        have := hv g e.symm
        omega
      have t1 : W.drew.cell? ⟨w.heap.size + 1 + 1 + 1, 1, none⟩ = some (.map (some w.heap.size)) := hgW.cell T1 (by simp)
      have t2 : W.drew.cell? ⟨w.heap.size + 1 + 1 + 1, 2, none⟩ = some (.map (some (w.heap.size + 1))) := hgW.cell T2 (by simp)
      have k0 := hlk W.drew hb1
      have hgA : W.drew.grownBy (W.alloc (.cells #[.int .i64 x] 3)).drew none := World.grownBy_alloc W.drew _ none
      have hg1 : (W.alloc (.cells #[.int .i64 x] 3)).drew.grownBy w1 v.ownBlock := hg1
      have a1 := hgA.cell t1 (by simp)
      have a2 := hgA.cell t2 (by simp)
      have c0 := hgA.cell (a := ⟨wr.heap.size, 0, none⟩) b0 (by simp)
      have c2 := hgA.cell (a := ⟨wr.heap.size, 2, none⟩) b2 (by simp)
      have k1 := hlk (W.alloc (.cells #[.int .i64 x] 3)).drew ((hgA.block _ (by have := H1.out.lt.1; simp; omega) (by simp)).trans hb1)
      have d1 := hg1.cell a1 (hnv _ (by simp))
      have d2 := hg1.cell a2 (hnv _ (by simp))
      have f0 := hg1.cell c0 (hnv _ (by simp))
      have f2 := hg1.cell c2 (hnv _ (by simp))
      have k2 := hlk w1 ((hg1.block _ (by have := H1.out.lt.1; simp; omega) (hnv _ (by omega))).trans ((hgA.block _ (by have := H1.out.lt.1; simp; omega) (by simp)).trans hb1))
      have d3 := hg2.cell d2 (ne_some (a := w.heap.size + 1 + 1 + 1) (by omega))
      have d4 := hg2.cell d1 (ne_some (a := w.heap.size + 1 + 1 + 1) (by omega))
      have f4 := hg2.cell f0 (ne_some (a := wr.heap.size) (by omega))
      have f3 := hg2.cell f2 (ne_some (a := wr.heap.size) (by omega))
      have happ' : (Builtin.append_ #[26, 26] 26 #[v, .slice (some ⟨W.heap.size, 0, none⟩) 1 1]).run Try.prog (W.alloc (.cells #[.int .i64 x] 3)).drew = .ok v' w1 := happ
      have hA := (((H2.out.reno (No' := fun j => ¬ N j ∨ wr.heap.size ≤ j) (fun _ h => h)).kept hgW (by simp) (by simp)).kept hgA (by simp) (by simp)).kept hg1 (hnv _ (by omega)) (fun j hj => .inr (.inl (hv j hj).2.2))
      replace hA := hA.kept hg2 (by simp) (fun j hj => by cases hj; exact .inl (by omega))
      have hs2 : wr.heap.size < w2.heap.size := by have h1 := hg1.size; have h2 := hg2.size; simp at h1; omega
      obtain ⟨u, u', w3, w4, hu, hlk2, happ2, hg3, hup2, hg4, hG2⟩ := GMp.round (W := w2.drew) hA (Maps.int_keyed Try.underlying3) Try.underlying59 Try.underlying26 info3 zero26 (by have := HN.out; have := HS.out; omega) (Maps.keyOf_int_mk Try.underlying3 HX.out.2.2.2.1) (grown_drew ⟨rfl, rfl, rfl, Nat.le_refl _, fun _ _ _ => rfl⟩) HX.out.2.2.2.2 (by omega) 26
      have hnu : ∀ g, g < w.heap.size + 4 ∨ g = wr.heap.size → some g ≠ u.ownBlock := fun g hg e => by
        obtain ⟨h1, h2, h3⟩ := hu g e.symm
        rcases hg with hg | hg
        · omega
        · exact h3 (.inr (by omega))
      have hgB : w2.drew.grownBy (w2.alloc (.cells #[.int .i64 x] 3)).drew none := World.grownBy_alloc w2.drew _ none
      have hgB' : w2.grownBy (w2.alloc (.cells #[.int .i64 x] 3)).drew none := grown_drew (World.grownBy_alloc w2 _ none)
      have hg3 : (w2.alloc (.cells #[.int .i64 x] 3)).drew.grownBy w3 u.ownBlock := hg3
      have m0 := hlk2 w2.drew rfl
      have m1 := hlk2 (w2.alloc (.cells #[.int .i64 x] 3)).drew (hgB.block _ (by have := hA.lt.1; simp; omega) (by simp))
      have i0 : w2.drew.cell? ⟨w.heap.size + 1 + 1 + 1, 2, none⟩ = some (.map (some (w.heap.size + 1))) := d3
      have j0 : w2.drew.cell? ⟨wr.heap.size, 2, none⟩ = some (.int .i64 (rd_T40 l x).f2) := f3
      have i1 := hgB.cell i0 (by simp)
      have j1 := hgB.cell j0 (by simp)
      have i2 := hg3.cell i1 (hnu _ (by simp))
      have j2 := hg3.cell j1 (hnu _ (by simp))
      have i3 := hg4.cell i2 (ne_some (a := w.heap.size + 1 + 1 + 1) (by omega))
      have j3 := hg4.cell j2 (ne_some (a := wr.heap.size) (by omega))
      have happ2' : (Builtin.append_ #[26, 26] 26 #[u, .slice (some ⟨w2.heap.size, 0, none⟩) 1 1]).run Try.prog (w2.alloc (.cells #[.int .i64 x] 3)).drew = .ok u' w3 := happ2
      have hR := ((hG.reno (No' := fun j => (N j ∧ j < wr.heap.size) ∨ w2.heap.size ≤ j) (fun _ h => h)).kept hgB' (by simp) (by simp)).kept hg3 (hnu _ (by omega)) (fun j hj => .inr (.inl (by
        obtain ⟨h1, h2, h3⟩ := hu j hj
        exact ⟨Classical.byContradiction fun h => h3 (.inl h), Nat.lt_of_not_le fun h => h3 (.inr h)⟩)))
      replace hR := hR.kept hg4 (by simp) (fun j hj => by cases hj; exact .inl (by omega))
      have hA2 := hG2.reno (No' := fun j => ¬ ((N j ∧ j < wr.heap.size) ∨ w2.heap.size ≤ j)) (fun j h => .inl ⟨Classical.byContradiction fun h' => h (.inl ⟨Classical.byContradiction fun h'' => h' (.inl h''), Nat.lt_of_not_le fun h'' => h' (.inr h'')⟩), Nat.lt_of_not_le fun h' => h (.inr h')⟩)
      have hT4 := ((((((TabC.kept HT.out hgW (by simp)).kept hgA (by simp)).kept hg1 (hnv _ (by omega))).kept hg2 (by simp)).kept hgB' (by simp)).kept hg3 (hnu _ (by omega))).kept hg4 (by simp)
      have hM4 := ((((((H3.out.kept hgW (by simp)).kept hgA (by simp)).kept hg1 (hnv _ (by omega))).kept hg2 (by simp)).kept hgB' (by simp)).kept hg3 (hnu _ (by omega))).kept hg4 (by simp)
      have hb0 := HB.out.2.grown hgW (by omega) (by simp)
      have hb1' := hb0.grown hgA (by have := hb0.size; omega) (by simp)
      have hb2 := hb1'.grown hg1 (by have := hb1'.size; omega) (fun j hj => by have := (hv j hj).1; omega)
      have hb3 := hb2.grown hg2 (by have := hb2.size; omega) (fun j hj => by cases hj; omega)
      have hb4 := hb3.grown hgB' (by have := hb3.size; omega) (by simp)
      have hb5 := hb4.grown hg3 (by have := hb4.size; omega) (fun j hj => by have := (hu j hj).1; omega)
      have hb6 := hb5.grown hg4 (by have := hb5.size; omega) (fun j hj => by cases hj; omega)
      have hs4 : w.heap.size + 4 ≤ w4.heap.size := by have h1 := hgB'.size; have h2 := hg3.size; have h3 := hg4.size; omega
      have HH := Aside0.mk (And.intro hR (And.intro hA2 (And.intro hM4 (And.intro hT4 (And.intro hs4 hb6)))))
      clear hv hlk happ hg1 hg2 hG hgW hgA hb1 hnv T0 T1 T2 T3 hA hu hlk2 happ2 hg3 hg4 hG2 hnu hgB hgB' hR hA2 hT4 hM4 hb0 hb1' hb2 hb3 hb4 hb5 hb6 hs4 hs2 hsW hB4 H1 H2 H3 HT HB
      go_region_held3 (fun w' => w'.cell? ⟨w.heap.size + 1 + 1 + 1, 1, none⟩ = some (.map (some w.heap.size)) ∧ w'.cell? ⟨wr.heap.size, 0, none⟩ = some (.string (rd_T40 l x).f0))
        (first | exact ⟨t1, b0⟩ | exact ⟨a1, c0⟩ | exact ⟨d1, f0⟩ | exact ⟨d4, f4⟩)
        ((refine step_append_run (by rfl) _ _ 26 (by rfl) (by rfl) (by rfl) happ' ?_))
      all_goals go_wp2
      all_goals
        go_region_held3 (fun w' => w'.cell? ⟨w.heap.size + 1 + 1 + 1, 2, none⟩ = some (.map (some (w.heap.size + 1))) ∧ w'.cell? ⟨wr.heap.size, 2, none⟩ = some (.int .i64 (rd_T40 l x).f2))
          (first | exact ⟨i0, j0⟩ | exact ⟨i1, j1⟩ | exact ⟨i2, j2⟩ | exact ⟨i3, j3⟩)
          ((refine step_append_run (by rfl) _ _ 26 (by rfl) (by rfl) (by rfl) happ2' ?_))
      all_goals go_wp2
      all_goals
        go_roundw
        case rel =>
          refine ⟨_, n + 1, _, rfl, ⟨E2.out, HX.out.1⟩, ⟨HH.out.1.eq ?_⟩, ⟨HH.out.2.1.eq ?_⟩, ⟨HH.out.2.2.1⟩, ⟨HH.out.2.2.2.1⟩, ⟨HH.out.2.2.2.2.1, HH.out.2.2.2.2.2⟩⟩
          · intro y; rw [HN.out.1]; rfl
          · intro y; rw [HN.out.1]; rfl
        case measure =>
          have h1 := E2.out
          have h2 := HN.out
          have h3 := HX.out.1
          simp only [intOf, Array.getD_eq_getD_getElem?]
          rw [h1, h2.1]
          omega
    · have c1b : decide (x < (l.length : Int)) = false := decide_eq_false c1
      have hn' : n = l.length := by have := HN.out; omega
      clear c1
      go_wp2
      go_ret
      subst hn'
      exact ⟨rfl, HT.out, ⟨_, H1.out⟩, ⟨_, H2.out⟩, H3.out, HB.out.1, HB.out.2⟩
end Go.Proofs.Ytdieblejeeojhaa.PA
