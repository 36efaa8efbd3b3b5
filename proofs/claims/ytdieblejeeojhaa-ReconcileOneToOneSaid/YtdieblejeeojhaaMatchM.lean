/- The contract of (*table).match. -/
import Derived.Test.YtdieblejeeojhaaOpen
namespace Go.Proofs.Ytdieblejeeojhaa.PA
open Go.RowKit Go.Proofs.YtdieblejeeojhaaW.PrintWords Go.Proofs.YtdieblejeeojhaaW.PrintLast Go.Proofs.YtdieblejeeojhaaW.PrintMore Go.Proofs.Ytdieblejeeojhaa.MS Go.Proofs.Ytdieblejeeojhaa.GM
attribute [local go_sem] max2_int min2_int max_two min_two max_three min_three max_four min_four
set_option linter.unusedVariables false
set_option linter.unusedSimpArgs false

/-- The places, among the first n, of the items that p takes. -/
def idxL (p : S40 → Bool) (l : List S40) : Nat → List Int
  | 0 => []
  | n + 1 => if p (rd_T40 l n) = true then idxL p l n ++ [(n : Int)] else idxL p l n
theorem grp_idx {f : S40 → Lit} {p : S40 → Bool} {y : Lit} (h : ∀ x, p x = true ↔ y = f x) (l : List S40) (n : Nat) : grp f l n y = idxL p l n := by
  induction n with
  | zero => rfl
  | succ n ih =>
    unfold grp idxL upd
    by_cases e : y = f (rd_T40 l n)
    · rw [if_pos e, if_pos ((h _).2 e), ← e, ih]
    · rw [if_neg e, if_neg (fun h' => e ((h _).1 h')), ih]
theorem grp_ref (x : S40) (l : List S40) (n : Nat) : grp refK l n (refK x) = idxL (fun y => decide (x.f0 = y.f0)) l n := by
  refine grp_idx (fun y => ?_) l n
  unfold refK
  simp only [decide_eq_true_eq, Lit.string.injEq]
  constructor
  · intro h; rw [h]
  · intro h
    cases hx : x.f0
    cases hy : y.f0
    rw [hx, hy] at h
    simp only [ByteArray.mk.injEq]
    exact Array.toList_inj.1 h
theorem grp_amt (x : S40) (l : List S40) (n : Nat) : grp amtK l n (amtK x) = idxL (fun y => decide (x.f2 = y.f2)) l n := by
  refine grp_idx (fun y => ?_) l n
  unfold amtK
  simp
theorem idxL_lt (p : S40 → Bool) (l : List S40) (n : Nat) : (idxL p l n).length ≤ n ∧ ∀ i ∈ idxL p l n, 0 ≤ i ∧ i < (n : Int) := by
  induction n with
  | zero => simp [idxL]
  | succ n ih =>
    unfold idxL
    split
    · refine ⟨by simp; omega, fun i hi => ?_⟩
      rcases List.mem_append.1 hi with hi | hi
      · have := ih.2 i hi; omega
      · simp at hi; omega
    · exact ⟨by omega, fun i hi => by have := ih.2 i hi; omega⟩
/-- The item that is found for x in a pass. -/
def matL (l : List S40) (S : List Int) (x : S40) (pass : Int) : Option Int :=
  if pass = 1 then takeL l S (fun y => y.f2 == x.f2) (idxL (fun y => decide (x.f0 = y.f0)) l l.length)
  else if pass = 2 then takeL l S (fun y => y.f1 == x.f1) (idxL (fun y => decide (x.f2 = y.f2)) l l.length)
  else takeL l S (fun y => nearB x.f1 y.f1) (idxL (fun y => decide (x.f2 = y.f2)) l l.length)
theorem C_of_ints {w : World} {base : Nat} {A : Option Addr} {n c : Nat} {zs : List Int} (h : w.ownsInts base 3 .i64 (.slice A n c) zs) : n = zs.length ∧ Kd.C (Kd.int .i64) w A zs.length zs := by
  obtain ⟨⟨hl, h⟩, _⟩ := h
  rcases h with ⟨h, h0⟩ | ⟨g, cap, cur, h, hb, hg, hn, hm, hs, ht⟩
  · injection h with h1 h2 h3
    have : zs = [] := List.eq_nil_of_length_eq_zero h0
    subst this
    rw [h1, h2]
    exact ⟨rfl, Kd.C_nil _ _⟩
  · have h' := h
    injection h' with h1 h2 h3
    subst h1
    rw [h2] at h
    refine ⟨h2, Kd.C_of_reads (d := (0 : Int)) ⟨rfl, by unfold maxLen at hm; omega, fun _ => ⟨_, rfl, fun j hj => ?_⟩⟩⟩
    have hr : w.ownsRow base 3 1 (.slice (some ⟨g, 0, none⟩) zs.length cap) zs.length (zs.map (Value.int .i64)) := ⟨by simp, .inr ⟨g, cap, cur, rfl, hb, hg, hn, hm, hs, ht⟩⟩
    have := hr.cellAt j (by omega)
    have ha : (⟨g, 0, none⟩ : Addr).add j = ⟨g, j, none⟩ := by simp only [Addr.add, Nat.zero_add]; split <;> simp_all
    rw [ha, this]
    simp [List.getD_eq_getElem?_getD, hj]
set_option maxHeartbeats 400000 in
theorem grown_any {w w' : World} (h : w.grownBy w' none) (r : Option Nat) : w.grownBy w' r := ⟨h.os, h.tape, h.output, h.size, fun i hi _ => h.block i hi (by simp)⟩
set_option maxHeartbeats 8000000 in
set_option maxRecDepth 100000 in
theorem match_1 (tb : Nat) (A : Option Addr) (c : Nat) (l : List S40) (x : S40) (base bR bA bT n : Nat) (N : Nat → Prop) (S : List Int) (w : World)
    (hT : TabC w tb A l.length c bR bA bT) (hr : Kd.C k40 w A l.length l) (hG : GMr base w bR l.length N (grp refK l l.length)) (hM : BMt w bT n S) (hs : l.length ≤ 4096) (hn : n ≤ 100000) (hne : tb ≠ bT) (hx : x.f0.size ≤ maxLen) :
    Calls Try.prog 29 #[.pointer (some ⟨tb, 0, none⟩), .agg #[.string x.f0, .int .i64 x.f1, .int .i64 x.f2], .int .i64 1] w fun e w' =>
      e = .returned (.tuple #[.int .i64 (takeI (matL l S x 1)), .bool (matL l S x 1).isSome]) ∧ BMt w' bT (n + 1) (takeS S (matL l S x 1)) ∧ w.grownBy w' (some bT) := by
  obtain ⟨W, hW⟩ : ∃ W, W = w.alloc (.cells #[.string x.f0, .int .i64 x.f1, .int .i64 x.f2] 40) := ⟨_, rfl⟩
  have hgW : w.grownBy W.drew none := grown_drew (by rw [hW]; exact World.grownBy_alloc w _ none)
  have b0 : W.drew.cell? ⟨w.heap.size, 0, none⟩ = some (.string x.f0) := by rw [hW]; simp
  have b2 : W.drew.cell? ⟨w.heap.size, 2, none⟩ = some (.int .i64 x.f2) := by rw [hW]; simp
  have hB : Below w.heap.size w W.drew := (Below.refl _ _).grown hgW (Nat.le_refl _) (by simp)
  obtain ⟨v, ho, hl, hv, hlk⟩ := hG.look (Maps.string_keyed Try.underlying9) Try.underlying58 zero26 (by unfold maxLen; omega) (WideMaps.keyOf_string_mk Try.underlying9 hx)
  have k0 := hlk W.drew (hgW.block _ hG.lt.1 (by simp))
  obtain ⟨AL, nL, cL, rfl⟩ : ∃ AL nL cL, v = .slice AL nL cL := by
    rcases ho.1.2 with ⟨h, _⟩ | ⟨g, cap, cur, h, _⟩
    · exact ⟨_, _, _, h⟩
    · exact ⟨_, _, _, h⟩
  have hoW : W.drew.ownsInts base 3 .i64 (.slice AL nL cL) (grp refK l l.length (refK x)) := ho.kept hgW (by cases (Value.slice AL nL cL).ownBlock <;> simp)
  obtain ⟨rfl, hC⟩ := C_of_ints hoW
  have hlt := idxL_lt (fun y => decide (x.f0 = y.f0)) l l.length
  have hmat : matL l S x 1 = takeL l S (fun y => y.f2 == x.f2) (grp refK l l.length (refK x)) := by rw [grp_ref]; rfl
  rw [hmat]
  rw [← grp_ref] at hlt
  change (Instr.lookup 58 (Value.map (some bR)) (.string x.f0) false).run Try.prog W.drew = .ok (.slice AL (grp refK l l.length (refK x)).length cL) W.drew at k0
  generalize grp refK l l.length (refK x) = ls at *
  have hTW := hT.kept hgW (by simp)
  have hcon := take.calls tb A c l AL cL ls bT n S 42 (.pointer (some ⟨w.heap.size, 0, none⟩)) (fun y => y.f2 == x.f2) W.drew hTW.1 hTW.2.2.2 (Kd.C_below hr hB) hC (hM.kept hgW (by simp)) hlt.2 hs (Nat.le_trans hlt.1 hs) hn
    (match1_fits w.heap.size x.f2 W.drew b2) (enters_of Try.func42 (by kernel_rfl) rfl)
  have t1 := hTW.2.1
  have hu40 := Try.underlying40
  have hu61 := Try.underlying61
  have h1b := ne_some hne
  have h2b : some w.heap.size ≠ some bT := ne_some (by have := hM.lt; omega)
  have HC := Aside0.mk hcon
  have HH := Aside0.mk hgW
  have HW := Aside0.mk hW.symm
  generalize takeL l S (fun y => y.f2 == x.f2) ls = r at *
  clear hT hr hG hM hs hn hx hgW hB ho hl hv hlk hoW hC hlt hmat hTW hcon b2 hW hne
  go_enter Try.func29, Try.ntmps29
  go_wp2
  rw [HW.out]
  go_region_held3 (fun w' => w'.cell? ⟨tb, 1, none⟩ = some (.map (some bR)) ∧ w'.cell? ⟨w.heap.size, 0, none⟩ = some (.string x.f0))
    (first | exact ⟨t1, b0⟩ | exact ⟨HU.out.2.2.1, HU.out.2.2.2⟩)
    ((go_at_call 41; refine HC.out.mono ?_; rintro e w' ⟨rfl, hm, hg⟩; have HU := Aside0.mk (And.intro hm (And.intro hg (And.intro (hg.cell t1 h1b) (hg.cell b0 h2b)))); clear hm hg))
  all_goals go_wp2
  all_goals
    go_ret2
    exact ⟨rfl, HU.out.1, (grown_any HH.out _).trans HU.out.2.1⟩
set_option maxHeartbeats 8000000 in
set_option maxRecDepth 100000 in
theorem match_2 (tb : Nat) (A : Option Addr) (c : Nat) (l : List S40) (x : S40) (base bR bA bT n : Nat) (N : Nat → Prop) (S : List Int) (w : World)
    (hT : TabC w tb A l.length c bR bA bT) (hr : Kd.C k40 w A l.length l) (hG : GMa base w bA l.length N (grp amtK l l.length)) (hM : BMt w bT n S) (hs : l.length ≤ 4096) (hn : n ≤ 100000) (hne : tb ≠ bT) (hx : (Lit.int .i64 x.f2).wf = true) :
    Calls Try.prog 29 #[.pointer (some ⟨tb, 0, none⟩), .agg #[.string x.f0, .int .i64 x.f1, .int .i64 x.f2], .int .i64 2] w fun e w' =>
      e = .returned (.tuple #[.int .i64 (takeI (matL l S x 2)), .bool (matL l S x 2).isSome]) ∧ BMt w' bT (n + 1) (takeS S (matL l S x 2)) ∧ w.grownBy w' (some bT) := by
  obtain ⟨W, hW⟩ : ∃ W, W = w.alloc (.cells #[.string x.f0, .int .i64 x.f1, .int .i64 x.f2] 40) := ⟨_, rfl⟩
  have hgW : w.grownBy W.drew none := grown_drew (by rw [hW]; exact World.grownBy_alloc w _ none)
  have b0 : W.drew.cell? ⟨w.heap.size, 2, none⟩ = some (.int .i64 x.f2) := by rw [hW]; simp
  have b2 : W.drew.cell? ⟨w.heap.size, 1, none⟩ = some (.int .i64 x.f1) := by rw [hW]; simp
  have hB : Below w.heap.size w W.drew := (Below.refl _ _).grown hgW (Nat.le_refl _) (by simp)
  obtain ⟨v, ho, hl, hv, hlk⟩ := hG.look (Maps.int_keyed Try.underlying3) Try.underlying59 zero26 (by unfold maxLen; omega) (Maps.keyOf_int_mk Try.underlying3 hx)
  have k0 := hlk W.drew (hgW.block _ hG.lt.1 (by simp))
  obtain ⟨AL, nL, cL, rfl⟩ : ∃ AL nL cL, v = .slice AL nL cL := by
    rcases ho.1.2 with ⟨h, _⟩ | ⟨g, cap, cur, h, _⟩
    · exact ⟨_, _, _, h⟩
    · exact ⟨_, _, _, h⟩
  have hoW : W.drew.ownsInts base 3 .i64 (.slice AL nL cL) (grp amtK l l.length (amtK x)) := ho.kept hgW (by cases (Value.slice AL nL cL).ownBlock <;> simp)
  obtain ⟨rfl, hC⟩ := C_of_ints hoW
  have hlt := idxL_lt (fun y => decide (x.f2 = y.f2)) l l.length
  have hmat : matL l S x 2 = takeL l S (fun y => y.f1 == x.f1) (grp amtK l l.length (amtK x)) := by rw [grp_amt]; rfl
  rw [hmat]
  rw [← grp_amt] at hlt
  change (Instr.lookup 59 (Value.map (some bA)) (.int .i64 x.f2) false).run Try.prog W.drew = .ok (.slice AL (grp amtK l l.length (amtK x)).length cL) W.drew at k0
  generalize grp amtK l l.length (amtK x) = ls at *
  have hTW := hT.kept hgW (by simp)
  have hcon := take.calls tb A c l AL cL ls bT n S 43 (.pointer (some ⟨w.heap.size, 0, none⟩)) (fun y => y.f1 == x.f1) W.drew hTW.1 hTW.2.2.2 (Kd.C_below hr hB) hC (hM.kept hgW (by simp)) hlt.2 hs (Nat.le_trans hlt.1 hs) hn
    (match2_fits w.heap.size x.f1 W.drew b2) (enters_of Try.func43 (by kernel_rfl) rfl)
  have t1 := hTW.2.2.1
  have hu40 := Try.underlying40
  have hu61 := Try.underlying61
  have h1b := ne_some hne
  have h2b : some w.heap.size ≠ some bT := ne_some (by have := hM.lt; omega)
  have HC := Aside0.mk hcon
  have HH := Aside0.mk hgW
  have HW := Aside0.mk hW.symm
  generalize takeL l S (fun y => y.f1 == x.f1) ls = r at *
  clear hT hr hG hM hs hn hx hgW hB ho hl hv hlk hoW hC hlt hmat hTW hcon b2 hW hne
  go_enter Try.func29, Try.ntmps29
  go_wp2
  rw [HW.out]
  go_region_held3 (fun w' => w'.cell? ⟨tb, 2, none⟩ = some (.map (some bA)) ∧ w'.cell? ⟨w.heap.size, 2, none⟩ = some (.int .i64 x.f2))
    (first | exact ⟨t1, b0⟩ | exact ⟨HU.out.2.2.1, HU.out.2.2.2⟩)
    ((go_at_call 41; refine HC.out.mono ?_; rintro e w' ⟨rfl, hm, hg⟩; have HU := Aside0.mk (And.intro hm (And.intro hg (And.intro (hg.cell t1 h1b) (hg.cell b0 h2b)))); clear hm hg))
  all_goals go_wp2
  all_goals
    go_ret2
    exact ⟨rfl, HU.out.1, (grown_any HH.out _).trans HU.out.2.1⟩
set_option maxHeartbeats 8000000 in
set_option maxRecDepth 100000 in
theorem match_3 (tb : Nat) (A : Option Addr) (c : Nat) (l : List S40) (x : S40) (base bR bA bT n : Nat) (N : Nat → Prop) (S : List Int) (w : World)
    (hT : TabC w tb A l.length c bR bA bT) (hr : Kd.C k40 w A l.length l) (hG : GMa base w bA l.length N (grp amtK l l.length)) (hM : BMt w bT n S) (hs : l.length ≤ 4096) (hn : n ≤ 100000) (hne : tb ≠ bT) (hx : (Lit.int .i64 x.f2).wf = true) :
    Calls Try.prog 29 #[.pointer (some ⟨tb, 0, none⟩), .agg #[.string x.f0, .int .i64 x.f1, .int .i64 x.f2], .int .i64 3] w fun e w' =>
      e = .returned (.tuple #[.int .i64 (takeI (matL l S x 3)), .bool (matL l S x 3).isSome]) ∧ BMt w' bT (n + 1) (takeS S (matL l S x 3)) ∧ w.grownBy w' (some bT) := by
  obtain ⟨W, hW⟩ : ∃ W, W = w.alloc (.cells #[.string x.f0, .int .i64 x.f1, .int .i64 x.f2] 40) := ⟨_, rfl⟩
  have hgW : w.grownBy W.drew none := grown_drew (by rw [hW]; exact World.grownBy_alloc w _ none)
  have b0 : W.drew.cell? ⟨w.heap.size, 2, none⟩ = some (.int .i64 x.f2) := by rw [hW]; simp
  have b2 : W.drew.cell? ⟨w.heap.size, 1, none⟩ = some (.int .i64 x.f1) := by rw [hW]; simp
  have hB : Below w.heap.size w W.drew := (Below.refl _ _).grown hgW (Nat.le_refl _) (by simp)
  obtain ⟨v, ho, hl, hv, hlk⟩ := hG.look (Maps.int_keyed Try.underlying3) Try.underlying59 zero26 (by unfold maxLen; omega) (Maps.keyOf_int_mk Try.underlying3 hx)
  have k0 := hlk W.drew (hgW.block _ hG.lt.1 (by simp))
  obtain ⟨AL, nL, cL, rfl⟩ : ∃ AL nL cL, v = .slice AL nL cL := by
    rcases ho.1.2 with ⟨h, _⟩ | ⟨g, cap, cur, h, _⟩
    · exact ⟨_, _, _, h⟩
    · exact ⟨_, _, _, h⟩
  have hoW : W.drew.ownsInts base 3 .i64 (.slice AL nL cL) (grp amtK l l.length (amtK x)) := ho.kept hgW (by cases (Value.slice AL nL cL).ownBlock <;> simp)
  obtain ⟨rfl, hC⟩ := C_of_ints hoW
  have hlt := idxL_lt (fun y => decide (x.f2 = y.f2)) l l.length
  have hmat : matL l S x 3 = takeL l S (fun y => nearB x.f1 y.f1) (grp amtK l l.length (amtK x)) := by rw [grp_amt]; rfl
  rw [hmat]
  rw [← grp_amt] at hlt
  change (Instr.lookup 59 (Value.map (some bA)) (.int .i64 x.f2) false).run Try.prog W.drew = .ok (.slice AL (grp amtK l l.length (amtK x)).length cL) W.drew at k0
  generalize grp amtK l l.length (amtK x) = ls at *
  have hTW := hT.kept hgW (by simp)
  have hcon := take.calls tb A c l AL cL ls bT n S 44 (.pointer (some ⟨w.heap.size, 0, none⟩)) (fun y => nearB x.f1 y.f1) W.drew hTW.1 hTW.2.2.2 (Kd.C_below hr hB) hC (hM.kept hgW (by simp)) hlt.2 hs (Nat.le_trans hlt.1 hs) hn
    (match3_fits w.heap.size x.f1 W.drew b2) (enters_of Try.func44 (by kernel_rfl) rfl)
  have t1 := hTW.2.2.1
  have hu40 := Try.underlying40
  have hu61 := Try.underlying61
  have h1b := ne_some hne
  have h2b : some w.heap.size ≠ some bT := ne_some (by have := hM.lt; omega)
  have HC := Aside0.mk hcon
  have HH := Aside0.mk hgW
  have HW := Aside0.mk hW.symm
  generalize takeL l S (fun y => nearB x.f1 y.f1) ls = r at *
  clear hT hr hG hM hs hn hx hgW hB ho hl hv hlk hoW hC hlt hmat hTW hcon b2 hW hne
  go_enter Try.func29, Try.ntmps29
  go_wp2
  rw [HW.out]
  go_region_held3 (fun w' => w'.cell? ⟨tb, 2, none⟩ = some (.map (some bA)) ∧ w'.cell? ⟨w.heap.size, 2, none⟩ = some (.int .i64 x.f2))
    (first | exact ⟨t1, b0⟩ | exact ⟨HU.out.2.2.1, HU.out.2.2.2⟩)
    ((go_at_call 41; refine HC.out.mono ?_; rintro e w' ⟨rfl, hm, hg⟩; have HU := Aside0.mk (And.intro hm (And.intro hg (And.intro (hg.cell t1 h1b) (hg.cell b0 h2b)))); clear hm hg))
  all_goals go_wp2
  all_goals
    go_ret2
    exact ⟨rfl, HU.out.1, (grown_any HH.out _).trans HU.out.2.1⟩
end Go.Proofs.Ytdieblejeeojhaa.PA
