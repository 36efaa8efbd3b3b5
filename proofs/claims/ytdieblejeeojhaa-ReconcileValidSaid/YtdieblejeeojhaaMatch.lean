/- The contract of reconcile.Match. -/
import Derived.Test.YtdieblejeeojhaaSortC
namespace Go.Proofs.Ytdieblejeeojhaa.PA
open Go.RowKit Go.Proofs.YtdieblejeeojhaaW.PrintWords Go.Proofs.YtdieblejeeojhaaW.PrintLast Go.Proofs.YtdieblejeeojhaaW.PrintMore Go.Proofs.Ytdieblejeeojhaa.MS Go.Proofs.Ytdieblejeeojhaa.GM
attribute [local go_sem] max2_int min2_int max_two min_two max_three min_three max_four min_four
set_option linter.unusedVariables false
set_option linter.unusedSimpArgs false

/-- What holds between two rounds. -/
structure Inv (w : World) (HM : Nat) (A1 : Option Addr) (c1 : Nat) (l1 : List S40) (K : Nat) (v9 : Value) (s : St) (wr : World) : Prop where
  tab : TabC wr (w.heap.size + 3) A1 l1.length c1 w.heap.size (w.heap.size + 1) (w.heap.size + 2)
  ref : GMr (w.heap.size + 4) wr w.heap.size l1.length (fun j => HM ≤ j) (grp refK l1 l1.length)
  amt : GMa (w.heap.size + 4) wr (w.heap.size + 1) l1.length (fun j => HM ≤ j) (grp amtK l1 l1.length)
  tak : ∃ n, n ≤ K ∧ BMt wr (w.heap.size + 2) n s.S
  met : ∃ n, n ≤ K ∧ BMt wr HM n s.M
  row : Kd.R k38 38 wr w.heap.size (fun k => HM < k) v9 s.out
  len : s.out.length ≤ K
  low : w.heap.size + 4 ≤ HM
  hgh : HM < wr.heap.size
  bel : Below w.heap.size w wr
section
variable {w wr W : World} {HM c1 K : Nat} {A1 : Option Addr} {l1 : List S40} {v9 v' : Value} {s : St}
theorem R_grown {ok : Nat → Prop} {base : Nat} {xs : List S38} {v : Value} {row : Option Nat} (h : Kd.R k38 38 wr base ok v xs) (hg : wr.grownBy W row) (hr : ∀ j, row = some j → ¬ ok j) : Kd.R k38 38 W base ok v xs :=
  Kd.R_step h (fun k hk hl => hg.block k hl (fun e => hr k e.symm hk))
theorem Inv.quiet (h : Inv w HM A1 c1 l1 K v9 s wr) (hg : wr.grownBy W none) : Inv w HM A1 c1 l1 K v9 s W := {
  tab := h.tab.kept hg (by simp)
  ref := h.ref.kept hg (by simp) (by simp)
  amt := h.amt.kept hg (by simp) (by simp)
  tak := by obtain ⟨n, h1, h2⟩ := h.tak; exact ⟨n, h1, h2.kept hg (by simp)⟩
  met := by obtain ⟨n, h1, h2⟩ := h.met; exact ⟨n, h1, h2.kept hg (by simp)⟩
  row := R_grown h.row hg (by simp)
  len := h.len
  low := h.low
  hgh := Nat.lt_of_lt_of_le h.hgh hg.size
  bel := h.bel.grown hg (by have := h.hgh; have := h.low; omega) (by simp) }
theorem Inv.taken {S' : List Int} {n : Nat} (h : Inv w HM A1 c1 l1 K v9 s wr) (hg : wr.grownBy W (some (w.heap.size + 2))) (hn : n ≤ K) (hb : BMt W (w.heap.size + 2) (n + 1) S') : Inv w HM A1 c1 l1 (K + 1) v9 { s with S := S' } W := {
  tab := h.tab.kept hg (ne_some (by omega))
  ref := h.ref.kept hg (ne_some (by omega)) (fun j hj => by cases hj; exact .inl (by omega))
  amt := h.amt.kept hg (ne_some (by omega)) (fun j hj => by cases hj; exact .inl (by omega))
  tak := ⟨n + 1, by omega, hb⟩
  met := by obtain ⟨n, h1, h2⟩ := h.met; exact ⟨n, by omega, h2.kept hg (ne_some (by have := h.low; omega))⟩
  row := R_grown h.row hg (fun j hj => by cases hj; have := h.low; omega)
  len := by have := h.len; show s.out.length ≤ K + 1; omega
  low := h.low
  hgh := Nat.lt_of_lt_of_le h.hgh hg.size
  bel := h.bel.grown hg (by have := h.hgh; have := h.low; omega) (fun j hj => by cases hj; omega) }
theorem Inv.mets {M' : List Int} {n : Nat} (h : Inv w HM A1 c1 l1 K v9 s wr) (hg : wr.grownBy W (some HM)) (hn : n ≤ K) (hb : BMt W HM (n + 1) M') : Inv w HM A1 c1 l1 (K + 1) v9 { s with M := M' } W := {
  tab := h.tab.kept hg (ne_some (by have := h.low; omega))
  ref := h.ref.kept hg (ne_some (by have := h.low; omega)) (fun j hj => by cases hj; exact .inr (Nat.le_refl _))
  amt := h.amt.kept hg (ne_some (by have := h.low; omega)) (fun j hj => by cases hj; exact .inr (Nat.le_refl _))
  tak := by obtain ⟨n, h1, h2⟩ := h.tak; exact ⟨n, by omega, h2.kept hg (ne_some (by have := h.low; omega))⟩
  met := ⟨n + 1, by omega, hb⟩
  row := R_grown h.row hg (fun j hj => by cases hj; omega)
  len := by have := h.len; show s.out.length ≤ K + 1; omega
  low := h.low
  hgh := Nat.lt_of_lt_of_le h.hgh hg.size
  bel := h.bel.grown hg (by have := h.hgh; have := h.low; omega) (fun j hj => by cases hj; have := h.low; omega) }
theorem Inv.app {out' : List S38} (h : Inv w HM A1 c1 l1 K v9 s wr) (hg : wr.grownBy W v9.ownBlock) (hr : Kd.R k38 38 W w.heap.size (fun k => HM < k) v' out') (hl : out'.length ≤ K + 1) : Inv w HM A1 c1 l1 (K + 1) v' { s with out := out' } W := by
  have hown : ∀ j, v9.ownBlock = some j → HM < j := h.row.1
  have hne : ∀ j, j ≤ HM → some j ≠ v9.ownBlock := fun j hj e => by have := hown j e.symm; omega
  have hlow := h.low
  exact {
    tab := h.tab.kept hg (hne _ (by omega))
    ref := h.ref.kept hg (hne _ (by omega)) (fun j hj => .inr (Nat.le_of_lt (hown j hj)))
    amt := h.amt.kept hg (hne _ (by omega)) (fun j hj => .inr (Nat.le_of_lt (hown j hj)))
    tak := by obtain ⟨n, h1, h2⟩ := h.tak; exact ⟨n, by omega, h2.kept hg (hne _ (by omega))⟩
    met := by obtain ⟨n, h1, h2⟩ := h.met; exact ⟨n, by omega, h2.kept hg (hne _ (by omega))⟩
    row := hr
    len := hl
    low := h.low
    hgh := Nat.lt_of_lt_of_le h.hgh hg.size
    bel := h.bel.grown hg (by have := h.hgh; omega) (fun j hj => by have := hown j hj; omega) }
theorem Inv.mono {K' : Nat} (h : Inv w HM A1 c1 l1 K v9 s wr) (hk : K ≤ K') : Inv w HM A1 c1 l1 K' v9 s wr :=
  { h with
    tak := by obtain ⟨n, h1, h2⟩ := h.tak; exact ⟨n, by omega, h2⟩
    met := by obtain ⟨n, h1, h2⟩ := h.met; exact ⟨n, by omega, h2⟩
    len := Nat.le_trans h.len hk }
end
def okI (x : S40) : Bool := decide (x.f0.size ≤ 9223372036854775807) && (Lit.int .i64 x.f2).wf
theorem match_any (tb : Nat) (A : Option Addr) (c : Nat) (l : List S40) (x : S40) (p : Int) (base bR bA bT n : Nat) (N : Nat → Prop) (S : List Int) (w : World)
    (hT : TabC w tb A l.length c bR bA bT) (hr : Kd.C k40 w A l.length l) (hG : GMr base w bR l.length N (grp refK l l.length)) (hA : GMa base w bA l.length N (grp amtK l l.length)) (hM : BMt w bT n S) (hs : l.length ≤ 4096) (hn : n ≤ 100000) (hne : tb ≠ bT) (hx : okI x = true) (hp : p = 1 ∨ p = 2 ∨ p = 3) :
    Calls Try.prog 29 #[.pointer (some ⟨tb, 0, none⟩), .agg #[.string x.f0, .int .i64 x.f1, .int .i64 x.f2], .int .i64 p] w fun e w' =>
      e = .returned (.tuple #[.int .i64 (takeI (matL l S x p)), .bool (matL l S x p).isSome]) ∧ BMt w' bT (n + 1) (takeS S (matL l S x p)) ∧ w.grownBy w' (some bT) := by
  simp only [okI, Bool.and_eq_true, decide_eq_true_eq] at hx
  rcases hp with rfl | rfl | rfl
  · exact match_1 tb A c l x base bR bA bT n N S w hT hr hG hM hs hn hne hx.1
  · exact match_2 tb A c l x base bR bA bT n N S w hT hr hA hM hs hn hne hx.2
  · exact match_3 tb A c l x base bR bA bT n N S w hT hr hA hM hs hn hne hx.2
def reconcile_Match.f (l0 l1 : List S40) : Option (List S38 × List Int × List Int) :=
  if (decide (l0.length ≤ 4096) && decide (l1.length ≤ 4096) && l0.all okI && l1.all okI) = true then some (ordL (runM l0 l1).out l0.length, restL (runM l0 l1).M l0.length, restL (runM l0 l1).S l1.length) else none
end Go.Proofs.Ytdieblejeeojhaa.PA
