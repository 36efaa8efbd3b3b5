/- The contract of slices.SortFunc at the pairs. -/
import Derived.Test.YtdieblejeeojhaaOrd
import Derived.Test.YtdieblejeeojhaaSortK
import Derived.Test.YtdieblejeeojhaaSort
namespace Go.Proofs.Ytdieblejeeojhaa.PA
open Go.RowKit Go.Proofs.YtdieblejeeojhaaW.PrintWords Go.Proofs.YtdieblejeeojhaaW.PrintLast Go.Proofs.YtdieblejeeojhaaW.PrintMore Go.Shelf Go.Lib Go.Sort
set_option linter.unusedVariables false
set_option linter.unusedSimpArgs false

instance : Inhabited S38 := ⟨z38⟩
def enc38 (x : S38) : List Value := [.int .i64 x.f0, .int .i64 x.f1, .int .i64 x.f2]
theorem k38_iff (w : World) (base : Nat) (ok : Nat → Prop) (x : S38) (cs : List Value) : k38.M w base ok x cs ↔ cs = enc38 x := ⟨fun h => k38_openM h, fun h => by rw [h]; exact k38_mkM _ _ _ _⟩
theorem cf_lt (x y : S38) : ltOf (fun x y : S38 => Lib.compareInt x.f0 y.f0) x y = decide (x.f0 < y.f0) := by
  unfold ltOf Lib.compareInt
  by_cases h1 : x.f0 < y.f0
  · simp [h1]
  · by_cases h2 : y.f0 < x.f0 <;> simp [h1, h2]
theorem cf_swo : SWO (ltOf fun x y : S38 => Lib.compareInt x.f0 y.f0) := {
  irrefl x := by rw [cf_lt]; simp
  trans x y z h1 h2 := by rw [cf_lt] at *; simp at *; omega
  ntrans x y z h1 h2 := by rw [cf_lt] at *; simp at *; omega }
set_option maxHeartbeats 1000000 in
theorem cmp31 (x y : S38) (W : World) : Calls Try.prog 31 #[.agg #[.int .i64 x.f0, .int .i64 x.f1, .int .i64 x.f2], .agg #[.int .i64 y.f0, .int .i64 y.f1, .int .i64 y.f2]] W fun e w' => e = .returned (.int .i64 (Lib.compareInt x.f0 y.f0)) ∧ ∃ q os', w' = grow (W.drewN q) os' := by
  have hcon := fun W' => AnyG.cmp_Compare_int Try.cmpInt x.f0 y.f0 W'
  change ∀ W', Calls Try.prog 32 _ _ _ at hcon
  generalize Lib.compareInt x.f0 y.f0 = r at hcon ⊢
  go_enter Try.func31, Try.ntmps31
  go_wp2_with (go_at_call 32; refine (hcon _).mono ?_; rintro e w' ⟨rfl, rfl⟩)
  go_ret
  exact ⟨rfl, 0, _, by rw [alloc_eq_grow, alloc_eq_grow, grow_grow]; rfl⟩
/-- A permutation of xs, ascending by the first number. -/
def Sorted38 (xs ys : List S38) : Prop := ys.Perm xs ∧ ys.Pairwise (fun a b => ¬ b.f0 < a.f0)
set_option maxHeartbeats 1000000 in
theorem sort38.calls (v : Value) (xs : List S38) (base : Nat) (ok : Nat → Prop) (w : World) (hr : Kd.R k38 38 w base ok v xs) (hl : xs.length ≤ 1000000) :
    Calls Try.prog 30 #[v, .func (.func 31) #[] #[]] w fun e w' => e = .returned (.tuple #[]) ∧ ∃ ys, Sorted38 xs ys ∧ Kd.R k38 38 w' base ok v ys ∧ w.grownBy w' v.ownBlock := by
  have hown := hr
  obtain ⟨_, inner, ho, hrep⟩ := hown
  rcases ho.2 with ⟨hv, h0⟩ | ⟨g, cap, cur, hv, _⟩
  · subst hv
    have hx : xs = [] := List.eq_nil_of_length_eq_zero h0
    subst hx
    have hcon := AnyF.slices_SortFunc_none Try.sortPairs none 0 (.func (.func 31) #[] #[]) w
    change Calls Try.prog 30 _ _ _ at hcon
    exact hcon.mono fun e w' ⟨he, hw⟩ => ⟨he, [], ⟨List.Perm.refl _, by simp⟩, by rw [hw]; exact hr, by rw [hw]; exact ⟨rfl, rfl, rfl, Nat.le_refl _, fun _ _ _ => rfl⟩⟩
  · subst hv
    obtain ⟨_, hlt, hH, hback⟩ := SK.sortRow (enc := enc38) (k := 3) (fun _ => rfl) rfl k38_iff hr
    have eg : ∀ args w, (callFunc 31 args).run Try.prog w = .ok (.enter 31 args) w := enters_of Try.func31 (by kernel_rfl) rfl
    have hcon := AnyQ.slices_SortFunc Try.sortPairs 3 Try.isAgg38 Try.sizeOf38 enc38 (fun _ => rfl) (fun x v hv => by simp [enc38] at hv; rcases hv with rfl | rfl | rfl <;> rfl) (fun x y => Lib.compareInt x.f0 y.f0) cf_swo 31 #[] g 0 cap xs.toArray w eg (fun _ _ _ _ x y => cmp31 x y _) hH hlt (by simp; omega)
    change Calls Try.prog 30 _ _ _ at hcon
    refine hcon.mono ?_
    rintro e w' ⟨he, d', n, os, hp, hs, rfl⟩
    obtain ⟨hsz, _, hperm⟩ := hp
    have e1 : d'.extract 0 xs.toArray.size = d' := by rw [← hsz]; exact Array.extract_size
    rw [e1, Array.extract_size] at hperm
    have hd : d' = d'.toList.toArray := by simp
    refine ⟨he, d'.toList, ⟨by simpa using hperm, ?_⟩, ?_, ?_⟩
    · rw [List.pairwise_iff_getElem]
      intro i j hi hj hij
      have := hs i j (Nat.zero_le _) hij (by rw [← hsz]; simpa using hj)
      rw [cf_lt] at this
      simp at this hi hj
      rw [getElem!_pos d' i hi, getElem!_pos d' j hj] at this
      simpa using this
    · rw [hd]
      exact hback n os d'.toList (by simpa using hsz)
    · exact SK.grownK d'
end Go.Proofs.Ytdieblejeeojhaa.PA
