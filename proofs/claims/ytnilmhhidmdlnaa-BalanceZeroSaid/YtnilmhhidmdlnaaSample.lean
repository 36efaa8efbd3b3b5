/- corebanklaw21.sample. -/
import Derived.RangeFuncBox
import Derived.Test.YtnilmhhidmdlnaaWApart
import Derived.Test.YtnilmhhidmdlnaaPAx0
namespace Go.Proofs.Ytnilmhhidmdlnaa.PA
open Go.RowKit Go.Proofs.YtnilmhhidmdlnaaW.PrintWords Go.Proofs.YtnilmhhidmdlnaaW.PrintLast Go.Proofs.YtnilmhhidmdlnaaW.PrintMore
set_option linter.unusedVariables false
set_option linter.unusedSimpArgs false

theorem reps_two {α : Type} {R : α → List Value → Prop} {s : Nat} {x y : α} {a b : List Value} (ha : a.length = s) (hb : b.length = s) (hx : R x a) (hy : R y b) : Reps R s [x, y] (a ++ b) := by
  refine ⟨by simp [ha, hb]; omega, fun j p hj => ?_⟩
  match j, hj with
  | 0, hj =>
    obtain rfl : x = p := by simpa using hj
    rw [Nat.zero_mul, List.drop_zero, ← ha, List.take_left]
    exact hx
  | 1, hj =>
    obtain rfl : y = p := by simpa using hj
    rw [Nat.one_mul, ← ha, List.drop_left, ha, ← hb, List.take_length]
    exact hy
  | j + 2, hj => simp at hj

theorem tagM {α : Type} {d : Kd α} {f : Nat → Nat} {w : World} {base i : Nat} {ok : Nat → Prop} {x : α} {cs : List Value} (h : d.M w base (fun k => ok k ∧ f k = i) x cs) : (Kd.tag f d).M w base ok (x, i) cs := h
/-- The journal of the example. -/
def sampleL : List S36 := [⟨0, 5, 3, 0, 0, 0, ⟨#[]⟩, ⟨#[]⟩, [⟨101, 70, ⟨#[69, 85, 82]⟩⟩, ⟨1000, -70, ⟨#[69, 85, 82]⟩⟩], 0⟩, ⟨0, 6, 7, 0, 0, 0, ⟨#[]⟩, ⟨#[]⟩, [⟨1000, 20, ⟨#[69, 85, 82]⟩⟩, ⟨101, -20, ⟨#[69, 85, 82]⟩⟩], 0⟩]
theorem legs_row {W : World} {base g : Nat} {ok : Nat → Prop} (x y : S39) (hb : base ≤ g) (hok : ok g) (h : W.heap[g]? = some (.cells #[.int .i64 x.f0, .int .i64 x.f1, .string x.f2, .int .i64 y.f0, .int .i64 y.f1, .string y.f2] 39 (0, 0))) :
    Kd.R k39 39 W base ok (.slice (some ⟨g, 0, none⟩) 2 2) [x, y] :=
  ⟨fun k hk => by
      have : g = k := by simpa [Value.ownBlock] using hk
      rw [← this]; exact hok, [.int .i64 x.f0, .int .i64 x.f1, .string x.f2] ++ [.int .i64 y.f0, .int .i64 y.f1, .string y.f2],
    ⟨rfl, .inr ⟨g, 2, _, rfl, hb, h, Nat.le_refl _, by decide, rfl, rfl⟩⟩, reps_two rfl rfl (k39_mkM _ _ _ x) (k39_mkM _ _ _ y)⟩

def corebanklaw21_sample.f : Option (List S36) := some sampleL
set_option maxRecDepth 100000 in
set_option maxHeartbeats 4000000 in
theorem corebanklaw21_sample.calls (r : List S36) (w : World) (h : corebanklaw21_sample.f = some r) : Calls Try.prog 24 #[] w fun e w' => ∃ v0_ : Value, e = .returned v0_ ∧ Kd.S k36 36 w' w.heap.size (fun _ => True) v0_ r ∧ Below w.heap.size w w' := by
  cases h
  go_enter Try.func24, Try.ntmps24
  go_wp2
  go_ret
  have hB : ∀ o1 o2 o3 o4 o5, Below w.heap.size w (((((w.alloc o1).alloc o2).alloc o3).alloc o4).alloc o5) := fun o1 o2 o3 o4 o5 => (((((Below.refl _ w).alloc (Nat.le_refl _) _).alloc (by simp) _).alloc (by simp; omega) _).alloc (by simp; omega) _).alloc (by simp; omega) _
  refine ⟨_, rfl, ?_, hB _ _ _ _ _⟩
  have h1 : ∀ o1 o2 o3 o4 o5, (((((w.alloc o1).alloc o2).alloc o3).alloc o4).alloc o5).heap[w.heap.size]? = some o1 := fun o1 o2 o3 o4 o5 => blk_alloc (blk_alloc (blk_alloc (blk_alloc (World.alloc_heap_new w o1) _) _) _) _
  have h3 : ∀ o1 o2 o3 o4 o5, (((((w.alloc o1).alloc o2).alloc o3).alloc o4).alloc o5).heap[w.heap.size + 1 + 1]? = some o3 := fun o1 o2 o3 o4 o5 => by
    have := World.alloc_heap_new ((w.alloc o1).alloc o2) o3
    rw [World.size_alloc, World.size_alloc] at this
    exact blk_alloc (blk_alloc this _) _
  have h5 : ∀ o1 o2 o3 o4 o5, (((((w.alloc o1).alloc o2).alloc o3).alloc o4).alloc o5).heap[w.heap.size + 1 + 1 + 1 + 1]? = some o5 := fun o1 o2 o3 o4 o5 => by
    have := World.alloc_heap_new ((((w.alloc o1).alloc o2).alloc o3).alloc o4) o5
    rw [World.size_alloc, World.size_alloc, World.size_alloc, World.size_alloc] at this
    exact this
  refine ⟨fun k => if k = w.heap.size then 0 else 1, ?_⟩
  rw [show sampleL.zipIdx = [(⟨0, 5, 3, 0, 0, 0, ⟨#[]⟩, ⟨#[]⟩, [⟨101, 70, ⟨#[69, 85, 82]⟩⟩, ⟨1000, -70, ⟨#[69, 85, 82]⟩⟩], 0⟩, 0), (⟨0, 6, 7, 0, 0, 0, ⟨#[]⟩, ⟨#[]⟩, [⟨1000, 20, ⟨#[69, 85, 82]⟩⟩, ⟨101, -20, ⟨#[69, 85, 82]⟩⟩], 0⟩, 1)] from rfl]
  refine ⟨fun _ _ => trivial, _, ⟨?_, .inr ⟨_, 2, _, rfl, by omega, h5 _ _ _ _ _, Nat.le_refl _, by decide, rfl, rfl⟩⟩, ?_⟩
  · rfl
  · exact reps_two (s := 10) (a := [.int .i64 0, .int .i64 5, .int .i64 3, .int .i64 0, .int .i64 0, .int .i64 0, .string ⟨#[]⟩, .string ⟨#[]⟩, .slice (some ⟨w.heap.size, 0, none⟩) 2 2, .int .u64 0]) (b := [.int .i64 0, .int .i64 6, .int .i64 7, .int .i64 0, .int .i64 0, .int .i64 0, .string ⟨#[]⟩, .string ⟨#[]⟩, .slice (some ⟨w.heap.size + 1 + 1, 0, none⟩) 2 2, .int .u64 0]) rfl rfl
      (tagM (k36_mkM _ _ _ _ (legs_row ⟨101, 70, ⟨#[69, 85, 82]⟩⟩ ⟨1000, -70, ⟨#[69, 85, 82]⟩⟩ (Nat.le_refl _) ⟨⟨trivial, fun e => by simp [Value.ownBlock] at e; omega⟩, by simp⟩ (h1 _ _ _ _ _))))
      (tagM (k36_mkM _ _ _ _ (legs_row ⟨1000, 20, ⟨#[69, 85, 82]⟩⟩ ⟨101, -20, ⟨#[69, 85, 82]⟩⟩ (by omega) ⟨⟨trivial, fun e => by simp [Value.ownBlock] at e⟩, by simp; omega⟩ (h3 _ _ _ _ _))))
end Go.Proofs.Ytnilmhhidmdlnaa.PA
