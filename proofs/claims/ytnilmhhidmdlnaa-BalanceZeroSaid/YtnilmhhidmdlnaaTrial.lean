/- balance.Trial: the walk. -/
import Derived.Test.YtnilmhhidmdlnaaColl
namespace Go.Proofs.Ytnilmhhidmdlnaa.PA
open Go.RowKit Go.Maps Go.Proofs.YtnilmhhidmdlnaaW.PrintWords Go.Proofs.YtnilmhhidmdlnaaW.PrintLast Go.Proofs.YtnilmhhidmdlnaaW.PrintMore
set_option linter.unusedVariables false
set_option linter.unusedSimpArgs false

def okS (x : S39) : Bool := (Lit.int .i64 x.f0).wf && (Lit.int .i64 x.f1).wf && decide (x.f2.size ≤ maxLen)
/-- What the map of sums holds when the legs xs are in. -/
structure Sums (D : DataW Unit) (xs : List S39) : Prop where
  map : IsMap D
  sum : ∀ a s, (Lit.int .i64 a).wf = true → s.size ≤ maxLen → D.atKey (pk a s) (.lit (.int .i64 0)) = .lit (.int .i64 (sumK a s xs))
  has : ∀ a s, (Lit.int .i64 a).wf = true → s.size ≤ maxLen → Maps.has D (pk a s) = xs.any (isK a s)
theorem Sums.made : Sums (.map []) [] := ⟨isMap_empty, fun _ _ _ _ => rfl, fun _ _ _ _ => rfl⟩
theorem isK_self (x : S39) : isK x.f0 x.f2 x = true := (isK_iff _ _ _).2 ⟨rfl, rfl⟩
theorem Sums.step {D : DataW Unit} {xs : List S39} (h : Sums D xs) {x : S39} (h0 : (Lit.int .i64 x.f0).wf = true) (h2 : x.f2.size ≤ maxLen) : Sums (D.put (pk x.f0 x.f2) (.lit (.int .i64 (wrap64 (sumK x.f0 x.f2 xs + x.f1))))) (xs ++ [x]) := by
  refine ⟨h.map.put _ _, fun a s ha hs => ?_, fun a s ha hs => ?_⟩
  · rw [sumK_snoc]
    by_cases c : isK a s x = true
    · obtain ⟨rfl, rfl⟩ := (isK_iff _ _ _).1 c
      rw [if_pos c, atKey_put_same h.map (pk_ok h0 h2)]
    · have hne : pk a s ≠ pk x.f0 x.f2 := fun e => c ((isK_iff _ _ _).2 (by have := pk_inj ha hs h0 h2 e; exact ⟨this.1.symm, this.2.symm⟩))
      rw [if_neg c, atKey_put_other hne, h.sum a s ha hs]
  · rw [List.any_append]
    by_cases c : isK a s x = true
    · obtain ⟨rfl, rfl⟩ := (isK_iff _ _ _).1 c
      rw [has_put_same h.map (pk_ok h0 h2)]
      simp [c]
    · have hne : pk a s ≠ pk x.f0 x.f2 := fun e => c ((isK_iff _ _ _).2 (by have := pk_inj ha hs h0 h2 e; exact ⟨this.1.symm, this.2.symm⟩))
      rw [has_put_other hne, h.has a s ha hs]
      simp [c]
/-- The first loop: block b is the map of the legs xs; the rest is as it lay. -/
structure TInv (w : World) (xs : List S39) (wr : World) : Prop where
  map : ∃ n D, SMap wr w.heap.size n D ∧ n ≤ xs.length ∧ Sums D xs
  bel : Below w.heap.size w wr
theorem TInv.alloc {w wr : World} {xs : List S39} (h : TInv w xs wr) (o : Obj) : TInv w xs (wr.alloc o) := by
  obtain ⟨⟨n, D, h1, h2, h3⟩, hb⟩ := h
  exact ⟨⟨n, D, h1.alloc o, h2, h3⟩, hb.alloc hb.size o⟩
/-- One leg more, from the world of the region on. -/
theorem TInv.round {w W : World} {xs : List S39} (h : TInv w xs W) {x : S39} (hx : okS x = true) (hn : xs.length ≤ 1000000) :
    ∃ (c : Int) (v0 : Value) (st : Nat) (W1 W2 : World), (Instr.lookup 50 (.map (some w.heap.size)) (.agg #[.int .i64 x.f0, .string x.f2]) false).run Try.prog W.drew = .ok (.int .i64 c) W.drew ∧
      (Instr.mapEntry 50 (.map (some w.heap.size)) (.agg #[.int .i64 x.f0, .string x.f2])).run Try.prog W.drew = .ok (.tuple #[v0, .int .i64 (st : Int)]) W1 ∧
      (Instr.lookup 50 (.map (some w.heap.size)) (.agg #[.int .i64 x.f0, .string x.f2]) false).run Try.prog W1 = .ok (.int .i64 c) W1 ∧ W.drew.grownBy W1 (some w.heap.size) ∧
      (Instr.entryStore 50 (.map (some w.heap.size)) (.int .i64 (st : Int)) (.int .i64 (wrap64 (c + x.f1)))).run Try.prog W1 = .ok () W2 ∧ W.drew.grownBy W2 (some w.heap.size) ∧ TInv w (xs ++ [x]) W2 := by
  simp only [okS, Bool.and_eq_true, decide_eq_true_eq] at hx
  obtain ⟨⟨h0, h1⟩, h2⟩ := hx
  obtain ⟨⟨n, D, hm, hnx, hs⟩, hb⟩ := h
  have hm' : SMap W.drew w.heap.size n D := hm.drew
  obtain ⟨c, v0, st, W1, hat, hwc, hl, he, hl1, hg, hst⟩ := place_round hm' h0 h2 (by unfold maxLen; omega)
  obtain ⟨W2, hs2, hm2, hg2⟩ := hst (wrap64 (c + x.f1)) (wrap64_wf _)
  have hc : c = sumK x.f0 x.f2 xs := by
    have := hs.sum _ _ h0 h2
    rw [hat] at this
    simpa using this
  refine ⟨c, v0, st, W1, W2, hl, he, hl1, hg, hs2, hg2, ⟨⟨n + 1, _, hm2, by simp; omega, ?_⟩, ?_⟩⟩
  · rw [hc]; exact hs.step h0 h2
  · exact hb.drew.grown hg2 hb.size (fun k e => by cases e; exact Nat.le_refl _)
/-- What comes when nothing is left. -/
theorem Coll.done {D : DataW Unit} {left : Lit → Bool} {ys : List S39} {l : List S36} (h : Coll D left ys) (hs : Sums D (legs l)) (hl : ∀ kl, left kl = false) (hok : ∀ x ∈ legs l, okS x = true) (y : S39) : y ∈ ys ↔ y ∈ trialL l := by
  have hok' : ∀ x ∈ legs l, (Lit.int .i64 x.f0).wf = true ∧ (Lit.int .i64 x.f1).wf = true ∧ x.f2.size ≤ maxLen := fun x hx => by
    have := hok x hx
    simp only [okS, Bool.and_eq_true, decide_eq_true_eq] at this
    exact ⟨this.1.1, this.1.2, this.2⟩
  rw [h.mem y, mem_trial l (fun x hx => by
    have := (hok' x hx).2.1
    simp only [Lit.wf, Bool.and_eq_true, decide_eq_true_eq] at this
    have h1 : IntKind.i64.min = -9223372036854775808 := rfl
    have h2 : IntKind.i64.max = 9223372036854775807 := rfl
    rw [h1, h2] at this
    unfold wrap64
    omega)]
  constructor
  · rintro ⟨h1, h2, h3, h4, _, h6⟩
    rw [hs.has _ _ h2 h3] at h4
    rw [hs.sum _ _ h2 h3] at h6
    exact ⟨h1, h4, by simpa using h6⟩
  · rintro ⟨h1, h2, h3⟩
    obtain ⟨x, hx, hk⟩ := List.any_eq_true.1 h2
    rw [isK_iff] at hk
    have h4 := hok' x hx
    rw [hk.1, hk.2] at h4
    exact ⟨h1, h4.1, h4.2.2, by rw [hs.has _ _ h4.1 h4.2.2]; exact h2, hl _, by rw [hs.sum _ _ h4.1 h4.2.2, h3]⟩
theorem asc_of_sorted {xs ys : List S39} (h : Sorted39 xs ys) (ha : xs.Pairwise fun x y => ¬ (x.f0 = y.f0 ∧ x.f2 = y.f2)) : Asc ys := by
  have ha' : ys.Pairwise fun x y => ¬ (x.f0 = y.f0 ∧ x.f2 = y.f2) := (h.1.pairwise_iff (fun {x y} hne e => hne ⟨e.1.symm, e.2.symm⟩)).2 ha
  refine (h.2.and ha').imp ?_
  rintro x y ⟨h1, h2⟩
  cases h3 : lessB x y
  · exact absurd (less_tot x y h3 h1) h2
  · rfl
/-- The second loop: what has been collected lies in a row of the call's own. -/
structure RInv (w : World) (HM : Nat) (D : DataW Unit) (v8 : Value) (left : Lit → Bool) (cnt : Nat) (ys : List S39) (wl : World) : Prop where
  coll : Coll D left ys
  row : Kd.R k39 39 wl w.heap.size (fun k => HM < k) v8 ys
  len : ys.length + cnt ≤ 4096
  low : w.heap.size < HM
  hgh : HM < wl.heap.size
  bel : Below w.heap.size w wl
theorem RInv.next {w wl W : World} {HM cnt cnt' : Nat} {D : DataW Unit} {v8 : Value} {left : Lit → Bool} {ys : List S39} {a : Int} {s : ByteArray} (h : RInv w HM D v8 left cnt ys wl) (hg : wl.grownBy W (some HM)) (hc : cnt' < cnt)
    (ha : (Lit.int .i64 a).wf = true) (hs : s.size ≤ maxLen) (hat : ∀ zd, D.atKey (pk a s) zd = .lit (.int .i64 0)) : RInv w HM D v8 (fun z => left z && !z.sameKey (pk a s)) cnt' ys W := {
  coll := h.coll.skip ha hs hat
  row := Kd.R_grown h.row hg (fun j hj e => by cases e; omega)
  len := by have := h.len; omega
  low := h.low
  hgh := Nat.lt_of_lt_of_le h.hgh hg.size
  bel := h.bel.grown hg (by have := h.hgh; have := h.low; omega) (fun j hj => by cases hj; exact Nat.le_of_lt h.low) }
theorem RInv.taken {w wl W : World} {HM cnt cnt' : Nat} {D : DataW Unit} {v8 v1 : Value} {left : Lit → Bool} {ys : List S39} {a c : Int} {s : ByteArray} (h : RInv w HM D v8 left cnt ys wl) (hc : cnt' < cnt)
    (ha : (Lit.int .i64 a).wf = true) (hs : s.size ≤ maxLen) (hlk : left (pk a s) = true) (hat : ∀ zd, D.atKey (pk a s) zd = .lit (.int .i64 c)) (hc0 : ¬ c = 0) (hr : Kd.R k39 39 W w.heap.size (fun k => HM < k) v1 (ys ++ [⟨a, c, s⟩])) (hb : Below w.heap.size w W) (hz : HM < W.heap.size) :
    RInv w HM D v1 (fun z => left z && !z.sameKey (pk a s)) cnt' (ys ++ [⟨a, c, s⟩]) W := {
  coll := h.coll.take ha hs hlk hat hc0
  row := hr
  len := by have := h.len; simp; omega
  low := h.low
  hgh := hz
  bel := hb }
theorem size_le {w : World} {b n : Nat} {D : DataW Unit} (h : SMap w b n D) : Maps.size D ≤ n := by
  obtain ⟨es, clock, _, _, hs, rfl⟩ := h
  show ((es.toList.map _).foldr DataW.insert []).length ≤ n
  rw [length_sorted]
  simpa using hs
theorem wrapE (n : Int) : IntKind.i64.wrap n = wrap64 n := by rw [IntKind.wrap_i64]; unfold wrap64; rfl
def okT (l : List S36) : Bool := (legs l).all okS && decide ((legs l).length ≤ 4096) && decide (l.length ≤ 4096)
theorem legs_take (l : List S36) (i : Nat) (hi : i < l.length) : legs (l.take (i + 1)) = legs (l.take i) ++ (rd_T36 l (i : Int)).f8 := by
  rw [List.take_add_one, legs, List.flatMap_append, List.getElem?_eq_getElem hi]
  simp [legs, rd_T36, List.getD_eq_getElem?_getD, hi]
theorem legs_pre (l : List S36) (i k : Nat) (hi : i < l.length) : ∃ r, legs l = legs (l.take i) ++ (rd_T36 l (i : Int)).f8.take k ++ r := by
  refine ⟨(rd_T36 l (i : Int)).f8.drop k ++ legs (l.drop (i + 1)), ?_⟩
  conv => lhs; rw [← List.take_append_drop (i + 1) l]
  rw [legs, List.flatMap_append]
  have := legs_take l i hi
  unfold legs at this ⊢
  rw [this, List.append_assoc, List.append_assoc, ← List.append_assoc (List.take k _), List.take_append_drop]
theorem take_rd (ys : List S39) (k : Nat) (h : k < ys.length) : ys.take (k + 1) = ys.take k ++ [rd_T39 ys (k : Int)] := by
  rw [List.take_add_one, List.getElem?_eq_getElem h]
  simp [rd_T39, List.getD_eq_getElem?_getD, h]

set_option maxRecDepth 100000 in
set_option maxHeartbeats 4000000 in
theorem Trial.walk (A0 : Option Addr) (c0 : Nat) (l0 : List S36) (w : World) (hr0 : Kd.C k36 w A0 l0.length l0) (hlegs : ∀ x ∈ legs l0, okS x = true) (hlen : (legs l0).length ≤ 4096) (hj : l0.length ≤ 4096) :
    Calls Try.prog 14 #[.slice A0 l0.length c0] w fun e w' => ∃ v0_ : Value, e = .returned v0_ ∧ Kd.R k39 39 w' w.heap.size (fun _ => True) v0_ (trialL l0) ∧ Below w.heap.size w w' := by
  have HR0 := Aside0.mk hr0
  have HF := Aside0.mk (And.intro hlegs (And.intro hlen hj))
  clear hr0 hlegs hlen hj
  have hmm := @run_makeMap Try.prog
  have hu36 := Try.underlying36
  have hu39 := Try.underlying39
  have hu52 := Try.underlying52
  have HI0 : Aside0 (TInv w (legs (l0.take 0)) (w.alloc (.map #[] 0))) := ⟨⟨⟨0, _, World.ownsMap_made _ _ _ _, Nat.le_refl _, Sums.made⟩, (Below.refl _ w).alloc (Nat.le_refl _) _⟩⟩
  go_enter Try.func14, Try.ntmps14
  go_wp2
  go_loopw [14] (fun v wr => ∃ (x14 : Int) (i : Nat), v = .int .i64 x14 ∧ Aside0 (x14 = (i : Int) ∧ i ≤ l0.length) ∧ Aside0 (TInv w (legs (l0.take i)) wr))
    (fun v _ => l0.length - (intOf v).toNat)
  case atStart => exact ⟨0, 0, rfl, ⟨rfl, Nat.zero_le _⟩, HI0⟩
  case round =>
    clear HI0
    obtain ⟨x14, i, rfl, HN, HI⟩ := hrel
    by_cases c1 : x14 < (l0.length : Int)
    · have p1 : 0 ≤ x14 := by have := HN.out; omega
      obtain ⟨ad, A8, c8, e, hx0, hx1, hx2, hx3, hx4, hx5, hx6, hx7, hx8, hx9, hl8, hi8⟩ := at_T36 HR0.out x14 p1 c1
      cases e
      have hb2 := HI.out.bel
      replace hx0 := (hb2.cell (World.block_lt_of_cell? w _ hx0)).trans hx0
      replace hx1 := (hb2.cell (World.block_lt_of_cell? w _ hx1)).trans hx1
      replace hx2 := (hb2.cell (World.block_lt_of_cell? w _ hx2)).trans hx2
      replace hx3 := (hb2.cell (World.block_lt_of_cell? w _ hx3)).trans hx3
      replace hx4 := (hb2.cell (World.block_lt_of_cell? w _ hx4)).trans hx4
      replace hx5 := (hb2.cell (World.block_lt_of_cell? w _ hx5)).trans hx5
      replace hx6 := (hb2.cell (World.block_lt_of_cell? w _ hx6)).trans hx6
      replace hx7 := (hb2.cell (World.block_lt_of_cell? w _ hx7)).trans hx7
      replace hx8 := (hb2.cell (World.block_lt_of_cell? w _ hx8)).trans hx8
      replace hx9 := (hb2.cell (World.block_lt_of_cell? w _ hx9)).trans hx9
      have c1b : decide (x14 < (l0.length : Int)) = true := decide_eq_true c1
      have q1 := eq_true c1
      have C1 := Aside0.mk c1
      have HI8 := Aside0.mk hi8
      replace p1 := eq_true p1
      clear c1 hi8 hb2
      go_wp2
      clear hx0 hx1 hx2 hx3 hx4 hx5 hx6 hx7 hx8 hx9
      have HT0 : Aside0 (TInv w (legs (l0.take i) ++ (rd_T36 l0 x14).f8.take 0) (wr.alloc (.cells #[.int .i64 (rd_T36 l0 x14).f0, .int .i64 (rd_T36 l0 x14).f1, .int .i64 (rd_T36 l0 x14).f2, .int .i64 (rd_T36 l0 x14).f3, .int .i64 (rd_T36 l0 x14).f4, .int .i64 (rd_T36 l0 x14).f5, .string (rd_T36 l0 x14).f6, .string (rd_T36 l0 x14).f7, .slice A8 (rd_T36 l0 x14).f8.length c8, .int .u64 (rd_T36 l0 x14).f9] 36))) := ⟨by rw [List.take_zero, List.append_nil]; exact HI.out.alloc _⟩
      clear HI
      go_loopw [21] (fun v wi => ∃ (x21 : Int) (k : Nat), v = .int .i64 x21 ∧ Aside0 (x21 = (k : Int) ∧ k ≤ (rd_T36 l0 x14).f8.length) ∧ Aside0 (TInv w (legs (l0.take i) ++ (rd_T36 l0 x14).f8.take k) wi))
        (fun v _ => (rd_T36 l0 x14).f8.length - (intOf v).toNat)
      case atStart => exact ⟨0, 0, rfl, ⟨rfl, Nat.zero_le _⟩, HT0⟩
      case round =>
        clear HT0
        obtain ⟨x21, k, rfl, HN2, HI2⟩ := hrel
        have hpre : (legs (l0.take i)).length + ((rd_T36 l0 x14).f8).length ≤ 4096 ∧ ∀ y ∈ (rd_T36 l0 x14).f8, okS y = true := by
          obtain ⟨r, hr⟩ := legs_pre l0 i (rd_T36 l0 x14).f8.length (by have := HN.out; have := C1.out; omega)
          rw [← HN.out.1, List.take_length] at hr
          have h1 := HF.out.2.1
          rw [hr] at h1
          simp only [List.length_append] at h1
          exact ⟨by omega, fun y hy => HF.out.1 y (by rw [hr]; simp [hy])⟩
        have HPRE := Aside0.mk hpre
        clear hpre
        have e2 : wrap64 (x21 + 1) = ((k + 1 : Nat) : Int) := by have := HN2.out; have := HPRE.out.1; unfold wrap64; omega
        have E2 := Aside0.mk e2
        clear e2
        by_cases c2 : x21 < ((rd_T36 l0 x14).f8.length : Int)
        · have p2 : 0 ≤ x21 := by have := HN2.out; omega
          obtain ⟨ad2, e, hy0, hy1, hy2⟩ := at_T39 HI8.out x21 p2 c2
          cases e
          have hb2 := HI2.out.bel
          replace hy0 := (hb2.cell (World.block_lt_of_cell? w _ hy0)).trans hy0
          replace hy1 := (hb2.cell (World.block_lt_of_cell? w _ hy1)).trans hy1
          replace hy2 := (hb2.cell (World.block_lt_of_cell? w _ hy2)).trans hy2
          have c2b : decide (x21 < ((rd_T36 l0 x14).f8.length : Int)) = true := decide_eq_true c2
          have q2 := eq_true c2
          have C2 := Aside0.mk c2
          replace p2 := eq_true p2
          clear c2 hb2
          have hmem : rd_T39 (rd_T36 l0 x14).f8 x21 ∈ (rd_T36 l0 x14).f8 := by
            have h2 := HN2.out
            have h3 := C2.out
            rw [h2.1] at h3 ⊢
            simp only [rd_T39, Int.toNat_natCast]
            rw [List.getD_eq_getElem?_getD, List.getElem?_eq_getElem (show k < _ by omega)]
            exact List.getElem_mem _
          have hx := HPRE.out.2 _ hmem
          have hsnoc := take_rd (rd_T36 l0 x14).f8 k (by have := HN2.out; have := C2.out; omega)
          rw [← HN2.out.1] at hsnoc
          have HSN := Aside0.mk hsnoc
          clear hmem hsnoc
          have hround := (HI2.out.alloc (.cells #[.int .i64 (rd_T39 (rd_T36 l0 x14).f8 x21).f0, .int .i64 (rd_T39 (rd_T36 l0 x14).f8 x21).f1, .string (rd_T39 (rd_T36 l0 x14).f8 x21).f2] 39)).round hx (by have := HPRE.out.1; simp; omega)
          rw [List.append_assoc, ← HSN.out] at hround
          have HLT := Aside0.mk (show w.heap.size < wr.heap.size by obtain ⟨n, D, h, _⟩ := HI2.out.map; exact h.lt)
          clear HI2 hx
          go_wp2
          clear hy0 hy1 hy2
          generalize rd_T39 (rd_T36 l0 x14).f8 x21 = x at *
          obtain ⟨W, hW⟩ : ∃ W, wr.alloc (.cells #[.int .i64 x.f0, .int .i64 x.f1, .string x.f2] 39) = W := ⟨_, rfl⟩
          have t0 : W.drew.cell? ⟨wr.heap.size, 0, none⟩ = some (.int .i64 x.f0) := by rw [← hW]; simp
          have t1 : W.drew.cell? ⟨wr.heap.size, 1, none⟩ = some (.int .i64 x.f1) := by rw [← hW]; simp
          have t2 : W.drew.cell? ⟨wr.heap.size, 2, none⟩ = some (.string x.f2) := by rw [← hW]; simp
          rw [hW] at hround ⊢
          obtain ⟨c, v0, st, W1, W2, r1, r2, r3, hg1, r4, hg2, hT⟩ := hround
          have hne : some wr.heap.size ≠ some w.heap.size := fun e => by have h1 := HLT.out; rw [Option.some.inj e] at h1; omega
          have r4' : (Instr.entryStore 50 (.map (some w.heap.size)) (.int .i64 (st : Int)) (.int .i64 (IntKind.i64.wrap (c + x.f1)))).run Try.prog W1 = .ok () W2 := by rw [wrapE]; exact r4
          have s0 := hg1.cell t0 hne
          have s1 := hg1.cell t1 hne
          have s2 := hg1.cell t2 hne
          have z0 := hg2.cell t0 hne
          have z1 := hg2.cell t1 hne
          have z2 := hg2.cell t2 hne
          have HT := Aside0.mk hT
          clear hT hW hg1 hg2 hne
          go_region_held3 (fun w' => w'.cell? ⟨wr.heap.size, 0, none⟩ = some (.int .i64 x.f0) ∧ w'.cell? ⟨wr.heap.size, 1, none⟩ = some (.int .i64 x.f1) ∧ w'.cell? ⟨wr.heap.size, 2, none⟩ = some (.string x.f2))
            (first | exact ⟨t0, t1, t2⟩ | exact ⟨s0, s1, s2⟩ | exact ⟨z0, z1, z2⟩)
            (fail)
          all_goals go_wp2
          all_goals
            go_roundw
            case rel =>
              refine ⟨_, k + 1, rfl, ⟨E2.out, by have := HN2.out; have := C2.out; omega⟩, HT⟩
            case measure =>
              have h1 := E2.out
              have h2 := HN2.out
              have h3 := C2.out
              simp only [intOf, Array.getD_eq_getD_getElem?]
              rw [h1, h2.1]
              omega
        · have c2b : decide (x21 < ((rd_T36 l0 x14).f8.length : Int)) = false := decide_eq_false c2
          have e1 : wrap64 (x14 + 1) = ((i + 1 : Nat) : Int) := by have := HN.out; have := HF.out.2.2; unfold wrap64; omega
          have E1 := Aside0.mk e1
          have C2 := Aside0.mk c2
          clear e1 c2
          go_wp2
          go_roundw
          case rel =>
            refine ⟨_, i + 1, rfl, ⟨E1.out, by have := HN.out; have := C1.out; omega⟩, ⟨?_⟩⟩
            rw [legs_take l0 i (by have := HN.out; have := C1.out; omega), ← HN.out.1]
            have h1 := HI2.out
            rw [show (rd_T36 l0 x14).f8.take k = (rd_T36 l0 x14).f8 from List.take_of_length_le (by have := HN2.out; have := C2.out; omega)] at h1
            exact h1
          case measure =>
            have h1 := E1.out
            have h2 := HN.out
            have h3 := C1.out
            simp only [intOf, Array.getD_eq_getD_getElem?]
            rw [h1, h2.1]
            omega
    · have c1b : decide (x14 < (l0.length : Int)) = false := decide_eq_false c1
      have hk : i = l0.length := by have := HN.out; omega
      subst hk
      rw [List.take_length] at HI
      clear c1
      obtain ⟨n, D, hm, hn, hs⟩ := HI.out.map
      have HS := Aside0.mk (And.intro hs (And.intro HI.out.bel (And.intro hn (And.intro hm.lt (size_le hm)))))
      clear HI hn hs
      go_wp2_with (first | (at_range; refine wpList_range_own _ rfl _ 50 rfl 52 3 placeKeyed Try.underlying50 _ w.heap.size n D rfl hm ?_; intro w0 hrg0 hg0 hs0))
      go_frame
      have HI0 : Aside0 (RInv w wr.heap.size D (.slice none 0 0) (Maps.has D) (Maps.size D) [] w0) := ⟨{
        coll := Coll.start D
        row := Kd.R_nil _ _ _ _ _
        len := by have h1 := HS.out; have h2 := HF.out; simp; omega
        low := HS.out.2.2.2.1
        hgh := by rw [hs0]; omega
        bel := HS.out.2.1.grown hg0 HS.out.2.1.size (fun k e => by cases e) }⟩
      have HRG0 := Aside0.mk hrg0
      clear hrg0 hg0 hs0 hm
      obtain ⟨HM, hHM⟩ : ∃ HM, wr.heap.size = HM := ⟨_, rfl⟩
      rw [hHM] at HRG0 HI0 ⊢
      clear hHM
      go_loopw [8] (fun v8 wl => ∃ (left : Lit → Bool) (cnt : Nat) (ys : List S39), Aside0 (wl.ranges Try.prog 52 (plainElem Try.prog 3) w.heap.size HM n D left cnt) ∧ Aside0 (RInv w HM D v8 left cnt ys wl))
        (fun _ wl => wl.rangeLeft w.heap.size HM)
      case atStart => exact ⟨_, _, _, HRG0, HI0⟩
      case round =>
        clear HRG0 HI0
        obtain ⟨left, cnt, ys, HRG, HI⟩ := hrel
        have hrg := HRG.out
        go_wp2_with (first | (at_next; refine wpList_next_ranges _ rfl _ rfl 52 placeKeyed (plainElem (H := Unit) Try.prog 3) (fun x : Int × ByteArray => .agg #[.int .i64 x.1, .string x.2]) (Value.int .i64) (fun key kl hk => by obtain ⟨x, hx, _⟩ := pk_inv hk; exact ⟨x, hx⟩) (fun v y hv => by obtain ⟨c, rfl, _⟩ := plainElem_int_inv Try.underlying3 hv; exact ⟨c, rfl⟩) w.heap.size HM n D left cnt rfl hrg ?_ ?_) | go_in)
        · intro hc0 hl0
          have HC := Aside0.mk (sort39 u8 ys w.heap.size (fun k => HM < k) wr HI.out.row (by have := HI.out.len; omega))
          have HL := Aside0.mk hl0
          clear hrg hl0
          go_wp2_with (first | (go_at_call 27; refine HC.out.mono ?_; rintro e w3 ⟨rfl, zs, hS, hRow, hg⟩; have HZ := Aside0.mk (And.intro hS (And.intro hRow hg)); clear hS hRow hg HC))
          go_ret
          obtain ⟨hS, hRow, hg⟩ := HZ.out
          have he : zs = trialL l0 := asc_eq (asc_of_sorted hS HI.out.coll.apart) (asc_trial l0) (fun y => (hS.1.mem_iff).trans (HI.out.coll.done HS.out.1 HL.out HF.out.1 y))
          refine ⟨u8, rfl, by rw [← he]; exact Kd.R_mono hRow (fun _ _ => trivial), HI.out.bel.grown hg (by have := HI.out.low; have := HI.out.hgh; omega) (fun k e => ?_)⟩
          have h1 := HI.out.row.1 k e
          have h2 := HI.out.low
          have h3 : HM < k := h1
          omega
        · intro a s c kl y0 y1 w1 cnt1 hkey hlk hR hat hrg1 hlt hg1 hs1 hen
          obtain ⟨⟨a', s'⟩, hx, hkl, ha, hs⟩ := pk_inv hkey
          have hx' : a = a' ∧ s = s' := by simpa using hx
          obtain ⟨rfl, rfl⟩ := hx'
          dsimp only at hkl ha hs
          subst hkl
          obtain ⟨c', hcc, hyy, hwc⟩ := plainElem_int_inv Try.underlying3 hR
          have hcc' : c = c' := by simpa using hcc
          subst hcc'
          have hy0 : y0 = .lit (.int .i64 c) := by simpa using (congrArg Prod.fst hyy)
          subst hy0
          have HM1 := Aside0.mk hrg.left_eq
          have HR1 := Aside0.mk (hrg1.alloc (.cells #[.int .i64 a, .string s] 52))
          have HX := Aside0.mk (And.intro ha (And.intro hs (And.intro hlk (And.intro hat hlt))))
          have HG1 := Aside0.mk (hg1.andThen (row' := none) (World.grownBy_alloc w1 (.cells #[.int .i64 a, .string s] 52) none) (fun j hj => by cases hj))
          have HZ1 := Aside0.mk hs1
          clear hkey ha hs hlk hat hlt hrg hrg1 hR hwc hg1 hs1 hcc hx hyy
          by_cases h0 : c = 0
          · have hb : (c != 0) = false := by simp [h0]
            have hb' : (c == 0) = true := by simp [h0]
            have H0 := Aside0.mk h0
            clear h0
            go_wp2
            go_roundw
            case rel => exact ⟨_, _, _, HR1, ⟨HI.out.next HG1.out HX.out.2.2.2.2 HX.out.1 HX.out.2.1 (by have := HX.out.2.2.2.1; rw [H0.out] at this; exact this)⟩⟩
            case measure => rw [HR1.out.left_eq, HM1.out]; exact HX.out.2.2.2.2
          · have hb : (c != 0) = true := by simp [h0]
            have hb' : (c == 0) = false := by simp [h0]
            have H0 := Aside0.mk h0
            clear h0
            go_upto_region 16 with (fail)
            obtain ⟨W2, hW2⟩ : ∃ W2, w1.alloc (.cells #[.int .i64 a, .string s] 52) = W2 := ⟨_, rfl⟩
            have t0 : W2.cell? ⟨w1.heap.size, 0, none⟩ = some (.int .i64 a) := by rw [← hW2]; simp
            have t1 : W2.cell? ⟨w1.heap.size, 1, none⟩ = some (.string s) := by rw [← hW2]; simp
            have hsz : W2.heap.size = w1.heap.size + 1 := by rw [← hW2]; simp
            have HSZ := Aside0.mk hsz
            rw [hW2] at HR1 HG1 ⊢
            clear hsz hW2
            have hrow2 := Kd.R_grown HI.out.row HG1.out (fun j hj e => by cases e; exact Nat.lt_irrefl _ hj)
            have hbel2 : Below w.heap.size w W2 := HI.out.bel.grown HG1.out (by have := HI.out.hgh; have := HI.out.low; omega) (fun j hj => by cases hj; exact Nat.le_of_lt HI.out.low)
            have HO := Aside0.mk (And.intro hrow2 hbel2)
            clear hrow2 hbel2
            go_wp2_with (first | ((with_reducible refine gate_builtin (b := .append) (xs := #[.tmp 48, .tmp 55]) rfl ?_); at_builtin; refine Kd.R_append k39 (w0 := w) w.heap.size rfl (.tmp 48) (.tmp 55) 33 39 (.agg #[.int .i64 0, .int .i64 0, .string ⟨#[]⟩]) 32 rfl Try.underlying33 info39 rfl (by decide) (by omega) u8 ys (⟨a, c, s⟩ : S39) [.int .i64 a, .int .i64 c, .string s] (fun k => HM < k) (fun _ => False) rfl rfl ?aP (fun _ hk => hk.elim) ?aF ?aO ?aB ?aS ?aL ?_; (case aP => exact k39_mkM _ _ _ (⟨a, c, s⟩ : S39)); (case aF => exact fun k hk => by have h1 := HI.out.hgh; have h2 := HZ1.out; have h3 := HSZ.out; show HM < k; omega); (case aO => exact HO.out.1); (case aB => exact HO.out.2); (case aS => exact HO.out.2.size); (case aL => have := HI.out.len; (show (ys.length + 1) * 32 ≤ 140737488355328); omega); intro v1 w4 ho hb hg hat; have HA := Aside0.mk (And.intro ho (And.intro hb hg)); clear ho hb hg hat))
            have hne : ∀ j, j ≤ HM → some j ≠ u8.ownBlock := fun j hj e => by
              have h1 : HM < j := HI.out.row.1 j e.symm
              omega
            have HR4 := HR1.out.kept HA.out.2.2 (hne _ (Nat.le_of_lt HI.out.low)) (hne _ (Nat.le_refl _))
            go_roundw
            case rel => exact ⟨_, _, _, ⟨HR4⟩, ⟨HI.out.taken HX.out.2.2.2.2 HX.out.1 HX.out.2.1 HX.out.2.2.1 HX.out.2.2.2.1 H0.out HA.out.1 HA.out.2.1 (by have h1 := HA.out.2.2.size; have h2 := HSZ.out; have h3 := HZ1.out; have h4 := HI.out.hgh; omega)⟩⟩
            case measure => rw [HR4.left_eq, HM1.out]; exact HX.out.2.2.2.2
def balance_Trial.f (l0 : List S36) : Option (List S39) := if okT l0 = true then some (trialL l0) else none
theorem balance_Trial.calls (A0 : Option Addr) (c0 : Nat) (l0 : List (S36)) (r : List S39) (w : World) (hr0 : Kd.C k36 w A0 l0.length l0) (hc0 : l0.length ≤ c0) (h : balance_Trial.f l0 = some r) :
    Calls Try.prog 14 #[.slice A0 l0.length c0] w fun e w' => ∃ v0_ : Value, e = .returned (v0_) ∧ Kd.R k39 39 w' w.heap.size (fun _ => True) v0_ r ∧ Below w.heap.size w w' := by
  unfold balance_Trial.f at h
  split at h
  · rename_i hok
    cases h
    simp only [okT, Bool.and_eq_true, decide_eq_true_eq, List.all_eq_true] at hok
    exact Trial.walk A0 c0 l0 w hr0 hok.1.1 hok.1.2 hok.2
  · cases h
end Go.Proofs.Ytnilmhhidmdlnaa.PA
