/- A map keyed by balance.place: what a key reads as; one round of sums[p] += x. -/
import Derived.WideKeyEntry
import Derived.Maps.OwnOps
import Derived.Maps.Views
import Derived.Maps.RangeWalk
import Derived.Test.YtnilmhhidmdlnaaPlace
namespace Go.Proofs.Ytnilmhhidmdlnaa.PA
open Go.RowKit Go.Maps Go.MapKept
open Go.WideElems (Fit rd rg pl rd_key rd_val)
open Go.ChangeMaps (setBlock heap_setBlock_same heap_setBlock_other)
set_option linter.unusedSimpArgs false

/-- What the place (a, s) reads as. -/
def pk (a : Int) (s : ByteArray) : Lit := .string (keyBytes [.int .i64 a, .string s.data.toList])
theorem cells52 : Try.prog.cellsOf 52 = 2 := by kernel_rfl
theorem cells3' : Try.prog.cellsOf 3 = 1 := by kernel_rfl
theorem cells9' : Try.prog.cellsOf 9 = 1 := by kernel_rfl
theorem keyType52 : Try.prog.keyType 52 = true := by kernel_rfl
theorem types_two : ∃ m, Try.prog.types.size + 1 = m + 2 := by
  have h := placeRow
  obtain ⟨n, hn⟩ : ∃ n, Try.prog.types.size = n := ⟨_, rfl⟩
  rw [hn] at h ⊢
  exact ⟨n - 1, by have h' : 52 < n := h; omega⟩
theorem kl3 {m : Nat} {c : Value} {l : List Lit} (h : Try.prog.keyLits (m + 1) 3 [c] = some l) : ∃ a, c = .int .i64 a ∧ (Lit.int .i64 a).wf = true ∧ l = [.int .i64 a] := by
  unfold Program.keyLits at h
  rw [Try.underlying3] at h
  cases c <;> simp at h
  obtain ⟨⟨rfl, h1⟩, rfl⟩ := h
  exact ⟨_, rfl, h1, rfl⟩
theorem kl9 {m : Nat} {c : Value} {l : List Lit} (h : Try.prog.keyLits (m + 1) 9 [c] = some l) : ∃ s : ByteArray, c = .string s ∧ s.size ≤ maxLen ∧ l = [.string s.data.toList] := by
  unfold Program.keyLits at h
  rw [Try.underlying9] at h
  cases c <;> simp at h
  obtain ⟨h1, rfl⟩ := h
  exact ⟨_, rfl, h1, rfl⟩
theorem kl3' {m : Nat} {a : Int} (h : (Lit.int .i64 a).wf = true) : Try.prog.keyLits (m + 1) 3 [.int .i64 a] = some [.int .i64 a] := by
  unfold Program.keyLits
  rw [Try.underlying3]
  simp [h]
theorem kl9' {m : Nat} {s : ByteArray} (h : s.size ≤ maxLen) : Try.prog.keyLits (m + 1) 9 [.string s] = some [.string s.data.toList] := by
  unfold Program.keyLits
  rw [Try.underlying9]
  simp [h]
theorem kl52 (m : Nat) (c0 c1 : Value) : Try.prog.keyLits (m + 2) 52 [c0, c1] = (Try.prog.keyLits (m + 1) 3 [c0]).bind fun x => (Try.prog.keyLits (m + 1) 9 [c1]).map fun y => x ++ y := by
  conv => lhs; unfold Program.keyLits
  rw [Try.underlying52]
  simp [cells52, cells3', cells9']
  cases Try.prog.keyLits (m + 1) 3 [c0] with
  | none => rfl
  | some x =>
    cases Try.prog.keyLits (m + 1) 9 [c1] with
    | none => rfl
    | some y => simp
theorem pk_key {a : Int} {s : ByteArray} (ha : (Lit.int .i64 a).wf = true) (hs : s.size ≤ maxLen) : keyOf Try.prog 52 (.agg #[.int .i64 a, .string s]) = some (pk a s) := by
  obtain ⟨m, hm⟩ := types_two
  unfold keyOf
  rw [Try.underlying52]
  simp only [keyType52, Value.formed, Try.underlying52, cells52, hm, Value.cells]
  rw [kl52, kl3' ha, kl9' hs]
  rfl
theorem pk_inv {key : Value} {kl : Lit} (h : keyOf Try.prog 52 key = some kl) : ∃ x : Int × ByteArray, key = .agg #[.int .i64 x.1, .string x.2] ∧ kl = pk x.1 x.2 ∧ (Lit.int .i64 x.1).wf = true ∧ x.2.size ≤ maxLen := by
  obtain ⟨m, hm⟩ := types_two
  have h0 := h
  unfold keyOf at h
  rw [Try.underlying52] at h
  simp only at h
  split at h
  · rename_i hc
    rw [Bool.and_eq_true] at hc
    obtain ⟨_, hf⟩ := hc
    cases key <;> simp [Value.formed, Try.underlying52, cells52] at hf
    rename_i cs
    obtain ⟨c0, c1, rfl⟩ : ∃ c0 c1, cs = #[c0, c1] := by
      obtain ⟨l⟩ := cs
      match l, hf with
      | [a, b], _ => exact ⟨a, b, rfl⟩
    rw [hm] at h
    obtain ⟨ls, hls, _⟩ := Option.map_eq_some_iff.1 h
    rw [show (Value.agg #[c0, c1]).cells.toList = [c0, c1] from rfl, kl52] at hls
    obtain ⟨x, hx, hy⟩ := Option.bind_eq_some_iff.1 hls
    obtain ⟨y, hy, _⟩ := Option.map_eq_some_iff.1 hy
    obtain ⟨a, rfl, ha, _⟩ := kl3 hx
    obtain ⟨s, rfl, hs, _⟩ := kl9 hy
    refine ⟨(a, s), rfl, ?_, ha, hs⟩
    have := pk_key ha hs
    rw [h0] at this
    exact Option.some.inj this
  · cases h
theorem pk_inj {a b : Int} {s t : ByteArray} (ha : (Lit.int .i64 a).wf = true) (hs : s.size ≤ maxLen) (hb : (Lit.int .i64 b).wf = true) (ht : t.size ≤ maxLen) (h : pk a s = pk b t) : a = b ∧ s = t := by
  have := placeLaw.inj (pk_key ha hs) (h ▸ pk_key hb ht)
  simpa using this
theorem zero3 (W : World) : (zeroValue 3).run Try.prog W = .ok (.int .i64 0) W := by kernel_rfl
theorem pk_ok {a : Int} {s : ByteArray} (ha : (Lit.int .i64 a).wf = true) (hs : s.size ≤ maxLen) : WideAt.IsKeyLit (pk a s) := placeKeyed.key (pk_key ha hs)
/-- The map of sums: block b, of at most n entries, reads as D. -/
def SMap (w : World) (b n : Nat) (D : DataW Unit) : Prop := w.ownsMap Try.prog 52 (plainElem Try.prog 3) b n D
theorem fitted {w : World} {b n : Nat} {D : DataW Unit} (h : SMap w b n D) : ∃ es clock, w.heap[b]? = some (.map es clock) ∧ Fit Try.prog 52 (plainElem (H := Unit) Try.prog 3) es clock := by
  obtain ⟨es, clock, hb, F, _⟩ := h
  exact ⟨es, clock, hb, F⟩
/-- What the entry is fetched as: the look-up ahead of it and behind it give the same number; the store behind it is m[k] = v. -/
theorem place_round {w : World} {b n : Nat} {D : DataW Unit} {a : Int} {s : ByteArray} (hown : SMap w b n D) (ha : (Lit.int .i64 a).wf = true) (hs : s.size ≤ maxLen) (hn : n < maxLen) :
    ∃ (c : Int) (v0 : Value) (st : Nat) (W1 : World), D.atKey (pk a s) (.lit (.int .i64 0)) = .lit (.int .i64 c) ∧ (Lit.int .i64 c).wf = true ∧
      (Instr.lookup 50 (.map (some b)) (.agg #[.int .i64 a, .string s]) false).run Try.prog w = .ok (.int .i64 c) w ∧
      (Instr.mapEntry 50 (.map (some b)) (.agg #[.int .i64 a, .string s])).run Try.prog w = .ok (.tuple #[v0, .int .i64 (st : Int)]) W1 ∧
      (Instr.lookup 50 (.map (some b)) (.agg #[.int .i64 a, .string s]) false).run Try.prog W1 = .ok (.int .i64 c) W1 ∧ w.grownBy W1 (some b) ∧
      ∀ v : Int, (Lit.int .i64 v).wf = true → ∃ W2, (Instr.entryStore 50 (.map (some b)) (.int .i64 (st : Int)) (.int .i64 v)).run Try.prog W1 = .ok () W2 ∧ SMap W2 b (n + 1) (D.put (pk a s) (.lit (.int .i64 v))) ∧ w.grownBy W2 (some b) := by
  have hkey := pk_key ha hs
  obtain ⟨es, clock, hb, F⟩ := fitted hown
  have hbw : b < w.heap.size := (Array.getElem?_eq_some_iff.1 hb).1
  obtain ⟨c, hlook, hat, hwc⟩ := hown.lookup_int placeKeyed Try.underlying50 Try.underlying3 (zero3 w) hkey
  obtain ⟨v0, st, es1, clock1, hent, _, hstore⟩ := WideElems.entry_then_store placeLaw Try.underlying50 (z := .int .i64 0) zero3 hb F hkey
  have hgr : w.grownBy (setBlock w b (.map es1 clock1)) (some b) := ⟨rfl, rfl, rfl, by simp [setBlock], fun i _ hi => heap_setBlock_other hb _ (fun e => hi (by rw [e]))⟩
  refine ⟨c, v0, st, setBlock w b (.map es1 clock1), hat, hwc, hlook, hent, ?_, hgr, fun v hv => ?_⟩
  · obtain ⟨D1, n1, h1, h2⟩ : ∃ D1 n1, SMap (setBlock w b (.map es1 clock1)) b n1 D1 ∧ D1.atKey (pk a s) (.lit (.int .i64 0)) = .lit (.int .i64 c) := by
      rcases placeLaw.find w hkey es.toList F.keys with ⟨f1, f2⟩ | ⟨j, e0, f1, f2, f3⟩
      · have hent' : (Instr.mapEntry 50 (.map (some b)) (.agg #[.int .i64 a, .string s])).run Try.prog w = .ok (.tuple #[.int .i64 0, goInt clock]) (setBlock w b (.map (es.push ⟨.agg #[.int .i64 a, .string s], .int .i64 0, clock⟩) (clock + 1))) := by
          simp [Instr.mapEntry, run_underlying Try.underlying50, MapKept.run_getObj_map hb, placeLaw.check w false hkey, f1, zero3, MapKept.run_setObj_map _ hb, Result.andThen, setBlock]
        have hup : (Instr.mapUpdate 50 (.map (some b)) (.agg #[.int .i64 a, .string s]) (.int .i64 0)).run Try.prog w = .ok () (setBlock w b (.map (es.push ⟨.agg #[.int .i64 a, .string s], .int .i64 0, clock⟩) (clock + 1))) := by
          simp [Instr.mapUpdate, run_underlying Try.underlying50, MapKept.run_getObj_map hb, placeLaw.check w false hkey, f1, MapKept.run_setObj_map _ hb, Result.andThen, setBlock]
        rw [hent'] at hent
        obtain ⟨W', hW', ho, _⟩ := hown.update placeKeyed Try.underlying50 hn hkey (plainElem_int (H := Unit) Try.underlying3 (a := 0) (by decide))
        rw [hup] at hW'
        injection hW' with _ hW'
        injection hent with _ hent
        have hc0 : c = 0 := by
          rcases Maps.fit_look false placeKeyed Try.underlying50 (zero3 w) hb F hkey with ⟨hrun, _, _⟩ | ⟨e1, y, m1, k1, _⟩
          · rw [hlook] at hrun
            simpa using hrun
          · exact absurd k1 (f2 e1 m1)
        refine ⟨_, _, by rw [← hent, hW']; exact ho, ?_⟩
        rw [hc0]
        obtain ⟨es', hD, _⟩ := World.ownsMap.entries hown placeKeyed
        exact atKey_put_same ⟨es', hD⟩ (placeKeyed.key hkey) _ _
      · have hj : es[j]? = some e0 := by simpa using f2
        have hsame : es.modify j (fun e => { e with key := .agg #[.int .i64 a, .string s] }) = es := by
          apply Array.ext'
          rw [Array.toList_modify, ChangeMaps.modify_eq_set _ _ _ _ f2]
          have : ({ e0 with key := .agg #[.int .i64 a, .string s] } : MapEntry) = e0 := by rw [← f3]
          rw [this]
          exact WideElems.set_self _ _ _ f2
        have hent' : (Instr.mapEntry 50 (.map (some b)) (.agg #[.int .i64 a, .string s])).run Try.prog w = .ok (.tuple #[e0.val, goInt e0.born]) (setBlock w b (.map es clock)) := by
          simp [Instr.mapEntry, run_underlying Try.underlying50, MapKept.run_getObj_map hb, placeLaw.check w false hkey, f1, hj, f3, placeLaw.stays w hkey, hsame, MapKept.run_setObj_map _ hb, Result.andThen, setBlock]
        rw [hent'] at hent
        injection hent with _ hent
        refine ⟨D, n, ?_, hat⟩
        rw [← hent]
        obtain ⟨es2, clock2, hb2, F2, hs2, hD2⟩ := hown
        obtain ⟨rfl, rfl⟩ : es = es2 ∧ clock = clock2 := by rw [hb] at hb2; simpa using hb2
        exact ⟨es, clock, heap_setBlock_same hb _, F2, hs2, hD2⟩
    obtain ⟨c1, hl1, ha1, _⟩ := h1.lookup_int placeKeyed Try.underlying50 Try.underlying3 (zero3 _) hkey
    rw [h2] at ha1
    have : c = c1 := by simpa using ha1
    rw [hl1, this]
  · obtain ⟨es', clock', hst, hup⟩ := hstore (setBlock w b (.map es1 clock1)) (.int .i64 v) (heap_setBlock_same hb _)
    obtain ⟨W', hW', ho, hg⟩ := hown.update placeKeyed Try.underlying50 hn hkey (plainElem_int (H := Unit) Try.underlying3 hv)
    rw [hup] at hW'
    injection hW' with _ hW'
    have he : setBlock (setBlock w b (.map es1 clock1)) b (.map es' clock') = W' := by rw [← hW']; simp [setBlock]
    exact ⟨W', by rw [← he]; exact hst, ho, hg⟩
end Go.Proofs.Ytnilmhhidmdlnaa.PA
