/- Arguments of these laws, opened: a struct of three numbers, a slice of such structs, a struct of three rows of numbers; no condition but what the model tells of every argument. -/
import Derived.Test.YtmbninbecclbiaaWAll
import Derived.Lib.SmallJoins
import Derived.Deep.Slices
import Derived.Deep.Fields
import Derived.ChangeSame
import Derived.SizedLaws
import Derived.ChangeSlices
namespace Go.Proofs.Ytmbninbecclbiaa.MyOpen
open Go.Joins Go.ChangeShapes Go.WideShapes Go.RowKit Go.Deep Go.Proofs.YtmbninbecclbiaaW.PrintWords Go.Proofs.YtmbninbecclbiaaW.PrintLast
section
variable {H : Type} {enc : TypeId × Value → H} {P : Program} {w : World} {base : Nat} {spare : Nat → Bool} {held : Bool}

/-- A struct of three int fields, by value. -/
theorem open_int3 {r : Reach} {b0 : Nat} {t : TypeId} {f0 f1 f2 : Field} {v : Value} {d : DataW H} {p : List MemPlace} (hs : P.underlying t = some (.struct #[f0, f1, f2])) (hone : oneCellFields P #[f0, f1, f2] = true) (hC : P.cellsOf t = 3)
    (h0 : P.underlying f0.type = some (.int .i64)) (h1 : P.underlying f1.type = some (.int .i64)) (h2 : P.underlying f2.type = some (.int .i64))
    (hv : Value.okWide P w r b0 t v) (h : DataW.Trod enc P w base spare held t v d p) :
    ∃ a b c : Int, v = .agg #[.int .i64 a, .int .i64 b, .int .i64 c] ∧ (Lit.int .i64 a).wf = true ∧ (Lit.int .i64 b).wf = true ∧ (Lit.int .i64 c).wf = true := by
  obtain ⟨v0, v1, v2, y0, y1, y2, n, rfl, _, _, t0, t1, t2⟩ := open_agg3 hs hone hC hv h
  obtain ⟨a, ha, _, wa⟩ := DataW.trod_int h0 t0
  obtain ⟨b, hb, _, wb⟩ := DataW.trod_int h1 t1
  obtain ⟨c, hc, _, wc⟩ := DataW.trod_int h2 t2
  obtain rfl := (List.cons.inj ha).1
  obtain rfl := (List.cons.inj hb).1
  obtain rfl := (List.cons.inj hc).1
  exact ⟨a, b, c, rfl, wa, wb, wc⟩

/-- A row of structs of three int fields. -/
theorem open_says {r : Reach} {b0 : Nat} {t e : TypeId} {f0 f1 f2 : Field} {v : Value} {d : DataW H} {p : List MemPlace} (ht : P.underlying t = some (.slice e)) (he : P.underlying e = some (.struct #[f0, f1, f2])) (hone : oneCellFields P #[f0, f1, f2] = true) (hC : P.cellsOf e = 3)
    (h0 : P.underlying f0.type = some (.int .i64)) (h1 : P.underlying f1.type = some (.int .i64)) (h2 : P.underlying f2.type = some (.int .i64))
    (hv : Value.okWide P w r b0 t v) (h : DataW.Trod enc P w base spare held t v d p) :
    ∃ (A : Option Addr) (cap : Nat) (zs : List (Int × Int × Int)), v = .slice A zs.length cap ∧ zs.length ≤ cap ∧ cap ≤ maxLen ∧
      ReadsRow (fun x c => c = [.int .i64 x.1, .int .i64 x.2.1, .int .i64 x.2.2]) 3 w A zs.length zs ∧
      ∀ z ∈ zs, (Lit.int .i64 z.1).wf = true ∧ (Lit.int .i64 z.2.1).wf = true ∧ (Lit.int .i64 z.2.2).wf = true := by
  obtain ⟨A, len, cap, rfl⟩ := okWide_slice ht hv
  obtain ⟨fuel, hf⟩ := h
  rcases open_slice ht hf with ⟨hcs, _⟩ | ⟨a, l, c, m, n, D, Pl, hcs, _, hl, hm, hmm, _, hi⟩
  · simp [Value.cells] at hcs
    obtain ⟨rfl, rfl, rfl⟩ := hcs
    exact ⟨none, 0, [], rfl, Nat.le_refl _, Nat.zero_le _, ⟨rfl, by simp, fun h => absurd h (by simp)⟩, fun z hz => by simp at hz⟩
  · simp [Value.cells] at hcs
    obtain ⟨rfl, rfl, rfl⟩ := hcs
    have hlm : len ≤ m := by rw [hmm]; split <;> omega
    have each : ∀ i, i < len → ∃ z : Int × Int × Int, (w.cell? (a.add (i * 3)) = some (.int .i64 z.1) ∧ w.cell? (a.add (i * 3 + 1)) = some (.int .i64 z.2.1) ∧ w.cell? (a.add (i * 3 + 2)) = some (.int .i64 z.2.2)) ∧ (Lit.int .i64 z.1).wf = true ∧ (Lit.int .i64 z.2.1).wf = true ∧ (Lit.int .i64 z.2.2).wf = true := by
      intro i hil
      obtain ⟨cs', hc, ht'⟩ := hi i (by omega)
      rw [hC] at hc
      obtain ⟨y0, y1, y2, n', _, hlen, g0, g1, g2⟩ := trod_struct3 he ht'
      obtain ⟨o0, k0⟩ := hone_of hone 0 f0 rfl
      obtain ⟨o1, k1⟩ := hone_of hone 1 f1 rfl
      obtain ⟨o2, k2⟩ := hone_of hone 2 f2 rfl
      obtain ⟨_, hcl, hat⟩ := World.cells?_some hc
      obtain ⟨u0, u1, u2, rfl⟩ : ∃ u0 u1 u2, cs' = [u0, u1, u2] := by
        match cs', hcl with
        | [u0, u1, u2], _ => exact ⟨u0, u1, u2, rfl⟩
      rw [o0, k0] at g0
      rw [o1, k1] at g1
      rw [o2, k2] at g2
      obtain ⟨z0, e0, _, w0⟩ := DataW.trod_int h0 g0
      obtain ⟨z1, e1, _, w1⟩ := DataW.trod_int h1 g1
      obtain ⟨z2, e2, _, w2⟩ := DataW.trod_int h2 g2
      simp at e0 e1 e2
      subst e0 e1 e2
      have q0 := hat 0 (by omega)
      have q1 := hat 1 (by omega)
      have q2 := hat 2 (by omega)
      rw [Go.Deep.add_add] at q0 q1 q2
      exact ⟨(z0, z1, z2), ⟨by simpa using q0, by simpa using q1, by simpa using q2⟩, w0, w1, w2⟩
    obtain ⟨F, hF⟩ : ∃ F : Nat → Int × Int × Int, ∀ i, i < len → (w.cell? (a.add (i * 3)) = some (.int .i64 (F i).1) ∧ w.cell? (a.add (i * 3 + 1)) = some (.int .i64 (F i).2.1) ∧ w.cell? (a.add (i * 3 + 2)) = some (.int .i64 (F i).2.2)) ∧ (Lit.int .i64 (F i).1).wf = true ∧ (Lit.int .i64 (F i).2.1).wf = true ∧ (Lit.int .i64 (F i).2.2).wf = true := by
      refine ⟨fun i => if h : i < len then Classical.choose (each i h) else (0, 0, 0), fun i hil => ?_⟩
      simp only [dif_pos hil]
      exact Classical.choose_spec (each i hil)
    refine ⟨some a, cap, (List.range len).map F, by simp, by simpa using hl, hm, ⟨rfl, ?_, fun _ => ⟨a, rfl, ?_⟩⟩, ?_⟩
    · simp
      have : maxLen = 9223372036854775807 := by unfold maxLen; rfl
      omega
    · intro j q hj
      obtain ⟨hjl, rfl⟩ : j < len ∧ F j = q := by
        rw [List.getElem?_map] at hj
        obtain ⟨x, hx, rfl⟩ := Option.map_eq_some_iff.1 hj
        obtain ⟨hx1, hx2⟩ := List.getElem?_eq_some_iff.1 hx
        simp at hx1 hx2
        exact ⟨hx1, by rw [hx2]⟩
      obtain ⟨⟨a0, a1, a2⟩, _⟩ := hF j hjl
      refine ⟨_, rfl, rfl, ?_⟩
      intro i u hu
      match i, hu with
      | 0, hu => obtain rfl : _ = u := by simpa using hu
                 simpa using a0
      | 1, hu => obtain rfl : _ = u := by simpa using hu
                 exact a1
      | 2, hu => obtain rfl : _ = u := by simpa using hu
                 exact a2
      | i + 3, hu => simp at hu
    · intro z hz
      obtain ⟨i, hi', rfl⟩ := List.mem_map.1 hz
      exact (hF i (List.mem_range.1 hi')).2

end
theorem below_of_drawn {w w' : World} (h : ∃ n, w' = w.drewN n) : Below w.heap.size w w' := by
  obtain ⟨n, rfl⟩ := h
  exact pw_below_drewN (Below.refl _ _) n
end Go.Proofs.Ytmbninbecclbiaa.MyOpen
