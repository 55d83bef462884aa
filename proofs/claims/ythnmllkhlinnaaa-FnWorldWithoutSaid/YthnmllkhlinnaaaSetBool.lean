/- A set of keys as a map of keys to truths: its look-up; plain words over the kit's maps; no condition but that the keys are keys. -/
import Derived.Maps.OwnSet
import Derived.Maps.Views
namespace Go.Proofs.Ythnmllkhlinnaaa.SetB
open Go Go.Maps Go.RowKit
variable {H : Type}

theorem atKey_fold (u z : DataW H) (k : Lit) : ∀ (acc : List Lit) (m : DataW H), IsMap m → (∀ x ∈ acc, WideAt.IsKeyLit x) → (acc.foldl (fun m x => m.put x u) m).atKey k z = if acc.any (fun x => x.sameKey k) = true then u else m.atKey k z
  | [], _, _, _ => by simp
  | x :: acc, m, hm, h => by
    rw [List.foldl_cons, atKey_fold u z k acc (m.put x u) (hm.put x u) (fun y hy => h y (List.mem_cons_of_mem _ hy)), List.any_cons]
    have hx := h x List.mem_cons_self
    by_cases e : k = x
    · subst e
      rw [WideAt.sameKey_self hx, atKey_put_same hm hx]
      simp
    · rw [sameKey_ne (fun e' => e e'.symm), atKey_put_other e]
      simp

theorem atKey_set (k : Lit) (acc : List Lit) (h : ∀ x ∈ acc, WideAt.IsKeyLit x) : (setOf (H := H) (.lit (.bool true)) acc).atKey k (.lit (.bool false)) = .lit (.bool (acc.any (fun x => x.sameKey k))) := by
  unfold setOf
  rw [atKey_fold _ _ k acc _ isMap_empty h]
  by_cases e : acc.any (fun x => x.sameKey k) = true
  · rw [if_pos e, e]
  · rw [if_neg e, Bool.eq_false_iff.2 e]
    rfl

theorem plainElem_bool_inv {P : Program} {e : TypeId} (he : P.underlying e = some .bool) {v : Value} {z : DataW H × List MemPlace} (h : plainElem P e v = some z) : ∃ x, v = .bool x ∧ z = (.lit (.bool x), []) := by
  unfold plainElem at h
  rw [he] at h
  cases v <;> simp at h
  obtain rfl := h
  exact ⟨_, rfl, rfl⟩

/-- The look-up in a set, at the operation. -/
theorem wpList_lookup_set {P : Program} (w : World) {ops : Array Oper} {rest : List Oper} {o : Oper} {a : Act} {Q : Exit → Act → World → Prop}
    (hg : o.guard = none) (m x : Operand) (t : TypeId) (hop : o.op = Op.lookup t m x false)
    (k e : TypeId) (K : Keyed P k) (ht : P.underlying t = some (.map k e)) (he : P.underlying e = some .bool) (hz : (zeroValue e).run P w = .ok (.bool false) w) (b n : Nat) (acc : List Lit) (hacc : ∀ x ∈ acc, WideAt.IsKeyLit x)
    (hm : a.eval m = .map (some b)) (hown : w.ownsMap (H := H) P k (plainElem P e) b n (setOf (.lit (.bool true)) acc)) (key : Value) (kl : Lit) (hx : a.eval x = key) (hkey : keyOf P k key = some kl) (q : Bool) (hq : acc.any (fun x => x.sameKey kl) = q)
    (hK : wpList P ops Q rest (a.put o.dst (.bool q)) w) :
    wpList P ops Q (o :: rest) a w := by
  refine wpList_plain hg fun K' hK' => ?_
  obtain ⟨v, ps, hrun, hv⟩ := hown.lookup K ht hz (plainElem_bool he false) hkey
  rw [atKey_set kl acc hacc, hq] at hv
  obtain ⟨c, rfl, hc⟩ := plainElem_bool_inv he hv
  simp only [Prod.mk.injEq, DataW.lit.injEq, Lit.bool.injEq] at hc
  obtain ⟨rfl, _⟩ := hc
  unfold Oper.wp
  simp [execOp, hop, hm, hx, hrun, Result.andThen]
  exact hK' _ _ hK
end Go.Proofs.Ythnmllkhlinnaaa.SetB
