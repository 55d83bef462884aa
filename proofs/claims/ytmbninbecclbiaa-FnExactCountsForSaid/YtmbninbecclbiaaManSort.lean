/- slices.SortFunc with slices.Compare at rows of the call's own, by the library's own contract; no condition but that no row stands twice. -/
import Derived.Test.YtmbninbecclbiaaPAx0
import Derived.Ground.SlsfProg
import Derived.Shelf.SlGeneric
import Derived.Shelf.SlSortCmp.NoneTotal
import Derived.Lib.OwnBridge
import Derived.Test.YtmbninbecclbiaaSemA
import Derived.Test.YtmbninbecclbiaaPAx35
namespace Go.Proofs
open Go.Shelf
def Ytmbninbecclbiaa.laySort_ren : Go.Shelf.Ren := ⟨fun | 6 => 73 | 15 => 85 | 14 => 84 | 28 => 96 | 29 => 97 | 20 => 88 | 21 => 89 | 22 => 90 | 23 => 91 | 24 => 92 | 25 => 93 | 26 => 94 | 27 => 95 | 46 => 99 | 47 => 100 | 48 => 101 | 49 => 102 | 50 => 103 | 57 => 104 | n => n, fun | 22 => 45 | 24 => 35 | 25 => 71 | 3 => 3 | 39 => 88 | 0 => 0 | 53 => 99 | 55 => 101 | 4 => 4 | 46 => 92 | 45 => 91 | 50 => 96 | 5 => 5 | 9 => 9 | 66 => 102 | 70 => 106 | 76 => 108 | 77 => 109 | n => n, fun | n => n⟩
theorem Ytmbninbecclbiaa.laySort : Go.Proofs.SlLaysF.n6 Try.prog Ytmbninbecclbiaa.laySort_ren := {
  mixed := by kernel_rfl
  f6 := ⟨Try.f73.name, by decide, Try.func73.trans (congrArg some (by kernel_rfl))⟩
  f14 := ⟨Try.f84.name, by decide, Try.func84.trans (congrArg some (by kernel_rfl))⟩
  f15 := Try.func85.trans (congrArg some (by kernel_rfl))
  f20 := ⟨Try.f88.name, by decide, Try.func88.trans (congrArg some (by kernel_rfl))⟩
  f21 := ⟨Try.f89.name, by decide, Try.func89.trans (congrArg some (by kernel_rfl))⟩
  f22 := ⟨Try.f90.name, by decide, Try.func90.trans (congrArg some (by kernel_rfl))⟩
  f23 := ⟨Try.f91.name, by decide, Try.func91.trans (congrArg some (by kernel_rfl))⟩
  f24 := ⟨Try.f92.name, by decide, Try.func92.trans (congrArg some (by kernel_rfl))⟩
  f25 := ⟨Try.f93.name, by decide, Try.func93.trans (congrArg some (by kernel_rfl))⟩
  f26 := ⟨Try.f94.name, by decide, Try.func94.trans (congrArg some (by kernel_rfl))⟩
  f27 := ⟨Try.f95.name, by decide, Try.func95.trans (congrArg some (by kernel_rfl))⟩
  f28 := Try.func96.trans (congrArg some (by kernel_rfl))
  f29 := Try.func97.trans (congrArg some (by kernel_rfl))
  f46 := ⟨Try.f99.name, by decide, Try.func99.trans (congrArg some (by kernel_rfl))⟩
  f47 := Try.func100.trans (congrArg some (by kernel_rfl))
  f48 := Try.func101.trans (congrArg some (by kernel_rfl))
  f49 := ⟨Try.f102.name, by decide, Try.func102.trans (congrArg some (by kernel_rfl))⟩
  f50 := ⟨Try.f103.name, by decide, Try.func103.trans (congrArg some (by kernel_rfl))⟩
  f57 := ⟨Try.f104.name, by decide, Try.func104.trans (congrArg some (by kernel_rfl))⟩
  t0 := Try.underlying0
  a0 := Try.isAgg0
  z0 := Try.sizeOf0
  v0 := Try.zeroValue0
  t3 := Try.underlying3
  a3 := Try.isAgg3
  z3 := Try.sizeOf3
  v3 := Try.zeroValue3
  t4 := Try.underlying4
  a4 := Try.isAgg4
  z4 := Try.sizeOf4
  v4 := Try.zeroValue4
  t5 := Try.underlying5
  a5 := Try.isAgg5
  z5 := Try.sizeOf5
  v5 := Try.zeroValue5
  t9 := Try.underlying9
  a9 := Try.isAgg9
  z9 := Try.sizeOf9
  v9 := Try.zeroValue9
  t22 := Try.underlying45
  a22 := Try.isAgg45
  z22 := Try.sizeOf45
  v22 := Try.zeroValue45
  a24 := Try.isAgg35
  z24 := Try.sizeOf35
  t25 := Try.underlying71
  a25 := Try.isAgg71
  z25 := Try.sizeOf71
  v25 := Try.zeroValue71
  t39 := Try.underlying88
  a39 := Try.isAgg88
  z39 := Try.sizeOf88
  v39 := Try.zeroValue88
  t45 := Try.underlying91
  a45 := Try.isAgg91
  z45 := Try.sizeOf91
  v45 := Try.zeroValue91
  t46 := Try.underlying92
  a46 := Try.isAgg92
  z46 := Try.sizeOf92
  v46 := Try.zeroValue92
  t50 := Try.underlying96
  a50 := Try.isAgg96
  z50 := Try.sizeOf96
  v50 := Try.zeroValue96
  t53 := Try.underlying99
  a53 := Try.isAgg99
  z53 := Try.sizeOf99
  v53 := Try.zeroValue99
  t55 := Try.underlying101
  a55 := Try.isAgg101
  z55 := Try.sizeOf101
  v55 := Try.zeroValue101
  t66 := Try.underlying102
  a66 := Try.isAgg102
  z66 := Try.sizeOf102
  v66 := Try.zeroValue102
  t70 := Try.underlying106
  a70 := Try.isAgg106
  z70 := Try.sizeOf106
  v70 := Try.zeroValue106
  t76 := Try.underlying108
  a76 := Try.isAgg108
  z76 := Try.sizeOf108
  v76 := Try.zeroValue108
  t77 := Try.underlying109
  a77 := Try.isAgg109
  z77 := Try.sizeOf109
  v77 := Try.zeroValue109 }
end Go.Proofs
namespace Go.Proofs.Ytmbninbecclbiaa.ManR
open Go.RowKit Go.Proofs.Ytmbninbecclbiaa.PA Go.Proofs.YtmbninbecclbiaaW.PrintWords Go.Proofs.YtmbninbecclbiaaW.PrintLast Go.Proofs.YtmbninbecclbiaaW.PrintMore
set_option linter.unusedVariables false
set_option linter.unusedSimpArgs false

/-- Rows in their order. -/
def lexC : List Int → List Int → Int
  | [], [] => 0
  | [], _ :: _ => -1
  | _ :: _, [] => 1
  | a :: l, b :: m => if a < b then -1 else if b < a then 1 else lexC l m
theorem lexC_self : ∀ x, lexC x x = 0
  | [] => rfl
  | a :: l => by unfold lexC; rw [if_neg (by omega), if_neg (by omega)]; exact lexC_self l
theorem lexC_eq : ∀ x y, lexC x y = 0 → x = y
  | [], [], _ => rfl
  | [], _ :: _, h => by simp [lexC] at h
  | _ :: _, [], h => by simp [lexC] at h
  | a :: l, b :: m, h => by
    unfold lexC at h
    split at h
    · simp at h
    · split at h
      · simp at h
      · rw [lexC_eq l m h]; congr 1; omega
theorem lexC_swap : ∀ x y, lexC y x = - lexC x y
  | [], [] => rfl
  | [], _ :: _ => rfl
  | _ :: _, [] => rfl
  | a :: l, b :: m => by
    unfold lexC
    by_cases h : a < b
    · rw [if_pos h, if_neg (by omega), if_pos h]; rfl
    · by_cases h2 : b < a
      · rw [if_pos h2, if_neg h, if_pos h2]
      · rw [if_neg h2, if_neg h, if_neg h, if_neg h2]; exact lexC_swap l m
theorem lexC_trans : ∀ x y z, lexC x y < 0 → lexC y z ≤ 0 → lexC x z < 0
  | [], [], [], h, _ => by simp [lexC] at h
  | [], [], _ :: _, h, _ => by simp [lexC] at h
  | [], _ :: _, [], _, h => by simp [lexC] at h
  | [], _ :: _, _ :: _, _, _ => by simp [lexC]
  | _ :: _, [], _, h, _ => by simp [lexC] at h
  | _ :: _, _ :: _, [], _, h => by simp [lexC] at h
  | a :: l, b :: m, c :: n, h1, h2 => by
    have ih := lexC_trans l m n
    unfold lexC at h1 h2 ⊢
    split at h1
    · split at h2
      · rw [if_pos (by omega)]; decide
      · split at h2
        · simp at h2
        · rw [if_pos (by omega)]; decide
    · split at h1
      · simp at h1
      · split at h2
        · rw [if_pos (by omega)]; decide
        · split at h2
          · simp at h2
          · rw [if_neg (by omega), if_neg (by omega)]; exact ih h1 h2
theorem lexC_ntrans (x y z) (h1 : ¬ lexC x y < 0) (h2 : ¬ lexC y z < 0) : ¬ lexC x z < 0 := by
  intro h
  have s1 := lexC_swap x y
  have s2 := lexC_swap y z
  have := lexC_trans x z y h (by omega)
  exact h1 this

def sortL (l : List (List Int)) : List (List Int) := l.mergeSort fun x y => !(decide (lexC y x < 0))
theorem rd_get (l : List Int) (i : Nat) (h : i < l.length) : rd l (i : Int) = l[i] := by
  unfold rd
  rw [List.getD_eq_getElem?_getD, Int.toNat_natCast, List.getElem?_eq_getElem h]
  rfl
theorem cmp_from (x y : List Int) (hx : x.length ≤ 1000) (hy : y.length ≤ 1000) : ∀ (d i k : Nat), i + d = x.length → d < k → slices_Compare_int_int.l0 k x y x (x.length : Int) (i : Int) = some (lexC (x.drop i) (y.drop i)) := by
  intro d
  induction d with
  | zero =>
    intro i k hi hk
    obtain ⟨k, rfl⟩ : ∃ m, k = m + 1 := ⟨k - 1, by omega⟩
    simp only [slices_Compare_int_int.l0]
    rw [if_neg (by omega), List.drop_of_length_le (by omega : x.length ≤ i)]
    by_cases h : (x.length : Int) < (y.length : Int)
    · rw [if_pos h, List.drop_eq_getElem_cons (by omega : i < y.length)]; rfl
    · rw [if_neg h, List.drop_of_length_le (by omega : y.length ≤ i)]; rfl
  | succ d ih =>
    intro i k hi hk
    obtain ⟨k, rfl⟩ : ∃ m, k = m + 1 := ⟨k - 1, by omega⟩
    have hxi : i < x.length := by omega
    simp only [slices_Compare_int_int.l0]
    rw [if_pos (by omega), if_pos (by omega), if_pos (by omega), List.drop_eq_getElem_cons hxi]
    by_cases h : i < y.length
    · rw [if_neg (by omega), if_pos (by omega), List.drop_eq_getElem_cons h, rd_get x i hxi, rd_get y i h]
      have hn := ih (i + 1) k (by omega) (by omega)
      rw [show wrap64 ((i : Int) + 1) = ((i + 1 : Nat) : Int) by unfold wrap64; omega, hn]
      generalize x[i] = a
      generalize y[i] = b
      unfold cmp_Compare_int.f cmp_isNaN_int.f
      simp only [Option.bind_some, bne_self_eq_false, Bool.false_eq_true, if_false]
      by_cases h1 : a < b
      · rw [if_pos h1]; simp [lexC, h1]
      · by_cases h2 : a > b
        · rw [if_neg h1, if_pos h2]; simp [lexC, h1, h2]
        · rw [if_neg h1, if_neg h2]; simp [lexC, h1, show ¬ b < a from h2]
    · rw [if_pos (by omega), List.drop_of_length_le (by omega : y.length ≤ i)]; rfl
theorem cmp_eq (x y : List Int) (hx : x.length ≤ 1000) (hy : y.length ≤ 1000) : slices_Compare_int_int.f 1001 x y = some (lexC x y) := by
  unfold slices_Compare_int_int.f
  have := cmp_from x y hx hy x.length 0 1001 (by omega) (by omega)
  simpa using this

section
variable (W : World) (base : Nat) (v : Value) (o : List (List Int))
theorem own_grow {w : World} {base n : Nat} {e : TypeId} {size : Nat} {v : Value} {xs : List Value} (h : w.ownsRow base e size v n xs) (os : Array Obj) : (Go.Sort.grow w os).ownsRow base e size v n xs := by
  refine own_move h (fun k hk => ?_)
  have hlt := own_lt h k hk
  show (w.heap ++ os)[k]? = w.heap[k]?
  rw [Array.getElem?_append_left hlt]
theorem sort_heap {α : Type} [Inhabited α] (enc : α → Value) (g n : Nat) (d : Array α) (os : Array Obj) (k : Nat) (hk : k < W.heap.size) (hg : k ≠ g) : (sortWorld enc W g 0 n d os).heap[k]? = W.heap[k]? := by
  show ((Go.Sort.putRow enc (Go.Sort.ahead W n) g 0 d).heap ++ os)[k]? = W.heap[k]?
  rw [Array.getElem?_append_left (by simpa [Go.Sort.putRow, Go.Sort.mapBlock, Go.Sort.ahead] using hk)]
  simp [Go.Sort.putRow, Go.Sort.mapBlock, Go.Sort.ahead, Array.getElem?_modify, Ne.symm hg]

set_option maxHeartbeats 4000000 in
theorem sortC (hS : Kd.S (Kd.slice 3 (Kd.int .i64)) 35 W base (fun _ => True) v o) (hn : o.Nodup) (h4 : ∀ x ∈ o, x.length ≤ 1000) (hlen : o.length ≤ 100000) :
    Calls Try.prog 73 #[v, .func (.func 74) #[] #[]] W fun e w' => e = .returned (.tuple #[]) ∧ Kd.S (Kd.slice 3 (Kd.int .i64)) 35 w' base (fun _ => True) v (sortL o) ∧ (∀ w0 : World, base = w0.heap.size → Below base w0 W → Below base w0 w') := by
  by_cases ho : o = []
  · subst ho
    obtain ⟨A, c, rfl⟩ := Kd.S_slice hS
    refine (AnyF.slices_SortFunc_none { Ytmbninbecclbiaa.laySort with } A c (.func (.func 74) #[] #[]) W).mono ?_
    rintro e w' ⟨rfl, rfl⟩
    exact ⟨rfl, by rw [show sortL [] = [] from List.mergeSort_nil]; exact hS, fun w0 _ h => h⟩
  · have hpos : 0 < o.length := List.length_pos_iff.2 ho
    obtain ⟨g, cap, rfl, hb, hlt, _, _⟩ := Kd.S_form hS hpos
    obtain ⟨f, h0, inner, hown, hrep⟩ := hS
    rw [List.length_zipIdx] at hown
    have hil : inner.length = o.length := by have := hrep.1; rw [List.length_zipIdx, show (Kd.tag f (Kd.slice 3 (Kd.int .i64))).sz = 1 from rfl, Nat.mul_one] at this; exact this
    letI : Inhabited (Fin o.length) := ⟨⟨0, hpos⟩⟩
    -- every element
    have hel : ∀ i : Fin o.length, ∃ A c, inner[i.val]'(by omega) = .slice A (o[i.val]).length c ∧ (Kd.int .i64).R 3 W base (fun k => ((True ∧ some k ≠ (Value.slice (some ⟨g, 0, none⟩) o.length cap).ownBlock) ∧ f k = i.val)) (.slice A (o[i.val]).length c) (o[i.val]) := fun i => by
      have h := hrep.2 i.val (o[i.val], i.val) (Kd.zip_at (List.getElem?_eq_getElem i.isLt))
      obtain ⟨u, hu, hR⟩ := h
      have e1 : inner[i.val]'(by omega) = u := by
        have := congrArg (fun l => l[0]?) hu
        rw [show (Kd.tag f (Kd.slice 3 (Kd.int .i64))).sz = 1 from rfl, Nat.mul_one] at this
        simp only [List.getElem?_take, List.getElem?_drop, Nat.add_zero, List.getElem?_cons_zero] at this
        rw [if_pos (by decide), List.getElem?_eq_getElem (by omega)] at this
        exact Option.some.inj this
      obtain ⟨A, c, e2⟩ := Kd.R_slice hR
      exact ⟨A, c, e1.trans e2, e2 ▸ hR⟩
    obtain ⟨enc, henc⟩ : ∃ enc : Fin o.length → Value, enc = fun i => inner[i.val]'(by omega) := ⟨_, rfl⟩
    have hen : ∀ i : Fin o.length, ∃ A c, enc i = .slice A (o[i.val]).length c ∧ (Kd.int .i64).R 3 W base (fun k => ((True ∧ some k ≠ (Value.slice (some ⟨g, 0, none⟩) o.length cap).ownBlock) ∧ f k = i.val)) (.slice A (o[i.val]).length c) (o[i.val]) := fun i => by rw [henc]; exact hel i
    have hin : inner = (List.finRange o.length).map enc := by
      apply List.ext_getElem
      · rw [List.length_map, List.length_finRange, hil]
      · intro j h1 h2
        rw [List.getElem_map, List.getElem_finRange]
        exact (congrFun henc (⟨j, by omega⟩ : Fin o.length)).symm
    have hown1 : W.ownsRow base 35 1 (.slice (some ⟨g, 0, none⟩) o.length cap) o.length ((List.finRange o.length).map enc) := by rw [← hin]; exact hown
    obtain ⟨g', cap', e', _, _, _, _, _, hH⟩ := Go.Lib.holds_of_ownsRow hown1 (by intro e; cases e)
    injection e' with e1 _ e3
    injection e1 with e1
    injection e1 with e1
    subst e1 e3
    have eg := enters_of Try.func74 (by kernel_rfl) rfl
    obtain ⟨cf, hcf⟩ : ∃ cf : Fin o.length → Fin o.length → Int, cf = fun i j => lexC (o[i.val]) (o[j.val]) := ⟨_, rfl⟩
    have hlt' : ∀ i j, ltOf cf i j = decide (lexC (o[i.val]) (o[j.val]) < 0) := fun i j => by unfold ltOf; rw [hcf]
    have hO : Go.Sort.SWO (ltOf cf) := ⟨fun x => by rw [hlt', lexC_self]; rfl, fun x y z h1 h2 => by
        rw [hlt'] at *
        exact decide_eq_true (lexC_trans _ _ _ (of_decide_eq_true h1) (Int.le_of_lt (of_decide_eq_true h2))), fun x y z h1 h2 => by
        rw [hlt'] at *
        exact decide_eq_false (lexC_ntrans _ _ _ (of_decide_eq_false h1) (of_decide_eq_false h2))⟩
    have hT : ∀ x y, ltOf cf x y = false → ltOf cf y x = false → x = y := fun x y h1 h2 => by
      rw [hlt'] at *
      have h1 := of_decide_eq_false h1
      have h2 := of_decide_eq_false h2
      rw [lexC_swap] at h2
      have e := lexC_eq _ _ (show lexC (o[x.val]) (o[y.val]) = 0 by omega)
      exact Fin.ext ((List.getElem_inj hn).1 e)
    have hmove : ∀ (m : Nat) (dk : Array (Fin o.length)) (os : Array Obj) (i : Fin o.length) (A : Option Addr) (c : Nat), (Kd.int .i64).R 3 W base (fun k => ((True ∧ some k ≠ (Value.slice (some ⟨g, 0, none⟩) o.length cap).ownBlock) ∧ f k = i.val)) (.slice A (o[i.val]).length c) (o[i.val]) → (Kd.int .i64).R 3 (sortWorld enc W g 0 m dk os) base (fun k => ((True ∧ some k ≠ (Value.slice (some ⟨g, 0, none⟩) o.length cap).ownBlock) ∧ f k = i.val)) (.slice A (o[i.val]).length c) (o[i.val]) :=
      fun m dk os i A c h => Kd.R_step h (fun k hk hks => sort_heap W enc g m dk os k hks (fun e => hk.1.2 (by rw [e]; rfl)))
    have hcmp : CmpLays1 Try.prog 74 #[] enc cf g 0 (List.finRange o.length).toArray.size W := by
      intro m os dk _ x y
      obtain ⟨A, c, ex, hx⟩ := hen x
      obtain ⟨B, d, ey, hy⟩ := hen y
      have rx := Kd.R_reads' (hmove m dk os x A c hx)
      have ry := Kd.R_reads' (hmove m dk os y B d hy)
      rw [ex, ey, hcf]
      refine (slices_Compare_int_int.calls 1001 A c (o[x.val]) B d (o[y.val]) _ (sortWorld enc W g 0 m dk os) rx.2.2 rx.2.1 ry.2.2 ry.2.1 (cmp_eq _ _ (h4 _ (List.getElem_mem _)) (h4 _ (List.getElem_mem _)))).mono ?_
      rintro e w' ⟨he, q, hq⟩
      exact ⟨he, q, #[], by rw [hq, Go.Sort.grow_empty]⟩
    have hsz : (List.finRange o.length).toArray.size = o.length := by rw [List.size_toArray, List.length_finRange]
    have hcon := Any.slices_SortFunc_total Ytmbninbecclbiaa.laySort enc (fun i => by obtain ⟨A, c, e, _⟩ := hen i; rw [e]; rfl) cf hO 74 #[] g 0 cap (List.finRange o.length).toArray W eg hcmp hH hlt (by rw [hsz]; omega) hT
    rw [hsz] at hcon
    refine (show Calls Try.prog 73 _ _ _ from hcon).mono ?_
    rintro e w' ⟨rfl, m, os, rfl⟩
    obtain ⟨p, hp⟩ : ∃ p, p = (List.finRange o.length).mergeSort fun x y => !(ltOf cf) y x := ⟨_, rfl⟩
    rw [show (List.finRange o.length).toArray.toList = List.finRange o.length from rfl, ← hp]
    have hpl : p.length = o.length := by rw [hp, List.length_mergeSort, List.length_finRange]
    have hpn : p.Nodup := by rw [hp]; exact (List.mergeSort_perm _ _).nodup_iff.2 (List.nodup_finRange _)
    have hps : p.map o.get = sortL o := by
      rw [hp, List.map_mergeSort (s := fun x y => !(decide (lexC y x < 0))) (fun a _ b _ => by rw [hlt']; rfl)]
      unfold sortL
      congr 1
      apply List.ext_getElem
      · rw [List.length_map, List.length_finRange]
      · intro j h1 h2
        rw [List.getElem_map, List.getElem_finRange]
        rfl
    have hsl : (sortL o).length = o.length := by rw [← hps, List.length_map, hpl]
    have hput := own_grow (Go.Lib.ownsRow_putRow (q := m) (k := o.length) hown1 hpl (Nat.le_refl _)) os
    rw [List.take_of_length_le (by omega)] at hput
    refine ⟨rfl, ⟨fun k => if h : f k < o.length then p.idxOf ⟨f k, h⟩ else 0, fun k hk => trivial, p.map enc, ?_, ?_⟩, fun w0 e0 hb0 => ?_⟩
    · rw [List.length_zipIdx, hsl]
      exact hput
    · refine ⟨by rw [List.length_map, List.length_zipIdx, hsl, hpl]; exact (Nat.mul_one _).symm, fun j q hq => ?_⟩
      have hj : j < p.length := by
        have := (List.getElem?_eq_some_iff.1 hq).1
        rw [List.length_zipIdx, hsl] at this
        omega
      obtain ⟨A, c, ee, hR⟩ := hen (p[j])
      have hq2 : q = (o[(p[j]).val], j) := by
        rw [List.getElem?_zipIdx, ← hps, List.getElem?_map, List.getElem?_eq_getElem hj] at hq
        simpa using hq.symm
      subst hq2
      refine ⟨enc (p[j]), ?_, ?_⟩
      · show ((p.map enc).drop (j * 1)).take 1 = _
        rw [Nat.mul_one, List.drop_eq_getElem_cons (by rw [List.length_map]; exact hj), List.getElem_map]
        rfl
      · rw [ee]
        refine Kd.R_mono (hmove m p.toArray os (p[j]) A c hR) (fun k hk => ⟨hk.1, ?_⟩)
        show (if h : f k < o.length then p.idxOf ⟨f k, h⟩ else 0) = j
        rw [dif_pos (show f k < o.length by rw [hk.2]; exact (p[j]).isLt), show (⟨f k, by rw [hk.2]; exact (p[j]).isLt⟩ : Fin o.length) = p[j] from Fin.ext hk.2]
        exact hpn.idxOf_getElem j hj
    · subst e0
      have h1 := Go.Lib.below_putRow (enc := enc) (q := m) (d := p.toArray) hb0 hb
      exact ⟨h1.os, h1.tape, h1.output, by have := h1.size; show _ ≤ (_ ++ os).size; rw [Array.size_append]; omega, fun k hk => by
        rw [← h1.block k hk]
        show ((Go.Sort.putRow enc (Go.Sort.ahead W m) g 0 p.toArray).heap ++ os)[k]? = _
        rw [Array.getElem?_append_left (by have := h1.size; omega)]⟩
end
end Go.Proofs.Ytmbninbecclbiaa.ManR
