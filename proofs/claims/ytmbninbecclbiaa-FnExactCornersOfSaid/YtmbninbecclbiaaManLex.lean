/- A long region that only reads: that its text's order is one that it may take, shown step by step (in one piece it takes more memory than there is). -/
import Derived.Test.YtmbninbecclbiaaPAx0
namespace Go.Proofs.Ytmbninbecclbiaa.Man
open Go.RowKit Go.Proofs.Ytmbninbecclbiaa.PA Go.Proofs.YtmbninbecclbiaaW.PrintWords Go.Proofs.YtmbninbecclbiaaW.PrintLast Go.Proofs.YtmbninbecclbiaaW.PrintMore
set_option linter.unusedVariables false
set_option linter.unusedSimpArgs false

def lst (n k : Nat) : Array Bool := (List.replicate k true ++ List.replicate (n - k) false).toArray
def stepB (md : Region.Mode) (ops : Array Oper) (n k : Nat) : Bool := (Region.ready md ops (lst n k)).contains k && Region.free md ops (lst n k) k
theorem lst_next (n k : Nat) (h : k < n) : (lst n k).setIfInBounds k true = lst n (k + 1) := by
  unfold lst
  rw [List.setIfInBounds_toArray, List.set_append, List.length_replicate, if_neg (by omega), Nat.sub_self]
  obtain ⟨m, hm⟩ : ∃ m, n - k = m + 1 := ⟨n - k - 1, by omega⟩
  rw [hm, List.replicate_succ, List.set_cons_zero, show n - (k + 1) = m by omega, List.replicate_succ', List.append_assoc]
  rfl
theorem lex_from (md : Region.Mode) (ops : Array Oper) (n : Nat) (h : ∀ k, k < n → stepB md ops n k = true) (he : (Region.ready md ops (lst n n)).isEmpty = true) : ∀ f k, k + f = n → Region.lexFrom md ops f k (lst n k) = true
  | 0, k, hk => by
    obtain rfl : k = n := by omega
    exact he
  | f + 1, k, hk => by
    have h1 := h k (by omega)
    unfold stepB at h1
    rw [Bool.and_eq_true] at h1
    show ((Region.ready md ops (lst n k)).contains k && Region.free md ops (lst n k) k && Region.lexFrom md ops f (k + 1) ((lst n k).setIfInBounds k true)) = true
    rw [h1.1, h1.2, lst_next n k (by omega), lex_from md ops n h he f (k + 1) (by omega)]
    rfl
theorem lexB_of {md : Region.Mode} {ops : Array Oper} {n : Nat} (hn : ops.size = n) (hs : Region.noSelect ops = true) (h : ∀ k, k < n → stepB md ops n k = true) (he : (Region.ready md ops (lst n n)).isEmpty = true) : Region.lexB md ops = true := by
  unfold Region.lexB
  rw [hs, Bool.true_and, hn]
  have e : Array.replicate n false = lst n 0 := by
    unfold lst
    apply Array.ext'
    simp
  rw [e]
  exact lex_from md ops n h he n 0 (by omega)
theorem lex_cast {a b : Array Oper} (h : a = b) (hb : Region.lexB .any b = true) : Region.lexB .any a = true := by rw [h]; exact hb
theorem l6size : (opsOf Try.f76 11).size = 105 := by kernel_rfl
theorem l6sel : Region.noSelect (opsOf Try.f76 11) = true := by kernel_rfl
theorem l6s0 : ((List.range 7).all fun j => stepB .any (opsOf Try.f76 11) 105 (0 + j)) = true := by kernel_rfl
theorem l6s1 : ((List.range 7).all fun j => stepB .any (opsOf Try.f76 11) 105 (7 + j)) = true := by kernel_rfl
theorem l6s2 : ((List.range 7).all fun j => stepB .any (opsOf Try.f76 11) 105 (14 + j)) = true := by kernel_rfl
theorem l6s3 : ((List.range 7).all fun j => stepB .any (opsOf Try.f76 11) 105 (21 + j)) = true := by kernel_rfl
theorem l6s4 : ((List.range 7).all fun j => stepB .any (opsOf Try.f76 11) 105 (28 + j)) = true := by kernel_rfl
theorem l6s5 : ((List.range 7).all fun j => stepB .any (opsOf Try.f76 11) 105 (35 + j)) = true := by kernel_rfl
theorem l6s6 : ((List.range 7).all fun j => stepB .any (opsOf Try.f76 11) 105 (42 + j)) = true := by kernel_rfl
theorem l6s7 : ((List.range 7).all fun j => stepB .any (opsOf Try.f76 11) 105 (49 + j)) = true := by kernel_rfl
theorem l6s8 : ((List.range 7).all fun j => stepB .any (opsOf Try.f76 11) 105 (56 + j)) = true := by kernel_rfl
theorem l6s9 : ((List.range 7).all fun j => stepB .any (opsOf Try.f76 11) 105 (63 + j)) = true := by kernel_rfl
theorem l6s10 : ((List.range 7).all fun j => stepB .any (opsOf Try.f76 11) 105 (70 + j)) = true := by kernel_rfl
theorem l6s11 : ((List.range 7).all fun j => stepB .any (opsOf Try.f76 11) 105 (77 + j)) = true := by kernel_rfl
theorem l6s12 : ((List.range 7).all fun j => stepB .any (opsOf Try.f76 11) 105 (84 + j)) = true := by kernel_rfl
theorem l6s13 : ((List.range 7).all fun j => stepB .any (opsOf Try.f76 11) 105 (91 + j)) = true := by kernel_rfl
theorem l6s14 : ((List.range 7).all fun j => stepB .any (opsOf Try.f76 11) 105 (98 + j)) = true := by kernel_rfl
theorem l6end : (Region.ready .any (opsOf Try.f76 11) (lst 105 105)).isEmpty = true := by kernel_rfl
theorem l6lex : Region.lexB .any (opsOf Try.f76 11) = true := by
  refine lexB_of l6size l6sel (fun k hk => ?_) l6end
  have hq : k / 7 < 15 := by omega
  have hr : k % 7 < 7 := by omega
  have e : k = 7 * (k / 7) + k % 7 := by omega
  generalize k / 7 = q at hq e
  generalize k % 7 = r at hr e
  subst e
  have c : q = 0 ∨ q = 1 ∨ q = 2 ∨ q = 3 ∨ q = 4 ∨ q = 5 ∨ q = 6 ∨ q = 7 ∨ q = 8 ∨ q = 9 ∨ q = 10 ∨ q = 11 ∨ q = 12 ∨ q = 13 ∨ q = 14 := by omega
  rcases c with rfl | rfl | rfl | rfl | rfl | rfl | rfl | rfl | rfl | rfl | rfl | rfl | rfl | rfl | rfl
  · exact List.all_eq_true.1 l6s0 r (List.mem_range.2 hr)
  · exact List.all_eq_true.1 l6s1 r (List.mem_range.2 hr)
  · exact List.all_eq_true.1 l6s2 r (List.mem_range.2 hr)
  · exact List.all_eq_true.1 l6s3 r (List.mem_range.2 hr)
  · exact List.all_eq_true.1 l6s4 r (List.mem_range.2 hr)
  · exact List.all_eq_true.1 l6s5 r (List.mem_range.2 hr)
  · exact List.all_eq_true.1 l6s6 r (List.mem_range.2 hr)
  · exact List.all_eq_true.1 l6s7 r (List.mem_range.2 hr)
  · exact List.all_eq_true.1 l6s8 r (List.mem_range.2 hr)
  · exact List.all_eq_true.1 l6s9 r (List.mem_range.2 hr)
  · exact List.all_eq_true.1 l6s10 r (List.mem_range.2 hr)
  · exact List.all_eq_true.1 l6s11 r (List.mem_range.2 hr)
  · exact List.all_eq_true.1 l6s12 r (List.mem_range.2 hr)
  · exact List.all_eq_true.1 l6s13 r (List.mem_range.2 hr)
  · exact List.all_eq_true.1 l6s14 r (List.mem_range.2 hr)
end Go.Proofs.Ytmbninbecclbiaa.Man
