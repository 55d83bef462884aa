/- The machine side of functions of this seat, written by the session's program myprint.py: for each Go function a Lean function and the proof that the call answers just it. -/
import Derived.Test.YtmeamfkjfpaciaaPAx0
import Derived.Test.YtmeamfkjfpaciaaUp
import Derived.Test.YtmeamfkjfpaciaaPAx31
namespace Go.Proofs.Ytmeamfkjfpaciaa.PA
open Go.RowKit Go.Proofs.YtmeamfkjfpaciaaW.PrintWords Go.Proofs.YtmeamfkjfpaciaaW.PrintLast Go.Proofs.YtmeamfkjfpaciaaW.PrintMore
attribute [local go_sem] max2_int min2_int max_two min_two max_three min_three max_four min_four   -- for this text's walks alone
set_option linter.unusedVariables false
set_option linter.unusedSimpArgs false

/-! ### impl_NamedTriangle: function 20 -/
def impl_NamedTriangle.f (a0 : ByteArray) : Option (List Int × Bool):=(impl_namedTriangle.f a0).bind fun bt414 => (some (bt414.1,bt414.2))
set_option maxHeartbeats 8000000 in
set_option maxRecDepth 100000 in
theorem impl_NamedTriangle.calls (a0 : ByteArray) (r1 : List Int) (r2 : Bool) (w : World) (h : impl_NamedTriangle.f a0 = some (r1,r2)) :
  Calls Try.prog 20 #[.string a0] w fun e w' => ∃ v0_ : Value,e = .returned (.tuple #[v0_,.bool r2]) ∧ Kd.R (Kd.int .i64) 3 w' w.heap.size (fun _ => True) v0_ r1 ∧ Below w.heap.size w w':=by
 have HB:=Aside0.mk (Below.refl w.heap.size w)
 have H : ((impl_namedTriangle.f a0).bind fun bt414 => (some (bt414.1,bt414.2))) = some (r1,r2):=h;clear h
 replace H:=Option.bind_eq_some_iff.mp H
 obtain ⟨⟨t414,t415⟩,A20,H⟩:=H
 replace H : (some (t414,t415)) = some (r1,r2):=H
 have A2:=Aside0.mk A20;clear A20
 simp only [Option.some.injEq,Prod.mk.injEq] at H
 obtain ⟨rfl,rfl⟩:=H
 go_enter Try.func20,Try.ntmps20
 go_wp2_with (first|((with_reducible refine gate_callee (f:=41) rfl ?_);refine goesL_ (some 5) rfl rfl Try.func41 (by kernel_rfl) rfl #[.string a0] rfl (by (try simp only [List.map_toArray,List.map_cons,List.map_nil]);first|done|rfl|(simp only [List.length_drop,List.length_take];rfl)) ?_;(with_reducible refine (impl_namedTriangle.calls a0 t414 t415 _ A2.out).mono ?_);rintro e w3 ⟨v416,rfl,ho0,hb⟩;refine ⟨_,rfl,?_⟩;have n0_:=Aside0.mk (Kd.R_lower ho0 (below_size (belU HB.out)));have n1_:=Aside0.mk (below_step (belU HB.out) hb);clear HB;have HO417:=n0_;have HB:=n1_;clear n0_ n1_;(try clear hb);(try clear hb2);(try clear hk);(try clear hi);(try clear ho0)))
 go_ret2
 exact ⟨_,by first|rfl|(simp [errW_none,errW_some] <;> rfl)|(simp [*,errW_none,errW_some] <;> rfl),rU HO417.out,belU HB.out⟩

end Go.Proofs.Ytmeamfkjfpaciaa.PA
