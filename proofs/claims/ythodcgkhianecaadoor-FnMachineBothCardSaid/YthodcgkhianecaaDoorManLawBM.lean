/- The law FnMachineBoth, its call: it returns true; no condition but the bytes' range and the facts on numbers that it is handed. -/
import Derived.Test.YthodcgkhianecaaDoorManRW
import Derived.Test.YthodcgkhianecaaDoorManHolds
import Derived.Test.YthodcgkhianecaaDoorSemA
import Derived.Test.YthodcgkhianecaaDoorPAx24
import Derived.Test.YthodcgkhianecaaDoorPAx25
import Derived.Test.YthodcgkhianecaaDoorPAx3
import Derived.Test.YthodcgkhianecaaDoorPAx26
import Derived.Test.YthodcgkhianecaaDoorPAx11
import Derived.Test.YthodcgkhianecaaDoorPAx15
import Derived.Test.YthodcgkhianecaaDoorPAx27
import Derived.Test.YthodcgkhianecaaDoorPAx21
import Derived.Test.YthodcgkhianecaaDoorPAx22
import Derived.Test.YthodcgkhianecaaDoorPAx29
namespace Go.Proofs.YthodcgkhianecaaDoor.Man
open Go.RowKit Go.Proofs.YthodcgkhianecaaDoor.PA Go.Proofs.YthodcgkhianecaaDoorW.PrintWords Go.Proofs.YthodcgkhianecaaDoorW.PrintLast Go.Proofs.YthodcgkhianecaaDoorW.PrintMore
set_option linter.unusedVariables false
set_option linter.unusedSimpArgs false

/-- A struct of three is stored in a block. -/
def PW (W : World) (g : Nat) (v0 v1 v2 : Value) : World:=((W.setCell ⟨g,0,none⟩ v0).setCell ⟨g,1,none⟩ v1).setCell ⟨g,2,none⟩ v2
section
variable {w W W' : World} {v v0 v1 v2 u u0 u1 u2 z0 z1 z2 : Value} {l l0 l1 l2 n n0 n1 n2 m0 m1 m2 : List Int} {g g' k t : Nat} {b : Bool}
theorem pw_far (hne : k ≠ g) : (PW W g v0 v1 v2).heap[k]? = W.heap[k]? :=
 (Below.heap_setCell _ ⟨g,2,none⟩ _ k hne).trans ((Below.heap_setCell _ ⟨g,1,none⟩ _ k hne).trans (Below.heap_setCell _ ⟨g,0,none⟩ _ k hne))
theorem pw_own (hb : W.heap[g]? = some (.cells #[z0,z1,z2] t (0,0))) : (PW W g v0 v1 v2).heap[g]? = some (.cells #[v0,v1,v2] t (0,0)) :=
 blk_put (cs:=#[v0,v1,z2]) (blk_put (cs:=#[v0,z1,z2]) (blk_put (cs:=#[z0,z1,z2]) hb 0 _ rfl) 1 _ rfl) 2 _ rfl
theorem pw_blk {cs : Array Value} (h : W.heap[g']? = some (.cells cs t (0,0))) (hne : g' ≠ g) : (PW W g v0 v1 v2).heap[g']? = some (.cells cs t (0,0)):=(pw_far hne).trans h
theorem pw_below (h : Below w.heap.size w W) (hle : w.heap.size ≤ g) : Below w.heap.size w (PW W g v0 v1 v2):=below_set (below_set (below_set h hle) hle) hle
theorem OM.pw (o : OM w W u0 u1 u2 l0 l1 l2) (hb : W.heap[g]? = some (.cells #[z0,z1,z2] t (0,0))) (ht : 3 ≠ t) : OM w (PW W g v0 v1 v2) u0 u1 u2 l0 l1 l2 :=
 o.step (fun k hk _ => pw_far (fun e => o.notbox hb ht (e ▸ hk)))
theorem Mx.pw (o : Man.Mx w W g' u0 u1 u2 l0 l1 l2) (hb : W.heap[g]? = some (.cells #[z0,z1,z2] t (0,0))) (ht : 3 ≠ t) (hne : g' ≠ g) : Man.Mx w (PW W g v0 v1 v2) g' u0 u1 u2 l0 l1 l2 :=
 ⟨o.om.pw hb ht,pw_blk o.bx hne⟩
theorem OM.put (o : OM w W v0 v1 v2 l0 l1 l2) (hb : W.heap[g]? = some (.cells #[z0,z1,z2] 25 (0,0))) : Man.Mx w (PW W g v0 v1 v2) g v0 v1 v2 l0 l1 l2:=⟨o.pw hb (by decide),pw_own hb⟩
theorem OM.drew (o : OM w W v0 v1 v2 l0 l1 l2) : OM w W.drew v0 v1 v2 l0 l1 l2:=o.step (fun _ _ _ => rfl)
theorem calls_draw2 {A : Option Addr} {c : Nat} (hr : Kd.C (Kd.int .u8) w A l.length l) (hc : l.length ≤ c) (h : spec_DrawMachineBoth.f k l = some (n0,n1,n2,m0,m1,m2)) : Calls Tryd.prog 12 #[.slice A l.length c] w fun e w' => ∃ a0 a1 a2 b0 b1 b2 : Value,e = .returned (.tuple #[.agg #[a0,a1,a2],.agg #[b0,b1,b2]]) ∧ OM w w' a0 a1 a2 n0 n1 n2 ∧ OM w w' b0 b1 b2 m0 m1 m2 ∧ Below w.heap.size w w' :=
 (spec_DrawMachineBoth.calls k A c l n0 n1 n2 m0 m1 m2 w hr hc h).mono (fun e w' ⟨a0,a1,a2,b0,b1,b2,he,h0,h1,h2,h3,h4,h5,hb⟩ => ⟨a0,a1,a2,b0,b1,b2,he,
  (OM.made (Nat.le_refl _) (Kd.R_mono h0 (fun _ h => ⟨h.1,h.2.1⟩)) (Kd.R_mono h1 (fun _ h => ⟨h.1,h.2.1⟩)) (Kd.R_mono h2 (fun _ h => ⟨h.1,h.2.1⟩))).1,
  (OM.made (Nat.le_refl _) (Kd.R_mono h3 (fun _ h => ⟨h.2.2.2.1,h.2.2.2.2⟩)) (Kd.R_mono h4 (fun _ h => ⟨h.2.2.2.1,h.2.2.2.2⟩)) (Kd.R_mono h5 (fun _ h => ⟨h.2.2.2.1,h.2.2.2.2⟩))).1,hb⟩)
theorem calls_text {A : Option Addr} {c : Nat} {s : ByteArray} (hw : w.heap.size ≤ W.heap.size) (hr : Kd.C (Kd.int .u8) W A l.length l) (hc : l.length ≤ c) (h : spec_DrawSaysYes.f k l = some (n0,n1,n2,s)) : Calls Tryd.prog 5 #[.slice A l.length c] W fun e w' => ∃ a0 a1 a2 : Value,e = .returned (.tuple #[.agg #[a0,a1,a2],.string s]) ∧ OM w w' a0 a1 a2 n0 n1 n2 ∧ Below W.heap.size W w' :=
 (spec_DrawSaysYes.calls k A c l n0 n1 n2 s W hr hc h).mono (fun e w' ⟨a0,a1,a2,he,h0,h1,h2,hb⟩ => ⟨a0,a1,a2,he,(OM.made hw h0 h1 h2).1,hb⟩)
theorem calls_bothI (hw : w.heap.size ≤ W.heap.size) (o : OM w W v0 v1 v2 l0 l1 l2) (p : OM w W u0 u1 u2 m0 m1 m2) (h : impl_MachineBoth.f k l0 l1 l2 m0 m1 m2 = some (n0,n1,n2,b)) : Calls Tryd.prog 13 #[.agg #[v0,v1,v2],.agg #[u0,u1,u2]] W fun e w' => ∃ a0 a1 a2 : Value,e = .returned (.tuple #[.agg #[a0,a1,a2],.bool b]) ∧ OM w w' a0 a1 a2 n0 n1 n2 ∧ Below W.heap.size W w':=by
 obtain ⟨A0,c0,A1,c1,A2,c2,rfl,rfl,rfl,q0,q1,q2,r0,r1,r2⟩:=o.reads
 obtain ⟨B0,d0,B1,d1,B2,d2,rfl,rfl,rfl,x0,x1,x2,y0,y1,y2⟩:=p.reads
 exact (impl_MachineBoth.calls k A0 c0 l0 A1 c1 l1 A2 c2 l2 B0 d0 m0 B1 d1 m1 B2 d2 m2 n0 n1 n2 b W r0 q0 r1 q1 r2 q2 y0 x0 y1 x1 y2 x2 h).mono (fun e w' ⟨a0,a1,a2,he,h0,h1,h2,hb⟩ => ⟨a0,a1,a2,he,(OM.made hw h0 h1 h2).1,hb⟩)
theorem calls_bothS (hw : w.heap.size ≤ W.heap.size) (o : OM w W v0 v1 v2 l0 l1 l2) (p : OM w W u0 u1 u2 m0 m1 m2) (h : spec_MachineBoth.f k l0 l1 l2 m0 m1 m2 = some (n0,n1,n2,b)) : Calls Tryd.prog 14 #[.agg #[v0,v1,v2],.agg #[u0,u1,u2]] W fun e w' => ∃ a0 a1 a2 : Value,e = .returned (.tuple #[.agg #[a0,a1,a2],.bool b]) ∧ OM w w' a0 a1 a2 n0 n1 n2 ∧ Below W.heap.size W w':=by
 obtain ⟨A0,c0,A1,c1,A2,c2,rfl,rfl,rfl,q0,q1,q2,r0,r1,r2⟩:=o.reads
 obtain ⟨B0,d0,B1,d1,B2,d2,rfl,rfl,rfl,x0,x1,x2,y0,y1,y2⟩:=p.reads
 exact (spec_MachineBoth.calls k A0 c0 l0 A1 c1 l1 A2 c2 l2 B0 d0 m0 B1 d1 m1 B2 d2 m2 n0 n1 n2 b W r0 q0 r1 q1 r2 q2 y0 x0 y1 x1 y2 x2 h).mono (fun e w' ⟨a0,a1,a2,he,h0,h1,h2,hb⟩ => ⟨a0,a1,a2,he,(OM.made hw h0 h1 h2).1,hb⟩)
theorem calls_sameM (o : OM w W v0 v1 v2 l0 l1 l2) (p : OM w W u0 u1 u2 m0 m1 m2) (h : laws_sameMachine.f k l0 l1 l2 m0 m1 m2 = some b) : Calls Tryd.prog 15 #[.agg #[v0,v1,v2],.agg #[u0,u1,u2]] W fun e w' => e = .returned (.bool b) ∧ Below W.heap.size W w':=by
 obtain ⟨A0,c0,A1,c1,A2,c2,rfl,rfl,rfl,q0,q1,q2,r0,r1,r2⟩:=o.reads
 obtain ⟨B0,d0,B1,d1,B2,d2,rfl,rfl,rfl,x0,x1,x2,y0,y1,y2⟩:=p.reads
 exact (laws_sameMachine.calls k A0 c0 l0 A1 c1 l1 A2 c2 l2 B0 d0 m0 B1 d1 m1 B2 d2 m2 b W r0 q0 r1 q1 r2 q2 y0 x0 y1 x1 y2 x2 h).mono (fun e w' ⟨he,hd⟩ => ⟨he,by first|exact hd|exact below_drawnN hd⟩)
theorem calls_says {s : ByteArray} (o : OM w W v0 v1 v2 l0 l1 l2) (h : impl_SaysYes.f k l0 l1 l2 s = some b) : Calls Tryd.prog 6 #[.agg #[v0,v1,v2],.string s] W fun e w' => e = .returned (.bool b) ∧ Below W.heap.size W w':=by
 obtain ⟨A0,c0,A1,c1,A2,c2,rfl,rfl,rfl,q0,q1,q2,r0,r1,r2⟩:=o.reads
 exact (impl_SaysYes.calls k A0 c0 l0 A1 c1 l1 A2 c2 l2 s b W r0 q0 r1 q1 r2 q2 h).mono (fun e w' ⟨he,hd⟩ => ⟨he,by first|exact hd|exact below_drawnN hd⟩)
theorem calls_okM (o : OM w W v0 v1 v2 l0 l1 l2) (h : impl_MachineOk.f k l0 l1 l2 = some b) : Calls Tryd.prog 16 #[.agg #[v0,v1,v2]] W fun e w' => e = .returned (.bool b) ∧ Below W.heap.size W w':=by
 obtain ⟨A0,c0,A1,c1,A2,c2,rfl,rfl,rfl,q0,q1,q2,r0,r1,r2⟩:=o.reads
 exact (impl_MachineOk.calls k A0 c0 l0 A1 c1 l1 A2 c2 l2 b W r0 q0 r1 q1 r2 q2 h).mono (fun e w' ⟨he,hd⟩ => ⟨he,by first|exact hd|exact below_drawnN hd⟩)
theorem calls_any (o : OM w W v0 v1 v2 l0 l1 l2) (h : impl_AnyOrder.f k l0 l1 l2 = some b) : Calls Tryd.prog 8 #[.agg #[v0,v1,v2]] W fun e w' => e = .returned (.bool b) ∧ Below W.heap.size W w':=by
 obtain ⟨A0,c0,A1,c1,A2,c2,rfl,rfl,rfl,q0,q1,q2,r0,r1,r2⟩:=o.reads
 exact (impl_AnyOrder.calls k A0 c0 l0 A1 c1 l1 A2 c2 l2 b W r0 q0 r1 q1 r2 q2 h).mono (fun e w' ⟨he,hd⟩ => ⟨he,by first|exact hd|exact below_drawnN hd⟩)
theorem calls_impl (hw : w.heap.size ≤ W.heap.size) (o : OM w W v0 v1 v2 l0 l1 l2) (h : impl_TriangleOf.f k l0 l1 l2 = some n) : Calls Tryd.prog 10 #[.agg #[v0,v1,v2]] W (GivesR w W n):=by
 obtain ⟨A0,c0,A1,c1,A2,c2,rfl,rfl,rfl,q0,q1,q2,r0,r1,r2⟩:=o.reads
 exact (impl_TriangleOf.calls k A0 c0 l0 A1 c1 l1 A2 c2 l2 n W r0 q0 r1 q1 r2 q2 h).mono (fun e w' ⟨u,he,h0,hb⟩ => ⟨u,he,Kd.R_lower (Kd.R_tight rfl h0) hw,fun k hk => Kd.R_base h0 k hk.symm,hb⟩)
theorem calls_bothOf (hw : w.heap.size ≤ W.heap.size) (o : RW w W v l) (p : RW w W u n) (h : impl_BothOf.f k l n = some n0) : Calls Tryd.prog 18 #[v,u] W (GivesR w W n0):=by
 obtain ⟨A,c,rfl,q,r⟩:=o.reads
 obtain ⟨B,d,rfl,s,t⟩:=p.reads
 exact (impl_BothOf.calls k A c l B d n n0 W r q t s h).mono (fun e w' ⟨u,he,h0,hb⟩ => ⟨u,he,Kd.R_lower (Kd.R_tight rfl h0) hw,fun k hk => Kd.R_base h0 k hk.symm,hb⟩)
theorem calls_same (o : RW w W v l) (p : RW w W u l) (h : laws_sameInts.f k l l = some true) : Calls Tryd.prog 17 #[v,u] W fun e w' => e = .returned (.bool true) ∧ Below W.heap.size W w':=by
 obtain ⟨A,c,rfl,q,r⟩:=o.reads
 obtain ⟨B,d,rfl,s,t⟩:=p.reads
 exact (laws_sameInts.calls k A c l B d l true W r q t s h).mono (fun e w' ⟨he,hd⟩ => ⟨he,below_drawnN hd⟩)
end
/-- What the law's calls answer. -/
structure BmFacts (l : List Int) (kd k1 k2 k3 : Nat) (p0 p1 p2 q0 q1 q2 x0 x1 x2 : List Int) (b : Bool) : Prop where
 d : spec_DrawMachineBoth.f kd l = some (p0,p1,p2,q0,q1,q2)
 i : impl_MachineBoth.f k1 p0 p1 p2 q0 q1 q2 = some (x0,x1,x2,b)
 s : spec_MachineBoth.f k2 p0 p1 p2 q0 q1 q2 = some (x0,x1,x2,b)
 e : laws_sameMachine.f k3 x0 x1 x2 x0 x1 x2 = some true
structure BmTold (l : List Int) (k1 k2 k3 k4 k5 k6 k7 k8 : Nat) (p0 p1 p2 q0 q1 q2 x0 x1 x2 : List Int) (z0 z1 z2 : List Int) (s : ByteArray) (u v a1 a2 : Bool) : Prop where
 t : spec_DrawSaysYes.f k1 l = some (z0,z1,z2,s)
 sx : impl_SaysYes.f k2 x0 x1 x2 s = some (u && v)
 sm : impl_SaysYes.f k3 p0 p1 p2 s = some u
 sn : impl_SaysYes.f k4 q0 q1 q2 s = some v
 ok : impl_MachineOk.f k5 x0 x1 x2 = some true
 am : impl_AnyOrder.f k6 p0 p1 p2 = some a1
 an : impl_AnyOrder.f k7 q0 q1 q2 = some a2
structure BmTri (k1 k2 k3 k4 k5 k6 : Nat) (p0 p1 p2 q0 q1 q2 x0 x1 x2 T U V : List Int) : Prop where
 ax : impl_AnyOrder.f k1 x0 x1 x2 = some true
 tx : impl_TriangleOf.f k2 x0 x1 x2 = some T
 tm : impl_TriangleOf.f k3 p0 p1 p2 = some U
 tn : impl_TriangleOf.f k4 q0 q1 q2 = some V
 bo : impl_BothOf.f k5 U V = some T
 e : laws_sameInts.f k6 T T = some true

set_option maxHeartbeats 8000000 in
set_option maxRecDepth 100000 in
theorem lawBM (A : Option Addr) (c : Nat) (l : List Int) (B : Option Addr) (d : Nat) (m : List Int) (w : World) (hr : Kd.C (Kd.int .u8) w A l.length l) (hc : l.length ≤ c) (hs : Kd.C (Kd.int .u8) w B m.length m) (hd : m.length ≤ d)
  (F : ¬ ((l.length : Int) > 1048576 ∨ (m.length : Int) > 1048576) → ∃ kd k1 k2 k3 p0 p1 p2 q0 q1 q2 x0 x1 x2 b,BmFacts l kd k1 k2 k3 p0 p1 p2 q0 q1 q2 x0 x1 x2 b ∧ ((b = false ∧ x0 = []) ∨ (b = true ∧ ∃ j1 j2 j3 j4 j5 j6 j7 j8 z0 z1 z2 s u v a1 a2,BmTold m j1 j2 j3 j4 j5 j6 j7 j8 p0 p1 p2 q0 q1 q2 x0 x1 x2 z0 z1 z2 s u v a1 a2 ∧ (a1 = true → a2 = true → ∃ i1 i2 i3 i4 i5 i6 T U V,BmTri i1 i2 i3 i4 i5 i6 p0 p1 p2 q0 q1 q2 x0 x1 x2 T U V)))) :
  Calls Tryd.prog 4 #[.slice A l.length c,.slice B m.length d] w fun e w' => e = .returned (.bool true) ∧ Below w.heap.size w w':=by
 have hu24:=Tryd.underlying25
 have HR:=Aside0.mk hr
 have HC:=Aside0.mk hc
 have HS:=Aside0.mk hs
 have HD:=Aside0.mk hd
 clear hr hc hs hd
 by_cases c2 : (l.length : Int) > 1048576
 ·
  have c2b0 : decide (1048576 < (l.length : Int)) = true:=decide_eq_true c2
  have c2b1 : decide (1048576 < l.length) = true:=decide_eq_true (by omega);clear c2 F
  go_enter Tryd.func4,Tryd.ntmps4
  go_wp2
  go_ret
  exact ⟨rfl,Below.refl _ _⟩
 have c2b0 : decide (1048576 < (l.length : Int)) = false:=decide_eq_false c2
 have c2b1 : decide (1048576 < l.length) = false:=decide_eq_false (by omega)
 by_cases c3 : (m.length : Int) > 1048576
 ·
  have c3b0 : decide (1048576 < (m.length : Int)) = true:=decide_eq_true c3
  have c3b1 : decide (1048576 < m.length) = true:=decide_eq_true (by omega);clear c2 c3 F
  go_enter Tryd.func4,Tryd.ntmps4
  go_wp2
  go_ret
  exact ⟨rfl,Below.refl _ _⟩
 have c3b0 : decide (1048576 < (m.length : Int)) = false:=decide_eq_false c3
 have c3b1 : decide (1048576 < m.length) = false:=decide_eq_false (by omega)
 obtain ⟨kd,k1,k2,k3,p0,p1,p2,q0,q1,q2,x0,x1,x2,b,F,G⟩:=F (fun h => h.elim c2 c3)
 clear c2 c3
 have FD:=Aside0.mk F.d
 have FI:=Aside0.mk F.i
 have FS:=Aside0.mk F.s
 have FE:=Aside0.mk F.e
 clear F
 rcases G with ⟨rfl,hx⟩|⟨rfl,j1,j2,j3,j4,j5,j6,j7,j8,z0,z1,z2,s,u,v,a1,a2,G,G3⟩
 ·
  have t0 : ((x0.length : Int) == 0) = true:=beq_iff_eq.2 (by rw [hx];rfl)
  have t1 : (x0.length == 0) = true:=beq_iff_eq.2 (by rw [hx];rfl)
  clear hx
  go_enter Tryd.func4,Tryd.ntmps4
  go_wp2_with (first|(go_at_call 12;refine (calls_draw2 HR.out HC.out FD.out).mono ?_;rintro e w3 ⟨y0,y1,y2,y3,y4,y5,rfl,oa_,ob_,hb_⟩;obtain ⟨PA0,pa0,PA1,pa1,PA2,pa2,rfl,rfl,rfl,_⟩:=oa_.reads;obtain ⟨PB0,pb0,PB1,pb1,PB2,pb2,rfl,rfl,rfl,_⟩:=ob_.reads;have Oa:=Aside0.mk oa_;have Ob:=Aside0.mk ob_;have HB3:=Aside0.mk hb_;clear oa_ ob_ hb_)|((with_reducible refine gate_dst (N:=5) rfl ?_);refine box_event ?hg (N:=5) ?hd (cs:=#[.slice none 0 0,.slice none 0 0,.slice none 0 0]) (t:=25) ?hr ?_;(case hd => rfl);(case hg => rfl);(case hr => first|(go_simp;done)|(go_simp;rfl));intro g5 hg5 wg5 hbox hb;have Oa5:=Aside0.mk (Oa.out.below hb);have Ob5:=Aside0.mk (Ob.out.below hb);have HB5:=Aside0.mk (below_step HB3.out hb);have K5:=Aside0.mk hbox;have L5:=Aside0.mk (show w.heap.size ≤ g5 by rw [hg5];exact below_size HB3.out);clear hbox hb hg5)|((with_reducible refine gate_dst (N:=6) rfl ?_);refine box_event ?hg (N:=6) ?hd (cs:=#[.slice none 0 0,.slice none 0 0,.slice none 0 0]) (t:=25) ?hr ?_;(case hd => rfl);(case hg => rfl);(case hr => first|(go_simp;done)|(go_simp;rfl));intro g6 hg6 wg6 hbox hb;have K5b:=Aside0.mk (blk_below K5.out hb);have N56:=Aside0.mk (show g5 ≠ g6 from fun e_ => by have h1_:=blk_lt K5.out;rw [e_,hg6] at h1_;exact absurd h1_ (Nat.lt_irrefl _));have oa_:=Oa5.out.below hb;have ob_:=Ob5.out.below hb;have hb_:=below_step HB5.out hb;have L6:=Aside0.mk (show w.heap.size ≤ g6 by rw [hg6];exact below_size HB5.out);have ma_:=oa_.put K5b.out;have k6_:=pw_blk (v0:=(.slice PA0 p0.length pa0)) (v1:=(.slice PA1 p1.length pa1)) (v2:=(.slice PA2 p2.length pa2)) hbox N56.out.symm;have mb_:=(ob_.pw (v0:=(.slice PA0 p0.length pa0)) (v1:=(.slice PA1 p1.length pa1)) (v2:=(.slice PA2 p2.length pa2)) K5b.out (by decide)).put k6_;have Ma6:=Aside0.mk (show Man.Mx w ((((((wg6.setCell ⟨g5,0,none⟩ (.slice PA0 p0.length pa0)).setCell ⟨g5,1,none⟩ (.slice PA1 p1.length pa1)).setCell ⟨g5,2,none⟩ (.slice PA2 p2.length pa2)).setCell ⟨g6,0,none⟩ (.slice PB0 q0.length pb0)).setCell ⟨g6,1,none⟩ (.slice PB1 q1.length pb1)).setCell ⟨g6,2,none⟩ (.slice PB2 q2.length pb2)) g5 _ _ _ p0 p1 p2 from ma_.pw k6_ (by decide) N56.out);have Mb6:=Aside0.mk (show Man.Mx w ((((((wg6.setCell ⟨g5,0,none⟩ (.slice PA0 p0.length pa0)).setCell ⟨g5,1,none⟩ (.slice PA1 p1.length pa1)).setCell ⟨g5,2,none⟩ (.slice PA2 p2.length pa2)).setCell ⟨g6,0,none⟩ (.slice PB0 q0.length pb0)).setCell ⟨g6,1,none⟩ (.slice PB1 q1.length pb1)).setCell ⟨g6,2,none⟩ (.slice PB2 q2.length pb2)) g6 _ _ _ q0 q1 q2 from mb_);have HB6:=Aside0.mk (show Below w.heap.size w ((((((wg6.setCell ⟨g5,0,none⟩ (.slice PA0 p0.length pa0)).setCell ⟨g5,1,none⟩ (.slice PA1 p1.length pa1)).setCell ⟨g5,2,none⟩ (.slice PA2 p2.length pa2)).setCell ⟨g6,0,none⟩ (.slice PB0 q0.length pb0)).setCell ⟨g6,1,none⟩ (.slice PB1 q1.length pb1)).setCell ⟨g6,2,none⟩ (.slice PB2 q2.length pb2)) from pw_below (pw_below hb_ L5.out) L6.out);have hc50_ : wg6.cell? ⟨g5,0,none⟩ = some (.slice none 0 0):=(blk_cell K5b.out 0).trans rfl;have hc51_ : wg6.cell? ⟨g5,1,none⟩ = some (.slice none 0 0):=(blk_cell K5b.out 1).trans rfl;have hc52_ : wg6.cell? ⟨g5,2,none⟩ = some (.slice none 0 0):=(blk_cell K5b.out 2).trans rfl;have hf50_:=blk_frozen K5b.out 0;have hf51_:=blk_frozen K5b.out 1;have hf52_:=blk_frozen K5b.out 2;have hc60_ : wg6.cell? ⟨g6,0,none⟩ = some (.slice none 0 0):=(blk_cell hbox 0).trans rfl;have hc61_ : wg6.cell? ⟨g6,1,none⟩ = some (.slice none 0 0):=(blk_cell hbox 1).trans rfl;have hc62_ : wg6.cell? ⟨g6,2,none⟩ = some (.slice none 0 0):=(blk_cell hbox 2).trans rfl;have hf60_:=blk_frozen hbox 0;have hf61_:=blk_frozen hbox 1;have hf62_:=blk_frozen hbox 2;clear oa_ ob_ hb_ ma_ mb_ k6_;have n5_6:=N56.out;have n6_5:=N56.out.symm;clear hbox hb hg6)|(go_at_call 13;(with_reducible refine (calls_bothI (w:=w) (below_size HB6.out) Ma6.out.om Mb6.out.om FI.out).mono ?_);rintro e w7 ⟨y0,y1,y2,rfl,ox_,hb_⟩;obtain ⟨PX0,px0,PX1,px1,PX2,px2,rfl,rfl,rfl,_⟩:=ox_.reads;have Ox7:=Aside0.mk ox_;have Ma7:=Aside0.mk (Ma6.out.below hb_);have Mb7:=Aside0.mk (Mb6.out.below hb_);have HB7:=Aside0.mk (below_step HB6.out hb_);clear ox_ hb_)|((with_reducible refine gate_dst (N:=7) rfl ?_);refine box_event ?hg (N:=7) ?hd (cs:=#[.slice none 0 0,.slice none 0 0,.slice none 0 0]) (t:=25) ?hr ?_;(case hd => rfl);(case hg => rfl);(case hr => first|(go_simp;done)|(go_simp;rfl));intro g7 hg7 wg8 hbox hb;have hb_:=hb;have L7:=Aside0.mk (show w.heap.size ≤ g7 by rw [hg7];exact below_size HB7.out);have N57:=Aside0.mk (show g5 ≠ g7 from fun e_ => by have h1_:=blk_lt Ma7.out.bx;rw [e_,hg7] at h1_;exact absurd h1_ (Nat.lt_irrefl _));have N67:=Aside0.mk (show g6 ≠ g7 from fun e_ => by have h1_:=blk_lt Mb7.out.bx;rw [e_,hg7] at h1_;exact absurd h1_ (Nat.lt_irrefl _));have Ma8:=Aside0.mk (show Man.Mx w (((wg8.setCell ⟨g7,0,none⟩ (.slice PX0 x0.length px0)).setCell ⟨g7,1,none⟩ (.slice PX1 x1.length px1)).setCell ⟨g7,2,none⟩ (.slice PX2 x2.length px2)) g5 _ _ _ p0 p1 p2 from (Ma7.out.below hb_).pw hbox (by decide) N57.out);have Mb8:=Aside0.mk (show Man.Mx w (((wg8.setCell ⟨g7,0,none⟩ (.slice PX0 x0.length px0)).setCell ⟨g7,1,none⟩ (.slice PX1 x1.length px1)).setCell ⟨g7,2,none⟩ (.slice PX2 x2.length px2)) g6 _ _ _ q0 q1 q2 from (Mb7.out.below hb_).pw hbox (by decide) N67.out);have Mx8:=Aside0.mk (show Man.Mx w (((wg8.setCell ⟨g7,0,none⟩ (.slice PX0 x0.length px0)).setCell ⟨g7,1,none⟩ (.slice PX1 x1.length px1)).setCell ⟨g7,2,none⟩ (.slice PX2 x2.length px2)) g7 _ _ _ x0 x1 x2 from (Ox7.out.below hb_).put hbox);have HB8:=Aside0.mk (show Below w.heap.size w (((wg8.setCell ⟨g7,0,none⟩ (.slice PX0 x0.length px0)).setCell ⟨g7,1,none⟩ (.slice PX1 x1.length px1)).setCell ⟨g7,2,none⟩ (.slice PX2 x2.length px2)) from pw_below (below_step HB7.out hb_) L7.out);have hc70_ : wg8.cell? ⟨g7,0,none⟩ = some (.slice none 0 0):=(blk_cell hbox 0).trans rfl;have hc71_ : wg8.cell? ⟨g7,1,none⟩ = some (.slice none 0 0):=(blk_cell hbox 1).trans rfl;have hc72_ : wg8.cell? ⟨g7,2,none⟩ = some (.slice none 0 0):=(blk_cell hbox 2).trans rfl;have hf70_:=blk_frozen hbox 0;have hf71_:=blk_frozen hbox 1;have hf72_:=blk_frozen hbox 2;clear hb_;have hcC0_ : wg8.cell? ⟨g5,0,none⟩ = some ((.slice PA0 p0.length pa0)):=(blk_cell (Ma7.out.below hb).bx 0).trans rfl;have hcC1_ : wg8.cell? ⟨g5,1,none⟩ = some ((.slice PA1 p1.length pa1)):=(blk_cell (Ma7.out.below hb).bx 1).trans rfl;have hcC2_ : wg8.cell? ⟨g5,2,none⟩ = some ((.slice PA2 p2.length pa2)):=(blk_cell (Ma7.out.below hb).bx 2).trans rfl;have hcD0_ : wg8.cell? ⟨g6,0,none⟩ = some ((.slice PB0 q0.length pb0)):=(blk_cell (Mb7.out.below hb).bx 0).trans rfl;have hcD1_ : wg8.cell? ⟨g6,1,none⟩ = some ((.slice PB1 q1.length pb1)):=(blk_cell (Mb7.out.below hb).bx 1).trans rfl;have hcD2_ : wg8.cell? ⟨g6,2,none⟩ = some ((.slice PB2 q2.length pb2)):=(blk_cell (Mb7.out.below hb).bx 2).trans rfl;have hfC0_:=blk_frozen (Ma7.out.below hb).bx 0;have hfC1_:=blk_frozen (Ma7.out.below hb).bx 1;have hfC2_:=blk_frozen (Ma7.out.below hb).bx 2;have hfD0_:=blk_frozen (Mb7.out.below hb).bx 0;have hfD1_:=blk_frozen (Mb7.out.below hb).bx 1;have hfD2_:=blk_frozen (Mb7.out.below hb).bx 2;have n5_7:=N57.out;have n7_5:=N57.out.symm;have n6_7:=N67.out;have n7_6:=N67.out.symm;clear hbox hb hg7)|(go_at_call 14;(with_reducible refine (calls_bothS (w:=w) (below_size HB8.out) Ma8.out.om Mb8.out.om FS.out).mono ?_);rintro e w9 ⟨y0,y1,y2,rfl,ox_,hb_⟩;obtain ⟨PY0,py0,PY1,py1,PY2,py2,rfl,rfl,rfl,_⟩:=ox_.reads;have Oy9:=Aside0.mk ox_;have Ma9:=Aside0.mk (Ma8.out.below hb_);have Mb9:=Aside0.mk (Mb8.out.below hb_);have Mx9:=Aside0.mk (Mx8.out.below hb_);have HB9:=Aside0.mk (below_step HB8.out hb_);clear ox_ hb_)|((with_reducible refine gate_dst (N:=9) rfl ?_);refine box_event ?hg (N:=9) ?hd (cs:=#[.slice none 0 0,.slice none 0 0,.slice none 0 0]) (t:=25) ?hr ?_;(case hd => rfl);(case hg => rfl);(case hr => first|(go_simp;done)|(go_simp;rfl));intro g9 hg9 wg10 hbox hb;have hb_:=hb;have L9:=Aside0.mk (show w.heap.size ≤ g9 by rw [hg9];exact below_size HB9.out);have N59:=Aside0.mk (show g5 ≠ g9 from fun e_ => by have h1_:=blk_lt Ma9.out.bx;rw [e_,hg9] at h1_;exact absurd h1_ (Nat.lt_irrefl _));have N69:=Aside0.mk (show g6 ≠ g9 from fun e_ => by have h1_:=blk_lt Mb9.out.bx;rw [e_,hg9] at h1_;exact absurd h1_ (Nat.lt_irrefl _));have N79:=Aside0.mk (show g7 ≠ g9 from fun e_ => by have h1_:=blk_lt Mx9.out.bx;rw [e_,hg9] at h1_;exact absurd h1_ (Nat.lt_irrefl _));have Ma10:=Aside0.mk (show Man.Mx w (((wg10.setCell ⟨g9,0,none⟩ (.slice PY0 x0.length py0)).setCell ⟨g9,1,none⟩ (.slice PY1 x1.length py1)).setCell ⟨g9,2,none⟩ (.slice PY2 x2.length py2)) g5 _ _ _ p0 p1 p2 from (Ma9.out.below hb_).pw hbox (by decide) N59.out);have Mb10:=Aside0.mk (show Man.Mx w (((wg10.setCell ⟨g9,0,none⟩ (.slice PY0 x0.length py0)).setCell ⟨g9,1,none⟩ (.slice PY1 x1.length py1)).setCell ⟨g9,2,none⟩ (.slice PY2 x2.length py2)) g6 _ _ _ q0 q1 q2 from (Mb9.out.below hb_).pw hbox (by decide) N69.out);have Mx10:=Aside0.mk (show Man.Mx w (((wg10.setCell ⟨g9,0,none⟩ (.slice PY0 x0.length py0)).setCell ⟨g9,1,none⟩ (.slice PY1 x1.length py1)).setCell ⟨g9,2,none⟩ (.slice PY2 x2.length py2)) g7 _ _ _ x0 x1 x2 from (Mx9.out.below hb_).pw hbox (by decide) N79.out);have My10:=Aside0.mk (show Man.Mx w (((wg10.setCell ⟨g9,0,none⟩ (.slice PY0 x0.length py0)).setCell ⟨g9,1,none⟩ (.slice PY1 x1.length py1)).setCell ⟨g9,2,none⟩ (.slice PY2 x2.length py2)) g9 _ _ _ x0 x1 x2 from (Oy9.out.below hb_).put hbox);have HB10:=Aside0.mk (show Below w.heap.size w (((wg10.setCell ⟨g9,0,none⟩ (.slice PY0 x0.length py0)).setCell ⟨g9,1,none⟩ (.slice PY1 x1.length py1)).setCell ⟨g9,2,none⟩ (.slice PY2 x2.length py2)) from pw_below (below_step HB9.out hb_) L9.out);have hc90_ : wg10.cell? ⟨g9,0,none⟩ = some (.slice none 0 0):=(blk_cell hbox 0).trans rfl;have hc91_ : wg10.cell? ⟨g9,1,none⟩ = some (.slice none 0 0):=(blk_cell hbox 1).trans rfl;have hc92_ : wg10.cell? ⟨g9,2,none⟩ = some (.slice none 0 0):=(blk_cell hbox 2).trans rfl;have hf90_:=blk_frozen hbox 0;have hf91_:=blk_frozen hbox 1;have hf92_:=blk_frozen hbox 2;clear hb_;have hcE0_ : wg10.cell? ⟨g7,0,none⟩ = some ((.slice PX0 x0.length px0)):=(blk_cell (Mx9.out.below hb).bx 0).trans rfl;have hcE1_ : wg10.cell? ⟨g7,1,none⟩ = some ((.slice PX1 x1.length px1)):=(blk_cell (Mx9.out.below hb).bx 1).trans rfl;have hcE2_ : wg10.cell? ⟨g7,2,none⟩ = some ((.slice PX2 x2.length px2)):=(blk_cell (Mx9.out.below hb).bx 2).trans rfl;have hfE0_:=blk_frozen (Mx9.out.below hb).bx 0;have hfE1_:=blk_frozen (Mx9.out.below hb).bx 1;have hfE2_:=blk_frozen (Mx9.out.below hb).bx 2;have n7_9:=N79.out;have n9_7:=N79.out.symm;clear hbox hb hg9)|(go_at_call 15;(with_reducible refine (calls_sameM Mx10.out.om My10.out.om FE.out).mono ?_);rintro e w11 ⟨rfl,hb_⟩;have Ma11:=Aside0.mk (Ma10.out.below hb_);have Mb11:=Aside0.mk (Mb10.out.below hb_);have Mx11:=Aside0.mk (Mx10.out.below hb_);have HB11:=Aside0.mk (below_step HB10.out hb_);clear hb_;have hcH0_ : w11.cell? ⟨g7,0,none⟩ = some ((.slice PX0 x0.length px0)):=(blk_cell Mx11.out.bx 0).trans rfl;have hcH1_ : w11.cell? ⟨g7,1,none⟩ = some ((.slice PX1 x1.length px1)):=(blk_cell Mx11.out.bx 1).trans rfl;have hcH2_ : w11.cell? ⟨g7,2,none⟩ = some ((.slice PX2 x2.length px2)):=(blk_cell Mx11.out.bx 2).trans rfl)|(go_at_call 9;(with_reducible refine (laws_alive.calls true _ Sem.alive_ok).mono ?_);rintro e w12 ⟨rfl,hd_⟩;have HB12:=Aside0.mk (below_step HB11.out (below_drawnN hd_));clear hd_))
  go_ret
  exact ⟨rfl,HB12.out⟩
 ·
  have GT:=Aside0.mk G.t
  have GX:=Aside0.mk G.sx
  have GM:=Aside0.mk G.sm
  have GN:=Aside0.mk G.sn
  have GO:=Aside0.mk G.ok
  have GA:=Aside0.mk G.am
  have GB:=Aside0.mk G.an
  have GG:=Aside0.mk G3
  clear G G3
  go_enter Tryd.func4,Tryd.ntmps4
  go_upto_region 10 with (first|(go_at_call 12;refine (calls_draw2 HR.out HC.out FD.out).mono ?_;rintro e w3 ⟨y0,y1,y2,y3,y4,y5,rfl,oa_,ob_,hb_⟩;obtain ⟨PA0,pa0,PA1,pa1,PA2,pa2,rfl,rfl,rfl,_⟩:=oa_.reads;obtain ⟨PB0,pb0,PB1,pb1,PB2,pb2,rfl,rfl,rfl,_⟩:=ob_.reads;have Oa:=Aside0.mk oa_;have Ob:=Aside0.mk ob_;have HB3:=Aside0.mk hb_;clear oa_ ob_ hb_)|((with_reducible refine gate_dst (N:=5) rfl ?_);refine box_event ?hg (N:=5) ?hd (cs:=#[.slice none 0 0,.slice none 0 0,.slice none 0 0]) (t:=25) ?hr ?_;(case hd => rfl);(case hg => rfl);(case hr => first|(go_simp;done)|(go_simp;rfl));intro g5 hg5 wg5 hbox hb;have Oa5:=Aside0.mk (Oa.out.below hb);have Ob5:=Aside0.mk (Ob.out.below hb);have HB5:=Aside0.mk (below_step HB3.out hb);have K5:=Aside0.mk hbox;have L5:=Aside0.mk (show w.heap.size ≤ g5 by rw [hg5];exact below_size HB3.out);clear hbox hb hg5)|((with_reducible refine gate_dst (N:=6) rfl ?_);refine box_event ?hg (N:=6) ?hd (cs:=#[.slice none 0 0,.slice none 0 0,.slice none 0 0]) (t:=25) ?hr ?_;(case hd => rfl);(case hg => rfl);(case hr => first|(go_simp;done)|(go_simp;rfl));intro g6 hg6 wg6 hbox hb;have K5b:=Aside0.mk (blk_below K5.out hb);have N56:=Aside0.mk (show g5 ≠ g6 from fun e_ => by have h1_:=blk_lt K5.out;rw [e_,hg6] at h1_;exact absurd h1_ (Nat.lt_irrefl _));have oa_:=Oa5.out.below hb;have ob_:=Ob5.out.below hb;have hb_:=below_step HB5.out hb;have L6:=Aside0.mk (show w.heap.size ≤ g6 by rw [hg6];exact below_size HB5.out);have ma_:=oa_.put K5b.out;have k6_:=pw_blk (v0:=(.slice PA0 p0.length pa0)) (v1:=(.slice PA1 p1.length pa1)) (v2:=(.slice PA2 p2.length pa2)) hbox N56.out.symm;have mb_:=(ob_.pw (v0:=(.slice PA0 p0.length pa0)) (v1:=(.slice PA1 p1.length pa1)) (v2:=(.slice PA2 p2.length pa2)) K5b.out (by decide)).put k6_;have Ma6:=Aside0.mk (show Man.Mx w ((((((wg6.setCell ⟨g5,0,none⟩ (.slice PA0 p0.length pa0)).setCell ⟨g5,1,none⟩ (.slice PA1 p1.length pa1)).setCell ⟨g5,2,none⟩ (.slice PA2 p2.length pa2)).setCell ⟨g6,0,none⟩ (.slice PB0 q0.length pb0)).setCell ⟨g6,1,none⟩ (.slice PB1 q1.length pb1)).setCell ⟨g6,2,none⟩ (.slice PB2 q2.length pb2)) g5 _ _ _ p0 p1 p2 from ma_.pw k6_ (by decide) N56.out);have Mb6:=Aside0.mk (show Man.Mx w ((((((wg6.setCell ⟨g5,0,none⟩ (.slice PA0 p0.length pa0)).setCell ⟨g5,1,none⟩ (.slice PA1 p1.length pa1)).setCell ⟨g5,2,none⟩ (.slice PA2 p2.length pa2)).setCell ⟨g6,0,none⟩ (.slice PB0 q0.length pb0)).setCell ⟨g6,1,none⟩ (.slice PB1 q1.length pb1)).setCell ⟨g6,2,none⟩ (.slice PB2 q2.length pb2)) g6 _ _ _ q0 q1 q2 from mb_);have HB6:=Aside0.mk (show Below w.heap.size w ((((((wg6.setCell ⟨g5,0,none⟩ (.slice PA0 p0.length pa0)).setCell ⟨g5,1,none⟩ (.slice PA1 p1.length pa1)).setCell ⟨g5,2,none⟩ (.slice PA2 p2.length pa2)).setCell ⟨g6,0,none⟩ (.slice PB0 q0.length pb0)).setCell ⟨g6,1,none⟩ (.slice PB1 q1.length pb1)).setCell ⟨g6,2,none⟩ (.slice PB2 q2.length pb2)) from pw_below (pw_below hb_ L5.out) L6.out);have hc50_ : wg6.cell? ⟨g5,0,none⟩ = some (.slice none 0 0):=(blk_cell K5b.out 0).trans rfl;have hc51_ : wg6.cell? ⟨g5,1,none⟩ = some (.slice none 0 0):=(blk_cell K5b.out 1).trans rfl;have hc52_ : wg6.cell? ⟨g5,2,none⟩ = some (.slice none 0 0):=(blk_cell K5b.out 2).trans rfl;have hf50_:=blk_frozen K5b.out 0;have hf51_:=blk_frozen K5b.out 1;have hf52_:=blk_frozen K5b.out 2;have hc60_ : wg6.cell? ⟨g6,0,none⟩ = some (.slice none 0 0):=(blk_cell hbox 0).trans rfl;have hc61_ : wg6.cell? ⟨g6,1,none⟩ = some (.slice none 0 0):=(blk_cell hbox 1).trans rfl;have hc62_ : wg6.cell? ⟨g6,2,none⟩ = some (.slice none 0 0):=(blk_cell hbox 2).trans rfl;have hf60_:=blk_frozen hbox 0;have hf61_:=blk_frozen hbox 1;have hf62_:=blk_frozen hbox 2;clear oa_ ob_ hb_ ma_ mb_ k6_;have n5_6:=N56.out;have n6_5:=N56.out.symm;clear hbox hb hg6)|(go_at_call 13;(with_reducible refine (calls_bothI (w:=w) (below_size HB6.out) Ma6.out.om Mb6.out.om FI.out).mono ?_);rintro e w7 ⟨y0,y1,y2,rfl,ox_,hb_⟩;obtain ⟨PX0,px0,PX1,px1,PX2,px2,rfl,rfl,rfl,_⟩:=ox_.reads;have Ox7:=Aside0.mk ox_;have Ma7:=Aside0.mk (Ma6.out.below hb_);have Mb7:=Aside0.mk (Mb6.out.below hb_);have HB7:=Aside0.mk (below_step HB6.out hb_);clear ox_ hb_)|((with_reducible refine gate_dst (N:=7) rfl ?_);refine box_event ?hg (N:=7) ?hd (cs:=#[.slice none 0 0,.slice none 0 0,.slice none 0 0]) (t:=25) ?hr ?_;(case hd => rfl);(case hg => rfl);(case hr => first|(go_simp;done)|(go_simp;rfl));intro g7 hg7 wg8 hbox hb;have hb_:=hb;have L7:=Aside0.mk (show w.heap.size ≤ g7 by rw [hg7];exact below_size HB7.out);have N57:=Aside0.mk (show g5 ≠ g7 from fun e_ => by have h1_:=blk_lt Ma7.out.bx;rw [e_,hg7] at h1_;exact absurd h1_ (Nat.lt_irrefl _));have N67:=Aside0.mk (show g6 ≠ g7 from fun e_ => by have h1_:=blk_lt Mb7.out.bx;rw [e_,hg7] at h1_;exact absurd h1_ (Nat.lt_irrefl _));have Ma8:=Aside0.mk (show Man.Mx w (((wg8.setCell ⟨g7,0,none⟩ (.slice PX0 x0.length px0)).setCell ⟨g7,1,none⟩ (.slice PX1 x1.length px1)).setCell ⟨g7,2,none⟩ (.slice PX2 x2.length px2)) g5 _ _ _ p0 p1 p2 from (Ma7.out.below hb_).pw hbox (by decide) N57.out);have Mb8:=Aside0.mk (show Man.Mx w (((wg8.setCell ⟨g7,0,none⟩ (.slice PX0 x0.length px0)).setCell ⟨g7,1,none⟩ (.slice PX1 x1.length px1)).setCell ⟨g7,2,none⟩ (.slice PX2 x2.length px2)) g6 _ _ _ q0 q1 q2 from (Mb7.out.below hb_).pw hbox (by decide) N67.out);have Mx8:=Aside0.mk (show Man.Mx w (((wg8.setCell ⟨g7,0,none⟩ (.slice PX0 x0.length px0)).setCell ⟨g7,1,none⟩ (.slice PX1 x1.length px1)).setCell ⟨g7,2,none⟩ (.slice PX2 x2.length px2)) g7 _ _ _ x0 x1 x2 from (Ox7.out.below hb_).put hbox);have HB8:=Aside0.mk (show Below w.heap.size w (((wg8.setCell ⟨g7,0,none⟩ (.slice PX0 x0.length px0)).setCell ⟨g7,1,none⟩ (.slice PX1 x1.length px1)).setCell ⟨g7,2,none⟩ (.slice PX2 x2.length px2)) from pw_below (below_step HB7.out hb_) L7.out);have hc70_ : wg8.cell? ⟨g7,0,none⟩ = some (.slice none 0 0):=(blk_cell hbox 0).trans rfl;have hc71_ : wg8.cell? ⟨g7,1,none⟩ = some (.slice none 0 0):=(blk_cell hbox 1).trans rfl;have hc72_ : wg8.cell? ⟨g7,2,none⟩ = some (.slice none 0 0):=(blk_cell hbox 2).trans rfl;have hf70_:=blk_frozen hbox 0;have hf71_:=blk_frozen hbox 1;have hf72_:=blk_frozen hbox 2;clear hb_;have hcC0_ : wg8.cell? ⟨g5,0,none⟩ = some ((.slice PA0 p0.length pa0)):=(blk_cell (Ma7.out.below hb).bx 0).trans rfl;have hcC1_ : wg8.cell? ⟨g5,1,none⟩ = some ((.slice PA1 p1.length pa1)):=(blk_cell (Ma7.out.below hb).bx 1).trans rfl;have hcC2_ : wg8.cell? ⟨g5,2,none⟩ = some ((.slice PA2 p2.length pa2)):=(blk_cell (Ma7.out.below hb).bx 2).trans rfl;have hcD0_ : wg8.cell? ⟨g6,0,none⟩ = some ((.slice PB0 q0.length pb0)):=(blk_cell (Mb7.out.below hb).bx 0).trans rfl;have hcD1_ : wg8.cell? ⟨g6,1,none⟩ = some ((.slice PB1 q1.length pb1)):=(blk_cell (Mb7.out.below hb).bx 1).trans rfl;have hcD2_ : wg8.cell? ⟨g6,2,none⟩ = some ((.slice PB2 q2.length pb2)):=(blk_cell (Mb7.out.below hb).bx 2).trans rfl;have hfC0_:=blk_frozen (Ma7.out.below hb).bx 0;have hfC1_:=blk_frozen (Ma7.out.below hb).bx 1;have hfC2_:=blk_frozen (Ma7.out.below hb).bx 2;have hfD0_:=blk_frozen (Mb7.out.below hb).bx 0;have hfD1_:=blk_frozen (Mb7.out.below hb).bx 1;have hfD2_:=blk_frozen (Mb7.out.below hb).bx 2;have n5_7:=N57.out;have n7_5:=N57.out.symm;have n6_7:=N67.out;have n7_6:=N67.out.symm;clear hbox hb hg7)|(go_at_call 14;(with_reducible refine (calls_bothS (w:=w) (below_size HB8.out) Ma8.out.om Mb8.out.om FS.out).mono ?_);rintro e w9 ⟨y0,y1,y2,rfl,ox_,hb_⟩;obtain ⟨PY0,py0,PY1,py1,PY2,py2,rfl,rfl,rfl,_⟩:=ox_.reads;have Oy9:=Aside0.mk ox_;have Ma9:=Aside0.mk (Ma8.out.below hb_);have Mb9:=Aside0.mk (Mb8.out.below hb_);have Mx9:=Aside0.mk (Mx8.out.below hb_);have HB9:=Aside0.mk (below_step HB8.out hb_);clear ox_ hb_)|((with_reducible refine gate_dst (N:=9) rfl ?_);refine box_event ?hg (N:=9) ?hd (cs:=#[.slice none 0 0,.slice none 0 0,.slice none 0 0]) (t:=25) ?hr ?_;(case hd => rfl);(case hg => rfl);(case hr => first|(go_simp;done)|(go_simp;rfl));intro g9 hg9 wg10 hbox hb;have hb_:=hb;have L9:=Aside0.mk (show w.heap.size ≤ g9 by rw [hg9];exact below_size HB9.out);have N59:=Aside0.mk (show g5 ≠ g9 from fun e_ => by have h1_:=blk_lt Ma9.out.bx;rw [e_,hg9] at h1_;exact absurd h1_ (Nat.lt_irrefl _));have N69:=Aside0.mk (show g6 ≠ g9 from fun e_ => by have h1_:=blk_lt Mb9.out.bx;rw [e_,hg9] at h1_;exact absurd h1_ (Nat.lt_irrefl _));have N79:=Aside0.mk (show g7 ≠ g9 from fun e_ => by have h1_:=blk_lt Mx9.out.bx;rw [e_,hg9] at h1_;exact absurd h1_ (Nat.lt_irrefl _));have Ma10:=Aside0.mk (show Man.Mx w (((wg10.setCell ⟨g9,0,none⟩ (.slice PY0 x0.length py0)).setCell ⟨g9,1,none⟩ (.slice PY1 x1.length py1)).setCell ⟨g9,2,none⟩ (.slice PY2 x2.length py2)) g5 _ _ _ p0 p1 p2 from (Ma9.out.below hb_).pw hbox (by decide) N59.out);have Mb10:=Aside0.mk (show Man.Mx w (((wg10.setCell ⟨g9,0,none⟩ (.slice PY0 x0.length py0)).setCell ⟨g9,1,none⟩ (.slice PY1 x1.length py1)).setCell ⟨g9,2,none⟩ (.slice PY2 x2.length py2)) g6 _ _ _ q0 q1 q2 from (Mb9.out.below hb_).pw hbox (by decide) N69.out);have Mx10:=Aside0.mk (show Man.Mx w (((wg10.setCell ⟨g9,0,none⟩ (.slice PY0 x0.length py0)).setCell ⟨g9,1,none⟩ (.slice PY1 x1.length py1)).setCell ⟨g9,2,none⟩ (.slice PY2 x2.length py2)) g7 _ _ _ x0 x1 x2 from (Mx9.out.below hb_).pw hbox (by decide) N79.out);have My10:=Aside0.mk (show Man.Mx w (((wg10.setCell ⟨g9,0,none⟩ (.slice PY0 x0.length py0)).setCell ⟨g9,1,none⟩ (.slice PY1 x1.length py1)).setCell ⟨g9,2,none⟩ (.slice PY2 x2.length py2)) g9 _ _ _ x0 x1 x2 from (Oy9.out.below hb_).put hbox);have HB10:=Aside0.mk (show Below w.heap.size w (((wg10.setCell ⟨g9,0,none⟩ (.slice PY0 x0.length py0)).setCell ⟨g9,1,none⟩ (.slice PY1 x1.length py1)).setCell ⟨g9,2,none⟩ (.slice PY2 x2.length py2)) from pw_below (below_step HB9.out hb_) L9.out);have hc90_ : wg10.cell? ⟨g9,0,none⟩ = some (.slice none 0 0):=(blk_cell hbox 0).trans rfl;have hc91_ : wg10.cell? ⟨g9,1,none⟩ = some (.slice none 0 0):=(blk_cell hbox 1).trans rfl;have hc92_ : wg10.cell? ⟨g9,2,none⟩ = some (.slice none 0 0):=(blk_cell hbox 2).trans rfl;have hf90_:=blk_frozen hbox 0;have hf91_:=blk_frozen hbox 1;have hf92_:=blk_frozen hbox 2;clear hb_;have hcE0_ : wg10.cell? ⟨g7,0,none⟩ = some ((.slice PX0 x0.length px0)):=(blk_cell (Mx9.out.below hb).bx 0).trans rfl;have hcE1_ : wg10.cell? ⟨g7,1,none⟩ = some ((.slice PX1 x1.length px1)):=(blk_cell (Mx9.out.below hb).bx 1).trans rfl;have hcE2_ : wg10.cell? ⟨g7,2,none⟩ = some ((.slice PX2 x2.length px2)):=(blk_cell (Mx9.out.below hb).bx 2).trans rfl;have hfE0_:=blk_frozen (Mx9.out.below hb).bx 0;have hfE1_:=blk_frozen (Mx9.out.below hb).bx 1;have hfE2_:=blk_frozen (Mx9.out.below hb).bx 2;have n7_9:=N79.out;have n9_7:=N79.out.symm;clear hbox hb hg9)|(go_at_call 15;(with_reducible refine (calls_sameM Mx10.out.om My10.out.om FE.out).mono ?_);rintro e w11 ⟨rfl,hb_⟩;have Ma11:=Aside0.mk (Ma10.out.below hb_);have Mb11:=Aside0.mk (Mb10.out.below hb_);have Mx11:=Aside0.mk (Mx10.out.below hb_);have HB11:=Aside0.mk (below_step HB10.out hb_);clear hb_))
  go_cut [12] (fun v12 we => v12 = .string s ∧ Aside0 (Man.Mx w we g5 (.slice PA0 p0.length pa0) (.slice PA1 p1.length pa1) (.slice PA2 p2.length pa2) p0 p1 p2) ∧ Aside0 (Man.Mx w we g6 (.slice PB0 q0.length pb0) (.slice PB1 q1.length pb1) (.slice PB2 q2.length pb2) q0 q1 q2) ∧ Aside0 (Man.Mx w we g7 (.slice PX0 x0.length px0) (.slice PX1 x1.length px1) (.slice PX2 x2.length px2) x0 x1 x2) ∧ Aside0 (Below w.heap.size w we))
  case first =>
   go_wp2_with (first|(go_at_call 5;(with_reducible refine (calls_text (w:=w) (below_size HB11.out) (Kd.C_below HS.out HB11.out) HD.out GT.out).mono ?_);rintro e w12 ⟨y0,y1,y2,rfl,oz_,hb_⟩;obtain ⟨PZ0,pz0,PZ1,pz1,PZ2,pz2,rfl,rfl,rfl,_⟩:=oz_.reads;have Oz12:=Aside0.mk oz_;have Ma12:=Aside0.mk (Ma11.out.below hb_);have Mb12:=Aside0.mk (Mb11.out.below hb_);have Mx12:=Aside0.mk (Mx11.out.below hb_);have HB12:=Aside0.mk (below_step HB11.out hb_);clear oz_ hb_)|((with_reducible refine gate_dst (N:=11) rfl ?_);refine box_event ?hg (N:=11) ?hd (cs:=#[.slice none 0 0,.slice none 0 0,.slice none 0 0]) (t:=25) ?hr ?_;(case hd => rfl);(case hg => rfl);(case hr => first|(go_simp;done)|(go_simp;rfl));intro g11 hg11 wg13 hbox hb;have hb_:=hb;have L11:=Aside0.mk (show w.heap.size ≤ g11 by rw [hg11];exact below_size HB12.out);have N511:=Aside0.mk (show g5 ≠ g11 from fun e_ => by have h1_:=blk_lt Ma12.out.bx;rw [e_,hg11] at h1_;exact absurd h1_ (Nat.lt_irrefl _));have N611:=Aside0.mk (show g6 ≠ g11 from fun e_ => by have h1_:=blk_lt Mb12.out.bx;rw [e_,hg11] at h1_;exact absurd h1_ (Nat.lt_irrefl _));have N711:=Aside0.mk (show g7 ≠ g11 from fun e_ => by have h1_:=blk_lt Mx12.out.bx;rw [e_,hg11] at h1_;exact absurd h1_ (Nat.lt_irrefl _));have Ma13:=Aside0.mk (show Man.Mx w (((wg13.setCell ⟨g11,0,none⟩ (.slice PZ0 z0.length pz0)).setCell ⟨g11,1,none⟩ (.slice PZ1 z1.length pz1)).setCell ⟨g11,2,none⟩ (.slice PZ2 z2.length pz2)) g5 _ _ _ p0 p1 p2 from (Ma12.out.below hb_).pw hbox (by decide) N511.out);have Mb13:=Aside0.mk (show Man.Mx w (((wg13.setCell ⟨g11,0,none⟩ (.slice PZ0 z0.length pz0)).setCell ⟨g11,1,none⟩ (.slice PZ1 z1.length pz1)).setCell ⟨g11,2,none⟩ (.slice PZ2 z2.length pz2)) g6 _ _ _ q0 q1 q2 from (Mb12.out.below hb_).pw hbox (by decide) N611.out);have Mx13:=Aside0.mk (show Man.Mx w (((wg13.setCell ⟨g11,0,none⟩ (.slice PZ0 z0.length pz0)).setCell ⟨g11,1,none⟩ (.slice PZ1 z1.length pz1)).setCell ⟨g11,2,none⟩ (.slice PZ2 z2.length pz2)) g7 _ _ _ x0 x1 x2 from (Mx12.out.below hb_).pw hbox (by decide) N711.out);have HB13:=Aside0.mk (show Below w.heap.size w (((wg13.setCell ⟨g11,0,none⟩ (.slice PZ0 z0.length pz0)).setCell ⟨g11,1,none⟩ (.slice PZ1 z1.length pz1)).setCell ⟨g11,2,none⟩ (.slice PZ2 z2.length pz2)) from pw_below (below_step HB12.out hb_) L11.out);have hc110_ : wg13.cell? ⟨g11,0,none⟩ = some (.slice none 0 0):=(blk_cell hbox 0).trans rfl;have hc111_ : wg13.cell? ⟨g11,1,none⟩ = some (.slice none 0 0):=(blk_cell hbox 1).trans rfl;have hc112_ : wg13.cell? ⟨g11,2,none⟩ = some (.slice none 0 0):=(blk_cell hbox 2).trans rfl;have hf110_:=blk_frozen hbox 0;have hf111_:=blk_frozen hbox 1;have hf112_:=blk_frozen hbox 2;clear hb_;clear hbox hb hg11))
   go_meet
   case rel => exact ⟨rfl,Ma13,Mb13,Mx13,HB13⟩
  case rest =>
   obtain ⟨rfl,Ma,Mb,Mx,HB⟩:=hcut
   go_upto_region 11 with (fail)
   go_cut [72] (fun v72 we => v72 = .bool false ∧ Aside0 (Man.Mx w we g5 (.slice PA0 p0.length pa0) (.slice PA1 p1.length pa1) (.slice PA2 p2.length pa2) p0 p1 p2) ∧ Aside0 (Man.Mx w we g6 (.slice PB0 q0.length pb0) (.slice PB1 q1.length pb1) (.slice PB2 q2.length pb2) q0 q1 q2) ∧ Aside0 (Man.Mx w we g7 (.slice PX0 x0.length px0) (.slice PX1 x1.length px1) (.slice PX2 x2.length px2) x0 x1 x2) ∧ Aside0 (Below w.heap.size w we))
   case first =>
    cases u with
    | true =>
     have hne : ((true && v) != v) = false:=by cases v <;> rfl
     replace Ma:=Aside0.mk (show Man.Mx w wc.drew g5 _ _ _ p0 p1 p2 from Ma.out.drew);replace Mb:=Aside0.mk (show Man.Mx w wc.drew g6 _ _ _ q0 q1 q2 from Mb.out.drew);replace Mx:=Aside0.mk (show Man.Mx w wc.drew g7 _ _ _ x0 x1 x2 from Mx.out.drew);replace HB:=Aside0.mk (show Below w.heap.size w wc.drew from below_drew1 HB.out)
     refine start_ (n:=12) (S:=fun w' => w'.cell? ⟨g7,0,none⟩ = some (.slice PX0 x0.length px0) ∧ w'.cell? ⟨g7,1,none⟩ = some (.slice PX1 x1.length px1) ∧ w'.cell? ⟨g7,2,none⟩ = some (.slice PX2 x2.length px2) ∧ w'.cell? ⟨g5,0,none⟩ = some (.slice PA0 p0.length pa0) ∧ w'.cell? ⟨g5,1,none⟩ = some (.slice PA1 p1.length pa1) ∧ w'.cell? ⟨g5,2,none⟩ = some (.slice PA2 p2.length pa2) ∧ w'.cell? ⟨g6,0,none⟩ = some (.slice PB0 q0.length pb0) ∧ w'.cell? ⟨g6,1,none⟩ = some (.slice PB1 q1.length pb1) ∧ w'.cell? ⟨g6,2,none⟩ = some (.slice PB2 q2.length pb2)) (ds:=[]) #[false,false,false,false,false,false,false,false,false,false,false,false] (by kernel_rfl) rfl rfl ⟨(blk_cell Mx.out.bx 0).trans rfl,(blk_cell Mx.out.bx 1).trans rfl,(blk_cell Mx.out.bx 2).trans rfl,(blk_cell Ma.out.bx 0).trans rfl,(blk_cell Ma.out.bx 1).trans rfl,(blk_cell Ma.out.bx 2).trans rfl,(blk_cell Mb.out.bx 0).trans rfl,(blk_cell Mb.out.bx 1).trans rfl,(blk_cell Mb.out.bx 2).trans rfl⟩ (fun hHeld => ?_)
     generalize wc.drew = wd at Ma Mb Mx HB hHeld ⊢
     refine pure_ (i:=1) (N:=some 62) (v:=?_) (a':=?_) #[false,true,false,false,false,false,false,false,false,false,false,false] rfl rfl (by kernel_rfl) (fun _ _ _ h => h) (Or.inl ⟨by rfl,?_⟩) ?_ ?_;rotate_left
     ·
      intro w'
      go_simp
      with_reducible rfl
     rotate_left
     ·
      simp only [Act.put,List.setIfInBounds_toArray,List.set_cons_zero,List.set_cons_succ,i64_w,i32_w]
      rfl
     refine pure_ (i:=4) (N:=some 65) (v:=?_) (a':=?_) #[false,true,false,false,true,false,false,false,false,false,false,false] rfl rfl (by kernel_rfl) (fun _ _ _ h => h) (Or.inl ⟨by rfl,?_⟩) ?_ ?_;rotate_left
     ·
      intro w'
      go_simp
      with_reducible rfl
     rotate_left
     ·
      simp only [Act.put,List.setIfInBounds_toArray,List.set_cons_zero,List.set_cons_succ,i64_w,i32_w]
      rfl
     refine take_ (i:=0) (N:=some 61) (v:=?_) (a':=?_) #[true,true,false,false,true,false,false,false,false,false,false,false] rfl rfl (by kernel_rfl) (fun _ _ _ h => h) (Or.inl ⟨by rfl,?_⟩) hHeld ?_ ?_;rotate_left
     ·
      rintro w' ⟨s0,s1,s2,s3,s4,s5,s6,s7,s8⟩
      go_simp
      with_reducible rfl
     rotate_left
     ·
      simp only [Act.put,List.setIfInBounds_toArray,List.set_cons_zero,List.set_cons_succ,i64_w,i32_w]
      rfl
     refine take_ (i:=3) (N:=some 64) (v:=?_) (a':=?_) #[true,true,false,true,true,false,false,false,false,false,false,false] rfl rfl (by kernel_rfl) (fun _ _ _ h => h) (Or.inl ⟨by rfl,?_⟩) hHeld ?_ ?_;rotate_left
     ·
      rintro w' ⟨s0,s1,s2,s3,s4,s5,s6,s7,s8⟩
      go_simp
      with_reducible rfl
     rotate_left
     ·
      simp only [Act.put,List.setIfInBounds_toArray,List.set_cons_zero,List.set_cons_succ,i64_w,i32_w]
      rfl
     refine one_ (i:=2) (N:=some 63) #[true,true,true,true,true,false,false,false,false,false,false,false] rfl rfl (by kernel_rfl) (by decide) (fun K hK => ?_)
     refine goes_ Tryd.func6 (by kernel_rfl) rfl #[.agg #[.slice PX0 x0.length px0,.slice PX1 x1.length px1,.slice PX2 x2.length px2],.string s] (by rfl) rfl rfl (by (try simp only [List.map_toArray,List.map_cons,List.map_nil]);first|done|rfl|(simp only [List.length_drop,List.length_take];rfl)) ?_
     (with_reducible refine (calls_says Mx.out.om GX.out).mono ?_)
     rintro e wa ⟨rfl,hb_⟩
     refine ⟨_,rfl,?_⟩
     replace Ma:=Aside0.mk (Ma.out.below hb_);replace Mb:=Aside0.mk (Mb.out.below hb_);replace Mx:=Aside0.mk (Mx.out.below hb_);replace HB:=Aside0.mk (below_step HB.out hb_);clear hb_
     refine hK.out _ _ ⟨(blk_cell Mx.out.bx 0).trans rfl,(blk_cell Mx.out.bx 1).trans rfl,(blk_cell Mx.out.bx 2).trans rfl,(blk_cell Ma.out.bx 0).trans rfl,(blk_cell Ma.out.bx 1).trans rfl,(blk_cell Ma.out.bx 2).trans rfl,(blk_cell Mb.out.bx 0).trans rfl,(blk_cell Mb.out.bx 1).trans rfl,(blk_cell Mb.out.bx 2).trans rfl⟩ (fun hHeld => ?_);clear hK K
     refine norm_ (a':=?_) ?_ ?_;rotate_left
     ·
      show Act.put _ (some 63) _ = _
      simp only [Act.put,List.setIfInBounds_toArray,List.set_cons_zero,List.set_cons_succ,i64_w,i32_w]
      rfl
     refine one_ (i:=5) (N:=some 66) #[true,true,true,true,true,true,false,false,false,false,false,false] rfl rfl (by kernel_rfl) (by decide) (fun K hK => ?_)
     refine goes_ Tryd.func6 (by kernel_rfl) rfl #[.agg #[.slice PA0 p0.length pa0,.slice PA1 p1.length pa1,.slice PA2 p2.length pa2],.string s] (by rfl) rfl rfl (by (try simp only [List.map_toArray,List.map_cons,List.map_nil]);first|done|rfl|(simp only [List.length_drop,List.length_take];rfl)) ?_
     (with_reducible refine (calls_says Ma.out.om GM.out).mono ?_)
     rintro e wb ⟨rfl,hb_⟩
     refine ⟨_,rfl,?_⟩
     replace Ma:=Aside0.mk (Ma.out.below hb_);replace Mb:=Aside0.mk (Mb.out.below hb_);replace Mx:=Aside0.mk (Mx.out.below hb_);replace HB:=Aside0.mk (below_step HB.out hb_);clear hb_
     refine hK.out _ _ ⟨(blk_cell Mx.out.bx 0).trans rfl,(blk_cell Mx.out.bx 1).trans rfl,(blk_cell Mx.out.bx 2).trans rfl,(blk_cell Ma.out.bx 0).trans rfl,(blk_cell Ma.out.bx 1).trans rfl,(blk_cell Ma.out.bx 2).trans rfl,(blk_cell Mb.out.bx 0).trans rfl,(blk_cell Mb.out.bx 1).trans rfl,(blk_cell Mb.out.bx 2).trans rfl⟩ (fun hHeld => ?_);clear hK K
     refine norm_ (a':=?_) ?_ ?_;rotate_left
     ·
      show Act.put _ (some 66) _ = _
      simp only [Act.put,List.setIfInBounds_toArray,List.set_cons_zero,List.set_cons_succ,i64_w,i32_w]
      rfl
     refine pure_ (i:=6) (N:=some 67) (v:=?_) (a':=?_) #[true,true,true,true,true,true,true,false,false,false,false,false] rfl rfl (by kernel_rfl) (fun _ _ _ h => h) (Or.inl ⟨by rfl,?_⟩) ?_ ?_;rotate_left
     ·
      intro w'
      go_simp
      with_reducible rfl
     rotate_left
     ·
      simp only [Act.put,List.setIfInBounds_toArray,List.set_cons_zero,List.set_cons_succ,i64_w,i32_w]
      rfl
     refine pure_ (i:=8) (N:=some 69) (v:=?_) (a':=?_) #[true,true,true,true,true,true,true,false,true,false,false,false] rfl rfl (by kernel_rfl) (fun _ _ _ h => h) (Or.inl ⟨by rfl,?_⟩) ?_ ?_;rotate_left
     ·
      intro w'
      go_simp
      with_reducible rfl
     rotate_left
     ·
      simp only [Act.put,List.setIfInBounds_toArray,List.set_cons_zero,List.set_cons_succ,i64_w,i32_w]
      rfl
     refine take_ (i:=7) (N:=some 68) (v:=?_) (a':=?_) #[true,true,true,true,true,true,true,true,true,false,false,false] rfl rfl (by kernel_rfl) (fun _ _ _ h => h) (Or.inl ⟨by rfl,?_⟩) hHeld ?_ ?_;rotate_left
     ·
      rintro w' ⟨s0,s1,s2,s3,s4,s5,s6,s7,s8⟩
      go_simp
      with_reducible rfl
     rotate_left
     ·
      simp only [Act.put,List.setIfInBounds_toArray,List.set_cons_zero,List.set_cons_succ,i64_w,i32_w]
      rfl
     refine one_ (i:=9) (N:=some 70) #[true,true,true,true,true,true,true,true,true,true,false,false] rfl rfl (by kernel_rfl) (by decide) (fun K hK => ?_)
     refine goes_ Tryd.func6 (by kernel_rfl) rfl #[.agg #[.slice PB0 q0.length pb0,.slice PB1 q1.length pb1,.slice PB2 q2.length pb2],.string s] (by rfl) rfl rfl (by (try simp only [List.map_toArray,List.map_cons,List.map_nil]);first|done|rfl|(simp only [List.length_drop,List.length_take];rfl)) ?_
     (with_reducible refine (calls_says Mb.out.om GN.out).mono ?_)
     rintro e wf ⟨rfl,hb_⟩
     refine ⟨_,rfl,?_⟩
     replace Ma:=Aside0.mk (Ma.out.below hb_);replace Mb:=Aside0.mk (Mb.out.below hb_);replace Mx:=Aside0.mk (Mx.out.below hb_);replace HB:=Aside0.mk (below_step HB.out hb_);clear hb_
     refine hK.out _ _ ⟨(blk_cell Mx.out.bx 0).trans rfl,(blk_cell Mx.out.bx 1).trans rfl,(blk_cell Mx.out.bx 2).trans rfl,(blk_cell Ma.out.bx 0).trans rfl,(blk_cell Ma.out.bx 1).trans rfl,(blk_cell Ma.out.bx 2).trans rfl,(blk_cell Mb.out.bx 0).trans rfl,(blk_cell Mb.out.bx 1).trans rfl,(blk_cell Mb.out.bx 2).trans rfl⟩ (fun hHeld => ?_);clear hK K
     refine norm_ (a':=?_) ?_ ?_;rotate_left
     ·
      show Act.put _ (some 70) _ = _
      simp only [Act.put,List.setIfInBounds_toArray,List.set_cons_zero,List.set_cons_succ,i64_w,i32_w]
      rfl
     refine pure_ (i:=10) (N:=some 71) (v:=?_) (a':=?_) #[true,true,true,true,true,true,true,true,true,true,true,false] rfl rfl (by kernel_rfl) (fun _ _ _ h => h) (Or.inl ⟨by rfl,?_⟩) ?_ ?_;rotate_left
     ·
      intro w'
      go_simp
      with_reducible rfl
     rotate_left
     ·
      simp only [Act.put,List.setIfInBounds_toArray,List.set_cons_zero,List.set_cons_succ,i64_w,i32_w]
      rfl
     refine pure_ (i:=11) (N:=some 72) (v:=?_) (a':=?_) #[true,true,true,true,true,true,true,true,true,true,true,true] rfl rfl (by kernel_rfl) (fun _ _ _ h => h) (Or.inl ⟨by rfl,?_⟩) ?_ ?_;rotate_left
     ·
      intro w'
      go_simp
      with_reducible rfl
     rotate_left
     ·
      simp only [Act.put,List.setIfInBounds_toArray,List.set_cons_zero,List.set_cons_succ,i64_w,i32_w]
      rfl
     refine done_ (by kernel_rfl) ?_
     go_wp2
     go_meet
     case rel => exact ⟨by first|rfl|(cases v <;> rfl)|(simp [hne]),Ma,Mb,Mx,HB⟩
    | false =>
     have hne : ((false && v) != false) = false:=by cases v <;> rfl
     replace Ma:=Aside0.mk (show Man.Mx w wc.drew g5 _ _ _ p0 p1 p2 from Ma.out.drew);replace Mb:=Aside0.mk (show Man.Mx w wc.drew g6 _ _ _ q0 q1 q2 from Mb.out.drew);replace Mx:=Aside0.mk (show Man.Mx w wc.drew g7 _ _ _ x0 x1 x2 from Mx.out.drew);replace HB:=Aside0.mk (show Below w.heap.size w wc.drew from below_drew1 HB.out)
     refine start_ (n:=12) (S:=fun w' => w'.cell? ⟨g7,0,none⟩ = some (.slice PX0 x0.length px0) ∧ w'.cell? ⟨g7,1,none⟩ = some (.slice PX1 x1.length px1) ∧ w'.cell? ⟨g7,2,none⟩ = some (.slice PX2 x2.length px2) ∧ w'.cell? ⟨g5,0,none⟩ = some (.slice PA0 p0.length pa0) ∧ w'.cell? ⟨g5,1,none⟩ = some (.slice PA1 p1.length pa1) ∧ w'.cell? ⟨g5,2,none⟩ = some (.slice PA2 p2.length pa2) ∧ w'.cell? ⟨g6,0,none⟩ = some (.slice PB0 q0.length pb0) ∧ w'.cell? ⟨g6,1,none⟩ = some (.slice PB1 q1.length pb1) ∧ w'.cell? ⟨g6,2,none⟩ = some (.slice PB2 q2.length pb2)) (ds:=[]) #[false,false,false,false,false,false,false,false,false,false,false,false] (by kernel_rfl) rfl rfl ⟨(blk_cell Mx.out.bx 0).trans rfl,(blk_cell Mx.out.bx 1).trans rfl,(blk_cell Mx.out.bx 2).trans rfl,(blk_cell Ma.out.bx 0).trans rfl,(blk_cell Ma.out.bx 1).trans rfl,(blk_cell Ma.out.bx 2).trans rfl,(blk_cell Mb.out.bx 0).trans rfl,(blk_cell Mb.out.bx 1).trans rfl,(blk_cell Mb.out.bx 2).trans rfl⟩ (fun hHeld => ?_)
     generalize wc.drew = wd at Ma Mb Mx HB hHeld ⊢
     refine pure_ (i:=1) (N:=some 62) (v:=?_) (a':=?_) #[false,true,false,false,false,false,false,false,false,false,false,false] rfl rfl (by kernel_rfl) (fun _ _ _ h => h) (Or.inl ⟨by rfl,?_⟩) ?_ ?_;rotate_left
     ·
      intro w'
      go_simp
      with_reducible rfl
     rotate_left
     ·
      simp only [Act.put,List.setIfInBounds_toArray,List.set_cons_zero,List.set_cons_succ,i64_w,i32_w]
      rfl
     refine pure_ (i:=4) (N:=some 65) (v:=?_) (a':=?_) #[false,true,false,false,true,false,false,false,false,false,false,false] rfl rfl (by kernel_rfl) (fun _ _ _ h => h) (Or.inl ⟨by rfl,?_⟩) ?_ ?_;rotate_left
     ·
      intro w'
      go_simp
      with_reducible rfl
     rotate_left
     ·
      simp only [Act.put,List.setIfInBounds_toArray,List.set_cons_zero,List.set_cons_succ,i64_w,i32_w]
      rfl
     refine take_ (i:=0) (N:=some 61) (v:=?_) (a':=?_) #[true,true,false,false,true,false,false,false,false,false,false,false] rfl rfl (by kernel_rfl) (fun _ _ _ h => h) (Or.inl ⟨by rfl,?_⟩) hHeld ?_ ?_;rotate_left
     ·
      rintro w' ⟨s0,s1,s2,s3,s4,s5,s6,s7,s8⟩
      go_simp
      with_reducible rfl
     rotate_left
     ·
      simp only [Act.put,List.setIfInBounds_toArray,List.set_cons_zero,List.set_cons_succ,i64_w,i32_w]
      rfl
     refine take_ (i:=3) (N:=some 64) (v:=?_) (a':=?_) #[true,true,false,true,true,false,false,false,false,false,false,false] rfl rfl (by kernel_rfl) (fun _ _ _ h => h) (Or.inl ⟨by rfl,?_⟩) hHeld ?_ ?_;rotate_left
     ·
      rintro w' ⟨s0,s1,s2,s3,s4,s5,s6,s7,s8⟩
      go_simp
      with_reducible rfl
     rotate_left
     ·
      simp only [Act.put,List.setIfInBounds_toArray,List.set_cons_zero,List.set_cons_succ,i64_w,i32_w]
      rfl
     refine one_ (i:=2) (N:=some 63) #[true,true,true,true,true,false,false,false,false,false,false,false] rfl rfl (by kernel_rfl) (by decide) (fun K hK => ?_)
     refine goes_ Tryd.func6 (by kernel_rfl) rfl #[.agg #[.slice PX0 x0.length px0,.slice PX1 x1.length px1,.slice PX2 x2.length px2],.string s] (by rfl) rfl rfl (by (try simp only [List.map_toArray,List.map_cons,List.map_nil]);first|done|rfl|(simp only [List.length_drop,List.length_take];rfl)) ?_
     (with_reducible refine (calls_says Mx.out.om GX.out).mono ?_)
     rintro e wa ⟨rfl,hb_⟩
     refine ⟨_,rfl,?_⟩
     replace Ma:=Aside0.mk (Ma.out.below hb_);replace Mb:=Aside0.mk (Mb.out.below hb_);replace Mx:=Aside0.mk (Mx.out.below hb_);replace HB:=Aside0.mk (below_step HB.out hb_);clear hb_
     refine hK.out _ _ ⟨(blk_cell Mx.out.bx 0).trans rfl,(blk_cell Mx.out.bx 1).trans rfl,(blk_cell Mx.out.bx 2).trans rfl,(blk_cell Ma.out.bx 0).trans rfl,(blk_cell Ma.out.bx 1).trans rfl,(blk_cell Ma.out.bx 2).trans rfl,(blk_cell Mb.out.bx 0).trans rfl,(blk_cell Mb.out.bx 1).trans rfl,(blk_cell Mb.out.bx 2).trans rfl⟩ (fun hHeld => ?_);clear hK K
     refine norm_ (a':=?_) ?_ ?_;rotate_left
     ·
      show Act.put _ (some 63) _ = _
      simp only [Act.put,List.setIfInBounds_toArray,List.set_cons_zero,List.set_cons_succ,i64_w,i32_w]
      rfl
     refine one_ (i:=5) (N:=some 66) #[true,true,true,true,true,true,false,false,false,false,false,false] rfl rfl (by kernel_rfl) (by decide) (fun K hK => ?_)
     refine goes_ Tryd.func6 (by kernel_rfl) rfl #[.agg #[.slice PA0 p0.length pa0,.slice PA1 p1.length pa1,.slice PA2 p2.length pa2],.string s] (by rfl) rfl rfl (by (try simp only [List.map_toArray,List.map_cons,List.map_nil]);first|done|rfl|(simp only [List.length_drop,List.length_take];rfl)) ?_
     (with_reducible refine (calls_says Ma.out.om GM.out).mono ?_)
     rintro e wb ⟨rfl,hb_⟩
     refine ⟨_,rfl,?_⟩
     replace Ma:=Aside0.mk (Ma.out.below hb_);replace Mb:=Aside0.mk (Mb.out.below hb_);replace Mx:=Aside0.mk (Mx.out.below hb_);replace HB:=Aside0.mk (below_step HB.out hb_);clear hb_
     refine hK.out _ _ ⟨(blk_cell Mx.out.bx 0).trans rfl,(blk_cell Mx.out.bx 1).trans rfl,(blk_cell Mx.out.bx 2).trans rfl,(blk_cell Ma.out.bx 0).trans rfl,(blk_cell Ma.out.bx 1).trans rfl,(blk_cell Ma.out.bx 2).trans rfl,(blk_cell Mb.out.bx 0).trans rfl,(blk_cell Mb.out.bx 1).trans rfl,(blk_cell Mb.out.bx 2).trans rfl⟩ (fun hHeld => ?_);clear hK K
     refine norm_ (a':=?_) ?_ ?_;rotate_left
     ·
      show Act.put _ (some 66) _ = _
      simp only [Act.put,List.setIfInBounds_toArray,List.set_cons_zero,List.set_cons_succ,i64_w,i32_w]
      rfl
     refine pure_ (i:=6) (N:=some 67) (v:=?_) (a':=?_) #[true,true,true,true,true,true,true,false,false,false,false,false] rfl rfl (by kernel_rfl) (fun _ _ _ h => h) (Or.inl ⟨by rfl,?_⟩) ?_ ?_;rotate_left
     ·
      intro w'
      go_simp
      with_reducible rfl
     rotate_left
     ·
      simp only [Act.put,List.setIfInBounds_toArray,List.set_cons_zero,List.set_cons_succ,i64_w,i32_w]
      rfl
     refine pure_ (i:=7) (N:=some 68) (v:=undef) (a':=?_) #[true,true,true,true,true,true,true,true,false,false,false,false] rfl rfl (by kernel_rfl) (fun _ _ _ h => h) (Or.inr ⟨by rfl,rfl⟩) ?_ ?_;rotate_left
     ·
      simp only [Act.put,List.setIfInBounds_toArray,List.set_cons_zero,List.set_cons_succ,i64_w,i32_w]
      rfl
     refine pure_ (i:=8) (N:=some 69) (v:=undef) (a':=?_) #[true,true,true,true,true,true,true,true,true,false,false,false] rfl rfl (by kernel_rfl) (fun _ _ _ h => h) (Or.inr ⟨by rfl,rfl⟩) ?_ ?_;rotate_left
     ·
      simp only [Act.put,List.setIfInBounds_toArray,List.set_cons_zero,List.set_cons_succ,i64_w,i32_w]
      rfl
     refine pure_ (i:=9) (N:=some 70) (v:=undef) (a':=?_) #[true,true,true,true,true,true,true,true,true,true,false,false] rfl rfl (by kernel_rfl) (fun _ _ _ h => h) (Or.inr ⟨by rfl,rfl⟩) ?_ ?_;rotate_left
     ·
      simp only [Act.put,List.setIfInBounds_toArray,List.set_cons_zero,List.set_cons_succ,i64_w,i32_w]
      rfl
     refine pure_ (i:=10) (N:=some 71) (v:=?_) (a':=?_) #[true,true,true,true,true,true,true,true,true,true,true,false] rfl rfl (by kernel_rfl) (fun _ _ _ h => h) (Or.inl ⟨by rfl,?_⟩) ?_ ?_;rotate_left
     ·
      intro w'
      go_simp
      with_reducible rfl
     rotate_left
     ·
      simp only [Act.put,List.setIfInBounds_toArray,List.set_cons_zero,List.set_cons_succ,i64_w,i32_w]
      rfl
     refine pure_ (i:=11) (N:=some 72) (v:=?_) (a':=?_) #[true,true,true,true,true,true,true,true,true,true,true,true] rfl rfl (by kernel_rfl) (fun _ _ _ h => h) (Or.inl ⟨by rfl,?_⟩) ?_ ?_;rotate_left
     ·
      intro w'
      go_simp
      with_reducible rfl
     rotate_left
     ·
      simp only [Act.put,List.setIfInBounds_toArray,List.set_cons_zero,List.set_cons_succ,i64_w,i32_w]
      rfl
     refine done_ (by kernel_rfl) ?_
     go_wp2
     go_meet
     case rel => exact ⟨by first|rfl|(cases v <;> rfl)|(simp [hne]),Ma,Mb,Mx,HB⟩
   case rest =>
    clear Ma Mb Mx HB
    obtain ⟨rfl,Ma,Mb,Mx,HB⟩:=hcut
    go_upto_region 13 with (fail)
    cases a1 with
    | false =>
     replace Ma:=Aside0.mk (show Man.Mx w wc.drew g5 _ _ _ p0 p1 p2 from Ma.out.drew);replace Mb:=Aside0.mk (show Man.Mx w wc.drew g6 _ _ _ q0 q1 q2 from Mb.out.drew);replace Mx:=Aside0.mk (show Man.Mx w wc.drew g7 _ _ _ x0 x1 x2 from Mx.out.drew);replace HB:=Aside0.mk (show Below w.heap.size w wc.drew from below_drew1 HB.out)
     refine start_ (n:=27) (S:=fun w' => w'.cell? ⟨g7,0,none⟩ = some (.slice PX0 x0.length px0) ∧ w'.cell? ⟨g7,1,none⟩ = some (.slice PX1 x1.length px1) ∧ w'.cell? ⟨g7,2,none⟩ = some (.slice PX2 x2.length px2) ∧ w'.cell? ⟨g5,0,none⟩ = some (.slice PA0 p0.length pa0) ∧ w'.cell? ⟨g5,1,none⟩ = some (.slice PA1 p1.length pa1) ∧ w'.cell? ⟨g5,2,none⟩ = some (.slice PA2 p2.length pa2) ∧ w'.cell? ⟨g6,0,none⟩ = some (.slice PB0 q0.length pb0) ∧ w'.cell? ⟨g6,1,none⟩ = some (.slice PB1 q1.length pb1) ∧ w'.cell? ⟨g6,2,none⟩ = some (.slice PB2 q2.length pb2)) (ds:=[]) #[false,false,false,false,false,false,false,false,false,false,false,false,false,false,false,false,false,false,false,false,false,false,false,false,false,false,false] (by kernel_rfl) rfl rfl ⟨(blk_cell Mx.out.bx 0).trans rfl,(blk_cell Mx.out.bx 1).trans rfl,(blk_cell Mx.out.bx 2).trans rfl,(blk_cell Ma.out.bx 0).trans rfl,(blk_cell Ma.out.bx 1).trans rfl,(blk_cell Ma.out.bx 2).trans rfl,(blk_cell Mb.out.bx 0).trans rfl,(blk_cell Mb.out.bx 1).trans rfl,(blk_cell Mb.out.bx 2).trans rfl⟩ (fun hHeld => ?_)
     generalize wc.drew = wd at Ma Mb Mx HB hHeld ⊢
     refine take_ (i:=0) (N:=some 73) (v:=?_) (a':=?_) #[true,false,false,false,false,false,false,false,false,false,false,false,false,false,false,false,false,false,false,false,false,false,false,false,false,false,false] rfl rfl (by kernel_rfl) (fun _ _ _ h => h) (Or.inl ⟨by rfl,?_⟩) hHeld ?_ ?_;rotate_left
     ·
      rintro w' ⟨s0,s1,s2,s3,s4,s5,s6,s7,s8⟩
      go_simp
      with_reducible rfl
     rotate_left
     ·
      simp only [Act.put,List.setIfInBounds_toArray,List.set_cons_zero,List.set_cons_succ,i64_w,i32_w]
      rfl
     refine one_ (i:=1) (N:=some 74) #[true,true,false,false,false,false,false,false,false,false,false,false,false,false,false,false,false,false,false,false,false,false,false,false,false,false,false] rfl rfl (by kernel_rfl) (by decide) (fun K hK => ?_)
     refine goes_ Tryd.func16 (by kernel_rfl) rfl #[.agg #[.slice PX0 x0.length px0,.slice PX1 x1.length px1,.slice PX2 x2.length px2]] (by rfl) rfl rfl (by (try simp only [List.map_toArray,List.map_cons,List.map_nil]);first|done|rfl|(simp only [List.length_drop,List.length_take];rfl)) ?_
     (with_reducible refine (calls_okM Mx.out.om GO.out).mono ?_)
     rintro e wa ⟨rfl,hb_⟩
     refine ⟨_,rfl,?_⟩
     replace Ma:=Aside0.mk (Ma.out.below hb_);replace Mb:=Aside0.mk (Mb.out.below hb_);replace Mx:=Aside0.mk (Mx.out.below hb_);replace HB:=Aside0.mk (below_step HB.out hb_);clear hb_
     refine hK.out _ _ ⟨(blk_cell Mx.out.bx 0).trans rfl,(blk_cell Mx.out.bx 1).trans rfl,(blk_cell Mx.out.bx 2).trans rfl,(blk_cell Ma.out.bx 0).trans rfl,(blk_cell Ma.out.bx 1).trans rfl,(blk_cell Ma.out.bx 2).trans rfl,(blk_cell Mb.out.bx 0).trans rfl,(blk_cell Mb.out.bx 1).trans rfl,(blk_cell Mb.out.bx 2).trans rfl⟩ (fun hHeld => ?_);clear hK K
     refine norm_ (a':=?_) ?_ ?_;rotate_left
     ·
      show Act.put _ (some 74) _ = _
      simp only [Act.put,List.setIfInBounds_toArray,List.set_cons_zero,List.set_cons_succ,i64_w,i32_w]
      rfl
     refine pure_ (i:=2) (N:=some 75) (v:=?_) (a':=?_) #[true,true,true,false,false,false,false,false,false,false,false,false,false,false,false,false,false,false,false,false,false,false,false,false,false,false,false] rfl rfl (by kernel_rfl) (fun _ _ _ h => h) (Or.inl ⟨by rfl,?_⟩) ?_ ?_;rotate_left
     ·
      intro w'
      go_simp
      with_reducible rfl
     rotate_left
     ·
      simp only [Act.put,List.setIfInBounds_toArray,List.set_cons_zero,List.set_cons_succ,i64_w,i32_w]
      rfl
     refine take_ (i:=3) (N:=some 76) (v:=?_) (a':=?_) #[true,true,true,true,false,false,false,false,false,false,false,false,false,false,false,false,false,false,false,false,false,false,false,false,false,false,false] rfl rfl (by kernel_rfl) (fun _ _ _ h => h) (Or.inl ⟨by rfl,?_⟩) hHeld ?_ ?_;rotate_left
     ·
      rintro w' ⟨s0,s1,s2,s3,s4,s5,s6,s7,s8⟩
      go_simp
      with_reducible rfl
     rotate_left
     ·
      simp only [Act.put,List.setIfInBounds_toArray,List.set_cons_zero,List.set_cons_succ,i64_w,i32_w]
      rfl
     refine one_ (i:=4) (N:=some 77) #[true,true,true,true,true,false,false,false,false,false,false,false,false,false,false,false,false,false,false,false,false,false,false,false,false,false,false] rfl rfl (by kernel_rfl) (by decide) (fun K hK => ?_)
     refine goes_ Tryd.func8 (by kernel_rfl) rfl #[.agg #[.slice PA0 p0.length pa0,.slice PA1 p1.length pa1,.slice PA2 p2.length pa2]] (by rfl) rfl rfl (by (try simp only [List.map_toArray,List.map_cons,List.map_nil]);first|done|rfl|(simp only [List.length_drop,List.length_take];rfl)) ?_
     (with_reducible refine (calls_any Ma.out.om GA.out).mono ?_)
     rintro e wb ⟨rfl,hb_⟩
     refine ⟨_,rfl,?_⟩
     replace Ma:=Aside0.mk (Ma.out.below hb_);replace Mb:=Aside0.mk (Mb.out.below hb_);replace Mx:=Aside0.mk (Mx.out.below hb_);replace HB:=Aside0.mk (below_step HB.out hb_);clear hb_
     refine hK.out _ _ ⟨(blk_cell Mx.out.bx 0).trans rfl,(blk_cell Mx.out.bx 1).trans rfl,(blk_cell Mx.out.bx 2).trans rfl,(blk_cell Ma.out.bx 0).trans rfl,(blk_cell Ma.out.bx 1).trans rfl,(blk_cell Ma.out.bx 2).trans rfl,(blk_cell Mb.out.bx 0).trans rfl,(blk_cell Mb.out.bx 1).trans rfl,(blk_cell Mb.out.bx 2).trans rfl⟩ (fun hHeld => ?_);clear hK K
     refine norm_ (a':=?_) ?_ ?_;rotate_left
     ·
      show Act.put _ (some 77) _ = _
      simp only [Act.put,List.setIfInBounds_toArray,List.set_cons_zero,List.set_cons_succ,i64_w,i32_w]
      rfl
     refine pure_ (i:=5) (N:=some 78) (v:=?_) (a':=?_) #[true,true,true,true,true,true,false,false,false,false,false,false,false,false,false,false,false,false,false,false,false,false,false,false,false,false,false] rfl rfl (by kernel_rfl) (fun _ _ _ h => h) (Or.inl ⟨by rfl,?_⟩) ?_ ?_;rotate_left
     ·
      intro w'
      go_simp
      with_reducible rfl
     rotate_left
     ·
      simp only [Act.put,List.setIfInBounds_toArray,List.set_cons_zero,List.set_cons_succ,i64_w,i32_w]
      rfl
     refine pure_ (i:=6) (N:=some 79) (v:=?_) (a':=?_) #[true,true,true,true,true,true,true,false,false,false,false,false,false,false,false,false,false,false,false,false,false,false,false,false,false,false,false] rfl rfl (by kernel_rfl) (fun _ _ _ h => h) (Or.inl ⟨by rfl,?_⟩) ?_ ?_;rotate_left
     ·
      intro w'
      go_simp
      with_reducible rfl
     rotate_left
     ·
      simp only [Act.put,List.setIfInBounds_toArray,List.set_cons_zero,List.set_cons_succ,i64_w,i32_w]
      rfl
     refine pure_ (i:=7) (N:=some 80) (v:=undef) (a':=?_) #[true,true,true,true,true,true,true,true,false,false,false,false,false,false,false,false,false,false,false,false,false,false,false,false,false,false,false] rfl rfl (by kernel_rfl) (fun _ _ _ h => h) (Or.inr ⟨by rfl,rfl⟩) ?_ ?_;rotate_left
     ·
      simp only [Act.put,List.setIfInBounds_toArray,List.set_cons_zero,List.set_cons_succ,i64_w,i32_w]
      rfl
     refine pure_ (i:=8) (N:=some 81) (v:=undef) (a':=?_) #[true,true,true,true,true,true,true,true,true,false,false,false,false,false,false,false,false,false,false,false,false,false,false,false,false,false,false] rfl rfl (by kernel_rfl) (fun _ _ _ h => h) (Or.inr ⟨by rfl,rfl⟩) ?_ ?_;rotate_left
     ·
      simp only [Act.put,List.setIfInBounds_toArray,List.set_cons_zero,List.set_cons_succ,i64_w,i32_w]
      rfl
     refine pure_ (i:=9) (N:=some 82) (v:=undef) (a':=?_) #[true,true,true,true,true,true,true,true,true,true,false,false,false,false,false,false,false,false,false,false,false,false,false,false,false,false,false] rfl rfl (by kernel_rfl) (fun _ _ _ h => h) (Or.inr ⟨by rfl,rfl⟩) ?_ ?_;rotate_left
     ·
      simp only [Act.put,List.setIfInBounds_toArray,List.set_cons_zero,List.set_cons_succ,i64_w,i32_w]
      rfl
     refine pure_ (i:=10) (N:=some 83) (v:=?_) (a':=?_) #[true,true,true,true,true,true,true,true,true,true,true,false,false,false,false,false,false,false,false,false,false,false,false,false,false,false,false] rfl rfl (by kernel_rfl) (fun _ _ _ h => h) (Or.inl ⟨by rfl,?_⟩) ?_ ?_;rotate_left
     ·
      intro w'
      go_simp
      with_reducible rfl
     rotate_left
     ·
      simp only [Act.put,List.setIfInBounds_toArray,List.set_cons_zero,List.set_cons_succ,i64_w,i32_w]
      rfl
     refine pure_ (i:=11) (N:=some 84) (v:=?_) (a':=?_) #[true,true,true,true,true,true,true,true,true,true,true,true,false,false,false,false,false,false,false,false,false,false,false,false,false,false,false] rfl rfl (by kernel_rfl) (fun _ _ _ h => h) (Or.inl ⟨by rfl,?_⟩) ?_ ?_;rotate_left
     ·
      intro w'
      go_simp
      with_reducible rfl
     rotate_left
     ·
      simp only [Act.put,List.setIfInBounds_toArray,List.set_cons_zero,List.set_cons_succ,i64_w,i32_w]
      rfl
     refine pure_ (i:=12) (N:=some 85) (v:=undef) (a':=?_) #[true,true,true,true,true,true,true,true,true,true,true,true,true,false,false,false,false,false,false,false,false,false,false,false,false,false,false] rfl rfl (by kernel_rfl) (fun _ _ _ h => h) (Or.inr ⟨by rfl,rfl⟩) ?_ ?_;rotate_left
     ·
      simp only [Act.put,List.setIfInBounds_toArray,List.set_cons_zero,List.set_cons_succ,i64_w,i32_w]
      rfl
     refine pure_ (i:=13) (N:=some 86) (v:=undef) (a':=?_) #[true,true,true,true,true,true,true,true,true,true,true,true,true,true,false,false,false,false,false,false,false,false,false,false,false,false,false] rfl rfl (by kernel_rfl) (fun _ _ _ h => h) (Or.inr ⟨by rfl,rfl⟩) ?_ ?_;rotate_left
     ·
      simp only [Act.put,List.setIfInBounds_toArray,List.set_cons_zero,List.set_cons_succ,i64_w,i32_w]
      rfl
     refine pure_ (i:=14) (N:=some 87) (v:=undef) (a':=?_) #[true,true,true,true,true,true,true,true,true,true,true,true,true,true,true,false,false,false,false,false,false,false,false,false,false,false,false] rfl rfl (by kernel_rfl) (fun _ _ _ h => h) (Or.inr ⟨by rfl,rfl⟩) ?_ ?_;rotate_left
     ·
      simp only [Act.put,List.setIfInBounds_toArray,List.set_cons_zero,List.set_cons_succ,i64_w,i32_w]
      rfl
     refine pure_ (i:=15) (N:=some 88) (v:=undef) (a':=?_) #[true,true,true,true,true,true,true,true,true,true,true,true,true,true,true,true,false,false,false,false,false,false,false,false,false,false,false] rfl rfl (by kernel_rfl) (fun _ _ _ h => h) (Or.inr ⟨by rfl,rfl⟩) ?_ ?_;rotate_left
     ·
      simp only [Act.put,List.setIfInBounds_toArray,List.set_cons_zero,List.set_cons_succ,i64_w,i32_w]
      rfl
     refine pure_ (i:=16) (N:=some 89) (v:=undef) (a':=?_) #[true,true,true,true,true,true,true,true,true,true,true,true,true,true,true,true,true,false,false,false,false,false,false,false,false,false,false] rfl rfl (by kernel_rfl) (fun _ _ _ h => h) (Or.inr ⟨by rfl,rfl⟩) ?_ ?_;rotate_left
     ·
      simp only [Act.put,List.setIfInBounds_toArray,List.set_cons_zero,List.set_cons_succ,i64_w,i32_w]
      rfl
     refine pure_ (i:=17) (N:=some 90) (v:=undef) (a':=?_) #[true,true,true,true,true,true,true,true,true,true,true,true,true,true,true,true,true,true,false,false,false,false,false,false,false,false,false] rfl rfl (by kernel_rfl) (fun _ _ _ h => h) (Or.inr ⟨by rfl,rfl⟩) ?_ ?_;rotate_left
     ·
      simp only [Act.put,List.setIfInBounds_toArray,List.set_cons_zero,List.set_cons_succ,i64_w,i32_w]
      rfl
     refine pure_ (i:=18) (N:=some 91) (v:=undef) (a':=?_) #[true,true,true,true,true,true,true,true,true,true,true,true,true,true,true,true,true,true,true,false,false,false,false,false,false,false,false] rfl rfl (by kernel_rfl) (fun _ _ _ h => h) (Or.inr ⟨by rfl,rfl⟩) ?_ ?_;rotate_left
     ·
      simp only [Act.put,List.setIfInBounds_toArray,List.set_cons_zero,List.set_cons_succ,i64_w,i32_w]
      rfl
     refine pure_ (i:=19) (N:=some 92) (v:=undef) (a':=?_) #[true,true,true,true,true,true,true,true,true,true,true,true,true,true,true,true,true,true,true,true,false,false,false,false,false,false,false] rfl rfl (by kernel_rfl) (fun _ _ _ h => h) (Or.inr ⟨by rfl,rfl⟩) ?_ ?_;rotate_left
     ·
      simp only [Act.put,List.setIfInBounds_toArray,List.set_cons_zero,List.set_cons_succ,i64_w,i32_w]
      rfl
     refine pure_ (i:=20) (N:=some 93) (v:=undef) (a':=?_) #[true,true,true,true,true,true,true,true,true,true,true,true,true,true,true,true,true,true,true,true,true,false,false,false,false,false,false] rfl rfl (by kernel_rfl) (fun _ _ _ h => h) (Or.inr ⟨by rfl,rfl⟩) ?_ ?_;rotate_left
     ·
      simp only [Act.put,List.setIfInBounds_toArray,List.set_cons_zero,List.set_cons_succ,i64_w,i32_w]
      rfl
     refine pure_ (i:=21) (N:=some 94) (v:=undef) (a':=?_) #[true,true,true,true,true,true,true,true,true,true,true,true,true,true,true,true,true,true,true,true,true,true,false,false,false,false,false] rfl rfl (by kernel_rfl) (fun _ _ _ h => h) (Or.inr ⟨by rfl,rfl⟩) ?_ ?_;rotate_left
     ·
      simp only [Act.put,List.setIfInBounds_toArray,List.set_cons_zero,List.set_cons_succ,i64_w,i32_w]
      rfl
     refine pure_ (i:=22) (N:=some 95) (v:=undef) (a':=?_) #[true,true,true,true,true,true,true,true,true,true,true,true,true,true,true,true,true,true,true,true,true,true,true,false,false,false,false] rfl rfl (by kernel_rfl) (fun _ _ _ h => h) (Or.inr ⟨by rfl,rfl⟩) ?_ ?_;rotate_left
     ·
      simp only [Act.put,List.setIfInBounds_toArray,List.set_cons_zero,List.set_cons_succ,i64_w,i32_w]
      rfl
     refine pure_ (i:=23) (N:=some 96) (v:=undef) (a':=?_) #[true,true,true,true,true,true,true,true,true,true,true,true,true,true,true,true,true,true,true,true,true,true,true,true,false,false,false] rfl rfl (by kernel_rfl) (fun _ _ _ h => h) (Or.inr ⟨by rfl,rfl⟩) ?_ ?_;rotate_left
     ·
      simp only [Act.put,List.setIfInBounds_toArray,List.set_cons_zero,List.set_cons_succ,i64_w,i32_w]
      rfl
     refine pure_ (i:=24) (N:=some 97) (v:=?_) (a':=?_) #[true,true,true,true,true,true,true,true,true,true,true,true,true,true,true,true,true,true,true,true,true,true,true,true,true,false,false] rfl rfl (by kernel_rfl) (fun _ _ _ h => h) (Or.inl ⟨by rfl,?_⟩) ?_ ?_;rotate_left
     ·
      intro w'
      go_simp
      with_reducible rfl
     rotate_left
     ·
      simp only [Act.put,List.setIfInBounds_toArray,List.set_cons_zero,List.set_cons_succ,i64_w,i32_w]
      rfl
     refine pure_ (i:=25) (N:=some 98) (v:=?_) (a':=?_) #[true,true,true,true,true,true,true,true,true,true,true,true,true,true,true,true,true,true,true,true,true,true,true,true,true,true,false] rfl rfl (by kernel_rfl) (fun _ _ _ h => h) (Or.inl ⟨by rfl,?_⟩) ?_ ?_;rotate_left
     ·
      intro w'
      go_simp
      with_reducible rfl
     rotate_left
     ·
      simp only [Act.put,List.setIfInBounds_toArray,List.set_cons_zero,List.set_cons_succ,i64_w,i32_w]
      rfl
     refine pure_ (i:=26) (N:=some 4) (v:=?_) (a':=?_) #[true,true,true,true,true,true,true,true,true,true,true,true,true,true,true,true,true,true,true,true,true,true,true,true,true,true,true] rfl rfl (by kernel_rfl) (fun _ _ _ h => h) (Or.inl ⟨by rfl,?_⟩) ?_ ?_;rotate_left
     ·
      intro w'
      go_simp
      with_reducible rfl
     rotate_left
     ·
      simp only [Act.put,List.setIfInBounds_toArray,List.set_cons_zero,List.set_cons_succ,i64_w,i32_w]
      rfl
     refine done_ (by kernel_rfl) ?_
     go_wp2
     go_ret
     exact ⟨rfl,HB.out⟩
    | true =>
     cases a2 with
     | false =>
      replace Ma:=Aside0.mk (show Man.Mx w wc.drew g5 _ _ _ p0 p1 p2 from Ma.out.drew);replace Mb:=Aside0.mk (show Man.Mx w wc.drew g6 _ _ _ q0 q1 q2 from Mb.out.drew);replace Mx:=Aside0.mk (show Man.Mx w wc.drew g7 _ _ _ x0 x1 x2 from Mx.out.drew);replace HB:=Aside0.mk (show Below w.heap.size w wc.drew from below_drew1 HB.out)
      refine start_ (n:=27) (S:=fun w' => w'.cell? ⟨g7,0,none⟩ = some (.slice PX0 x0.length px0) ∧ w'.cell? ⟨g7,1,none⟩ = some (.slice PX1 x1.length px1) ∧ w'.cell? ⟨g7,2,none⟩ = some (.slice PX2 x2.length px2) ∧ w'.cell? ⟨g5,0,none⟩ = some (.slice PA0 p0.length pa0) ∧ w'.cell? ⟨g5,1,none⟩ = some (.slice PA1 p1.length pa1) ∧ w'.cell? ⟨g5,2,none⟩ = some (.slice PA2 p2.length pa2) ∧ w'.cell? ⟨g6,0,none⟩ = some (.slice PB0 q0.length pb0) ∧ w'.cell? ⟨g6,1,none⟩ = some (.slice PB1 q1.length pb1) ∧ w'.cell? ⟨g6,2,none⟩ = some (.slice PB2 q2.length pb2)) (ds:=[]) #[false,false,false,false,false,false,false,false,false,false,false,false,false,false,false,false,false,false,false,false,false,false,false,false,false,false,false] (by kernel_rfl) rfl rfl ⟨(blk_cell Mx.out.bx 0).trans rfl,(blk_cell Mx.out.bx 1).trans rfl,(blk_cell Mx.out.bx 2).trans rfl,(blk_cell Ma.out.bx 0).trans rfl,(blk_cell Ma.out.bx 1).trans rfl,(blk_cell Ma.out.bx 2).trans rfl,(blk_cell Mb.out.bx 0).trans rfl,(blk_cell Mb.out.bx 1).trans rfl,(blk_cell Mb.out.bx 2).trans rfl⟩ (fun hHeld => ?_)
      generalize wc.drew = wd at Ma Mb Mx HB hHeld ⊢
      refine take_ (i:=0) (N:=some 73) (v:=?_) (a':=?_) #[true,false,false,false,false,false,false,false,false,false,false,false,false,false,false,false,false,false,false,false,false,false,false,false,false,false,false] rfl rfl (by kernel_rfl) (fun _ _ _ h => h) (Or.inl ⟨by rfl,?_⟩) hHeld ?_ ?_;rotate_left
      ·
       rintro w' ⟨s0,s1,s2,s3,s4,s5,s6,s7,s8⟩
       go_simp
       with_reducible rfl
      rotate_left
      ·
       simp only [Act.put,List.setIfInBounds_toArray,List.set_cons_zero,List.set_cons_succ,i64_w,i32_w]
       rfl
      refine one_ (i:=1) (N:=some 74) #[true,true,false,false,false,false,false,false,false,false,false,false,false,false,false,false,false,false,false,false,false,false,false,false,false,false,false] rfl rfl (by kernel_rfl) (by decide) (fun K hK => ?_)
      refine goes_ Tryd.func16 (by kernel_rfl) rfl #[.agg #[.slice PX0 x0.length px0,.slice PX1 x1.length px1,.slice PX2 x2.length px2]] (by rfl) rfl rfl (by (try simp only [List.map_toArray,List.map_cons,List.map_nil]);first|done|rfl|(simp only [List.length_drop,List.length_take];rfl)) ?_
      (with_reducible refine (calls_okM Mx.out.om GO.out).mono ?_)
      rintro e wa ⟨rfl,hb_⟩
      refine ⟨_,rfl,?_⟩
      replace Ma:=Aside0.mk (Ma.out.below hb_);replace Mb:=Aside0.mk (Mb.out.below hb_);replace Mx:=Aside0.mk (Mx.out.below hb_);replace HB:=Aside0.mk (below_step HB.out hb_);clear hb_
      refine hK.out _ _ ⟨(blk_cell Mx.out.bx 0).trans rfl,(blk_cell Mx.out.bx 1).trans rfl,(blk_cell Mx.out.bx 2).trans rfl,(blk_cell Ma.out.bx 0).trans rfl,(blk_cell Ma.out.bx 1).trans rfl,(blk_cell Ma.out.bx 2).trans rfl,(blk_cell Mb.out.bx 0).trans rfl,(blk_cell Mb.out.bx 1).trans rfl,(blk_cell Mb.out.bx 2).trans rfl⟩ (fun hHeld => ?_);clear hK K
      refine norm_ (a':=?_) ?_ ?_;rotate_left
      ·
       show Act.put _ (some 74) _ = _
       simp only [Act.put,List.setIfInBounds_toArray,List.set_cons_zero,List.set_cons_succ,i64_w,i32_w]
       rfl
      refine pure_ (i:=2) (N:=some 75) (v:=?_) (a':=?_) #[true,true,true,false,false,false,false,false,false,false,false,false,false,false,false,false,false,false,false,false,false,false,false,false,false,false,false] rfl rfl (by kernel_rfl) (fun _ _ _ h => h) (Or.inl ⟨by rfl,?_⟩) ?_ ?_;rotate_left
      ·
       intro w'
       go_simp
       with_reducible rfl
      rotate_left
      ·
       simp only [Act.put,List.setIfInBounds_toArray,List.set_cons_zero,List.set_cons_succ,i64_w,i32_w]
       rfl
      refine take_ (i:=3) (N:=some 76) (v:=?_) (a':=?_) #[true,true,true,true,false,false,false,false,false,false,false,false,false,false,false,false,false,false,false,false,false,false,false,false,false,false,false] rfl rfl (by kernel_rfl) (fun _ _ _ h => h) (Or.inl ⟨by rfl,?_⟩) hHeld ?_ ?_;rotate_left
      ·
       rintro w' ⟨s0,s1,s2,s3,s4,s5,s6,s7,s8⟩
       go_simp
       with_reducible rfl
      rotate_left
      ·
       simp only [Act.put,List.setIfInBounds_toArray,List.set_cons_zero,List.set_cons_succ,i64_w,i32_w]
       rfl
      refine one_ (i:=4) (N:=some 77) #[true,true,true,true,true,false,false,false,false,false,false,false,false,false,false,false,false,false,false,false,false,false,false,false,false,false,false] rfl rfl (by kernel_rfl) (by decide) (fun K hK => ?_)
      refine goes_ Tryd.func8 (by kernel_rfl) rfl #[.agg #[.slice PA0 p0.length pa0,.slice PA1 p1.length pa1,.slice PA2 p2.length pa2]] (by rfl) rfl rfl (by (try simp only [List.map_toArray,List.map_cons,List.map_nil]);first|done|rfl|(simp only [List.length_drop,List.length_take];rfl)) ?_
      (with_reducible refine (calls_any Ma.out.om GA.out).mono ?_)
      rintro e wb ⟨rfl,hb_⟩
      refine ⟨_,rfl,?_⟩
      replace Ma:=Aside0.mk (Ma.out.below hb_);replace Mb:=Aside0.mk (Mb.out.below hb_);replace Mx:=Aside0.mk (Mx.out.below hb_);replace HB:=Aside0.mk (below_step HB.out hb_);clear hb_
      refine hK.out _ _ ⟨(blk_cell Mx.out.bx 0).trans rfl,(blk_cell Mx.out.bx 1).trans rfl,(blk_cell Mx.out.bx 2).trans rfl,(blk_cell Ma.out.bx 0).trans rfl,(blk_cell Ma.out.bx 1).trans rfl,(blk_cell Ma.out.bx 2).trans rfl,(blk_cell Mb.out.bx 0).trans rfl,(blk_cell Mb.out.bx 1).trans rfl,(blk_cell Mb.out.bx 2).trans rfl⟩ (fun hHeld => ?_);clear hK K
      refine norm_ (a':=?_) ?_ ?_;rotate_left
      ·
       show Act.put _ (some 77) _ = _
       simp only [Act.put,List.setIfInBounds_toArray,List.set_cons_zero,List.set_cons_succ,i64_w,i32_w]
       rfl
      refine pure_ (i:=5) (N:=some 78) (v:=?_) (a':=?_) #[true,true,true,true,true,true,false,false,false,false,false,false,false,false,false,false,false,false,false,false,false,false,false,false,false,false,false] rfl rfl (by kernel_rfl) (fun _ _ _ h => h) (Or.inl ⟨by rfl,?_⟩) ?_ ?_;rotate_left
      ·
       intro w'
       go_simp
       with_reducible rfl
      rotate_left
      ·
       simp only [Act.put,List.setIfInBounds_toArray,List.set_cons_zero,List.set_cons_succ,i64_w,i32_w]
       rfl
      refine pure_ (i:=6) (N:=some 79) (v:=?_) (a':=?_) #[true,true,true,true,true,true,true,false,false,false,false,false,false,false,false,false,false,false,false,false,false,false,false,false,false,false,false] rfl rfl (by kernel_rfl) (fun _ _ _ h => h) (Or.inl ⟨by rfl,?_⟩) ?_ ?_;rotate_left
      ·
       intro w'
       go_simp
       with_reducible rfl
      rotate_left
      ·
       simp only [Act.put,List.setIfInBounds_toArray,List.set_cons_zero,List.set_cons_succ,i64_w,i32_w]
       rfl
      refine take_ (i:=7) (N:=some 80) (v:=?_) (a':=?_) #[true,true,true,true,true,true,true,true,false,false,false,false,false,false,false,false,false,false,false,false,false,false,false,false,false,false,false] rfl rfl (by kernel_rfl) (fun _ _ _ h => h) (Or.inl ⟨by rfl,?_⟩) hHeld ?_ ?_;rotate_left
      ·
       rintro w' ⟨s0,s1,s2,s3,s4,s5,s6,s7,s8⟩
       go_simp
       with_reducible rfl
      rotate_left
      ·
       simp only [Act.put,List.setIfInBounds_toArray,List.set_cons_zero,List.set_cons_succ,i64_w,i32_w]
       rfl
      refine one_ (i:=8) (N:=some 81) #[true,true,true,true,true,true,true,true,true,false,false,false,false,false,false,false,false,false,false,false,false,false,false,false,false,false,false] rfl rfl (by kernel_rfl) (by decide) (fun K hK => ?_)
      refine goes_ Tryd.func8 (by kernel_rfl) rfl #[.agg #[.slice PB0 q0.length pb0,.slice PB1 q1.length pb1,.slice PB2 q2.length pb2]] (by rfl) rfl rfl (by (try simp only [List.map_toArray,List.map_cons,List.map_nil]);first|done|rfl|(simp only [List.length_drop,List.length_take];rfl)) ?_
      (with_reducible refine (calls_any Mb.out.om GB.out).mono ?_)
      rintro e we_ ⟨rfl,hb_⟩
      refine ⟨_,rfl,?_⟩
      replace Ma:=Aside0.mk (Ma.out.below hb_);replace Mb:=Aside0.mk (Mb.out.below hb_);replace Mx:=Aside0.mk (Mx.out.below hb_);replace HB:=Aside0.mk (below_step HB.out hb_);clear hb_
      refine hK.out _ _ ⟨(blk_cell Mx.out.bx 0).trans rfl,(blk_cell Mx.out.bx 1).trans rfl,(blk_cell Mx.out.bx 2).trans rfl,(blk_cell Ma.out.bx 0).trans rfl,(blk_cell Ma.out.bx 1).trans rfl,(blk_cell Ma.out.bx 2).trans rfl,(blk_cell Mb.out.bx 0).trans rfl,(blk_cell Mb.out.bx 1).trans rfl,(blk_cell Mb.out.bx 2).trans rfl⟩ (fun hHeld => ?_);clear hK K
      refine norm_ (a':=?_) ?_ ?_;rotate_left
      ·
       show Act.put _ (some 81) _ = _
       simp only [Act.put,List.setIfInBounds_toArray,List.set_cons_zero,List.set_cons_succ,i64_w,i32_w]
       rfl
      refine pure_ (i:=9) (N:=some 82) (v:=?_) (a':=?_) #[true,true,true,true,true,true,true,true,true,true,false,false,false,false,false,false,false,false,false,false,false,false,false,false,false,false,false] rfl rfl (by kernel_rfl) (fun _ _ _ h => h) (Or.inl ⟨by rfl,?_⟩) ?_ ?_;rotate_left
      ·
       intro w'
       go_simp
       with_reducible rfl
      rotate_left
      ·
       simp only [Act.put,List.setIfInBounds_toArray,List.set_cons_zero,List.set_cons_succ,i64_w,i32_w]
       rfl
      refine pure_ (i:=10) (N:=some 83) (v:=?_) (a':=?_) #[true,true,true,true,true,true,true,true,true,true,true,false,false,false,false,false,false,false,false,false,false,false,false,false,false,false,false] rfl rfl (by kernel_rfl) (fun _ _ _ h => h) (Or.inl ⟨by rfl,?_⟩) ?_ ?_;rotate_left
      ·
       intro w'
       go_simp
       with_reducible rfl
      rotate_left
      ·
       simp only [Act.put,List.setIfInBounds_toArray,List.set_cons_zero,List.set_cons_succ,i64_w,i32_w]
       rfl
      refine pure_ (i:=11) (N:=some 84) (v:=?_) (a':=?_) #[true,true,true,true,true,true,true,true,true,true,true,true,false,false,false,false,false,false,false,false,false,false,false,false,false,false,false] rfl rfl (by kernel_rfl) (fun _ _ _ h => h) (Or.inl ⟨by rfl,?_⟩) ?_ ?_;rotate_left
      ·
       intro w'
       go_simp
       with_reducible rfl
      rotate_left
      ·
       simp only [Act.put,List.setIfInBounds_toArray,List.set_cons_zero,List.set_cons_succ,i64_w,i32_w]
       rfl
      refine pure_ (i:=12) (N:=some 85) (v:=undef) (a':=?_) #[true,true,true,true,true,true,true,true,true,true,true,true,true,false,false,false,false,false,false,false,false,false,false,false,false,false,false] rfl rfl (by kernel_rfl) (fun _ _ _ h => h) (Or.inr ⟨by rfl,rfl⟩) ?_ ?_;rotate_left
      ·
       simp only [Act.put,List.setIfInBounds_toArray,List.set_cons_zero,List.set_cons_succ,i64_w,i32_w]
       rfl
      refine pure_ (i:=13) (N:=some 86) (v:=undef) (a':=?_) #[true,true,true,true,true,true,true,true,true,true,true,true,true,true,false,false,false,false,false,false,false,false,false,false,false,false,false] rfl rfl (by kernel_rfl) (fun _ _ _ h => h) (Or.inr ⟨by rfl,rfl⟩) ?_ ?_;rotate_left
      ·
       simp only [Act.put,List.setIfInBounds_toArray,List.set_cons_zero,List.set_cons_succ,i64_w,i32_w]
       rfl
      refine pure_ (i:=14) (N:=some 87) (v:=undef) (a':=?_) #[true,true,true,true,true,true,true,true,true,true,true,true,true,true,true,false,false,false,false,false,false,false,false,false,false,false,false] rfl rfl (by kernel_rfl) (fun _ _ _ h => h) (Or.inr ⟨by rfl,rfl⟩) ?_ ?_;rotate_left
      ·
       simp only [Act.put,List.setIfInBounds_toArray,List.set_cons_zero,List.set_cons_succ,i64_w,i32_w]
       rfl
      refine pure_ (i:=15) (N:=some 88) (v:=undef) (a':=?_) #[true,true,true,true,true,true,true,true,true,true,true,true,true,true,true,true,false,false,false,false,false,false,false,false,false,false,false] rfl rfl (by kernel_rfl) (fun _ _ _ h => h) (Or.inr ⟨by rfl,rfl⟩) ?_ ?_;rotate_left
      ·
       simp only [Act.put,List.setIfInBounds_toArray,List.set_cons_zero,List.set_cons_succ,i64_w,i32_w]
       rfl
      refine pure_ (i:=16) (N:=some 89) (v:=undef) (a':=?_) #[true,true,true,true,true,true,true,true,true,true,true,true,true,true,true,true,true,false,false,false,false,false,false,false,false,false,false] rfl rfl (by kernel_rfl) (fun _ _ _ h => h) (Or.inr ⟨by rfl,rfl⟩) ?_ ?_;rotate_left
      ·
       simp only [Act.put,List.setIfInBounds_toArray,List.set_cons_zero,List.set_cons_succ,i64_w,i32_w]
       rfl
      refine pure_ (i:=17) (N:=some 90) (v:=undef) (a':=?_) #[true,true,true,true,true,true,true,true,true,true,true,true,true,true,true,true,true,true,false,false,false,false,false,false,false,false,false] rfl rfl (by kernel_rfl) (fun _ _ _ h => h) (Or.inr ⟨by rfl,rfl⟩) ?_ ?_;rotate_left
      ·
       simp only [Act.put,List.setIfInBounds_toArray,List.set_cons_zero,List.set_cons_succ,i64_w,i32_w]
       rfl
      refine pure_ (i:=18) (N:=some 91) (v:=undef) (a':=?_) #[true,true,true,true,true,true,true,true,true,true,true,true,true,true,true,true,true,true,true,false,false,false,false,false,false,false,false] rfl rfl (by kernel_rfl) (fun _ _ _ h => h) (Or.inr ⟨by rfl,rfl⟩) ?_ ?_;rotate_left
      ·
       simp only [Act.put,List.setIfInBounds_toArray,List.set_cons_zero,List.set_cons_succ,i64_w,i32_w]
       rfl
      refine pure_ (i:=19) (N:=some 92) (v:=undef) (a':=?_) #[true,true,true,true,true,true,true,true,true,true,true,true,true,true,true,true,true,true,true,true,false,false,false,false,false,false,false] rfl rfl (by kernel_rfl) (fun _ _ _ h => h) (Or.inr ⟨by rfl,rfl⟩) ?_ ?_;rotate_left
      ·
       simp only [Act.put,List.setIfInBounds_toArray,List.set_cons_zero,List.set_cons_succ,i64_w,i32_w]
       rfl
      refine pure_ (i:=20) (N:=some 93) (v:=undef) (a':=?_) #[true,true,true,true,true,true,true,true,true,true,true,true,true,true,true,true,true,true,true,true,true,false,false,false,false,false,false] rfl rfl (by kernel_rfl) (fun _ _ _ h => h) (Or.inr ⟨by rfl,rfl⟩) ?_ ?_;rotate_left
      ·
       simp only [Act.put,List.setIfInBounds_toArray,List.set_cons_zero,List.set_cons_succ,i64_w,i32_w]
       rfl
      refine pure_ (i:=21) (N:=some 94) (v:=undef) (a':=?_) #[true,true,true,true,true,true,true,true,true,true,true,true,true,true,true,true,true,true,true,true,true,true,false,false,false,false,false] rfl rfl (by kernel_rfl) (fun _ _ _ h => h) (Or.inr ⟨by rfl,rfl⟩) ?_ ?_;rotate_left
      ·
       simp only [Act.put,List.setIfInBounds_toArray,List.set_cons_zero,List.set_cons_succ,i64_w,i32_w]
       rfl
      refine pure_ (i:=22) (N:=some 95) (v:=undef) (a':=?_) #[true,true,true,true,true,true,true,true,true,true,true,true,true,true,true,true,true,true,true,true,true,true,true,false,false,false,false] rfl rfl (by kernel_rfl) (fun _ _ _ h => h) (Or.inr ⟨by rfl,rfl⟩) ?_ ?_;rotate_left
      ·
       simp only [Act.put,List.setIfInBounds_toArray,List.set_cons_zero,List.set_cons_succ,i64_w,i32_w]
       rfl
      refine pure_ (i:=23) (N:=some 96) (v:=undef) (a':=?_) #[true,true,true,true,true,true,true,true,true,true,true,true,true,true,true,true,true,true,true,true,true,true,true,true,false,false,false] rfl rfl (by kernel_rfl) (fun _ _ _ h => h) (Or.inr ⟨by rfl,rfl⟩) ?_ ?_;rotate_left
      ·
       simp only [Act.put,List.setIfInBounds_toArray,List.set_cons_zero,List.set_cons_succ,i64_w,i32_w]
       rfl
      refine pure_ (i:=24) (N:=some 97) (v:=?_) (a':=?_) #[true,true,true,true,true,true,true,true,true,true,true,true,true,true,true,true,true,true,true,true,true,true,true,true,true,false,false] rfl rfl (by kernel_rfl) (fun _ _ _ h => h) (Or.inl ⟨by rfl,?_⟩) ?_ ?_;rotate_left
      ·
       intro w'
       go_simp
       with_reducible rfl
      rotate_left
      ·
       simp only [Act.put,List.setIfInBounds_toArray,List.set_cons_zero,List.set_cons_succ,i64_w,i32_w]
       rfl
      refine pure_ (i:=25) (N:=some 98) (v:=?_) (a':=?_) #[true,true,true,true,true,true,true,true,true,true,true,true,true,true,true,true,true,true,true,true,true,true,true,true,true,true,false] rfl rfl (by kernel_rfl) (fun _ _ _ h => h) (Or.inl ⟨by rfl,?_⟩) ?_ ?_;rotate_left
      ·
       intro w'
       go_simp
       with_reducible rfl
      rotate_left
      ·
       simp only [Act.put,List.setIfInBounds_toArray,List.set_cons_zero,List.set_cons_succ,i64_w,i32_w]
       rfl
      refine pure_ (i:=26) (N:=some 4) (v:=?_) (a':=?_) #[true,true,true,true,true,true,true,true,true,true,true,true,true,true,true,true,true,true,true,true,true,true,true,true,true,true,true] rfl rfl (by kernel_rfl) (fun _ _ _ h => h) (Or.inl ⟨by rfl,?_⟩) ?_ ?_;rotate_left
      ·
       intro w'
       go_simp
       with_reducible rfl
      rotate_left
      ·
       simp only [Act.put,List.setIfInBounds_toArray,List.set_cons_zero,List.set_cons_succ,i64_w,i32_w]
       rfl
      refine done_ (by kernel_rfl) ?_
      go_wp2
      go_ret
      exact ⟨rfl,HB.out⟩
     | true =>
      obtain ⟨i1,i2,i3,i4,i5,i6,T,U,V,G⟩:=GG.out rfl rfl
      have GAX:=Aside0.mk G.ax
      have GTX:=Aside0.mk G.tx
      have GTM:=Aside0.mk G.tm
      have GTN:=Aside0.mk G.tn
      have GBO:=Aside0.mk G.bo
      have GE:=Aside0.mk G.e
      clear G
      replace Ma:=Aside0.mk (show Man.Mx w wc.drew g5 _ _ _ p0 p1 p2 from Ma.out.drew);replace Mb:=Aside0.mk (show Man.Mx w wc.drew g6 _ _ _ q0 q1 q2 from Mb.out.drew);replace Mx:=Aside0.mk (show Man.Mx w wc.drew g7 _ _ _ x0 x1 x2 from Mx.out.drew);replace HB:=Aside0.mk (show Below w.heap.size w wc.drew from below_drew1 HB.out)
      refine start_ (n:=27) (S:=fun w' => w'.cell? ⟨g7,0,none⟩ = some (.slice PX0 x0.length px0) ∧ w'.cell? ⟨g7,1,none⟩ = some (.slice PX1 x1.length px1) ∧ w'.cell? ⟨g7,2,none⟩ = some (.slice PX2 x2.length px2) ∧ w'.cell? ⟨g5,0,none⟩ = some (.slice PA0 p0.length pa0) ∧ w'.cell? ⟨g5,1,none⟩ = some (.slice PA1 p1.length pa1) ∧ w'.cell? ⟨g5,2,none⟩ = some (.slice PA2 p2.length pa2) ∧ w'.cell? ⟨g6,0,none⟩ = some (.slice PB0 q0.length pb0) ∧ w'.cell? ⟨g6,1,none⟩ = some (.slice PB1 q1.length pb1) ∧ w'.cell? ⟨g6,2,none⟩ = some (.slice PB2 q2.length pb2)) (ds:=[]) #[false,false,false,false,false,false,false,false,false,false,false,false,false,false,false,false,false,false,false,false,false,false,false,false,false,false,false] (by kernel_rfl) rfl rfl ⟨(blk_cell Mx.out.bx 0).trans rfl,(blk_cell Mx.out.bx 1).trans rfl,(blk_cell Mx.out.bx 2).trans rfl,(blk_cell Ma.out.bx 0).trans rfl,(blk_cell Ma.out.bx 1).trans rfl,(blk_cell Ma.out.bx 2).trans rfl,(blk_cell Mb.out.bx 0).trans rfl,(blk_cell Mb.out.bx 1).trans rfl,(blk_cell Mb.out.bx 2).trans rfl⟩ (fun hHeld => ?_)
      generalize wc.drew = wd at Ma Mb Mx HB hHeld ⊢
      refine take_ (i:=0) (N:=some 73) (v:=?_) (a':=?_) #[true,false,false,false,false,false,false,false,false,false,false,false,false,false,false,false,false,false,false,false,false,false,false,false,false,false,false] rfl rfl (by kernel_rfl) (fun _ _ _ h => h) (Or.inl ⟨by rfl,?_⟩) hHeld ?_ ?_;rotate_left
      ·
       rintro w' ⟨s0,s1,s2,s3,s4,s5,s6,s7,s8⟩
       go_simp
       with_reducible rfl
      rotate_left
      ·
       simp only [Act.put,List.setIfInBounds_toArray,List.set_cons_zero,List.set_cons_succ,i64_w,i32_w]
       rfl
      refine one_ (i:=1) (N:=some 74) #[true,true,false,false,false,false,false,false,false,false,false,false,false,false,false,false,false,false,false,false,false,false,false,false,false,false,false] rfl rfl (by kernel_rfl) (by decide) (fun K hK => ?_)
      refine goes_ Tryd.func16 (by kernel_rfl) rfl #[.agg #[.slice PX0 x0.length px0,.slice PX1 x1.length px1,.slice PX2 x2.length px2]] (by rfl) rfl rfl (by (try simp only [List.map_toArray,List.map_cons,List.map_nil]);first|done|rfl|(simp only [List.length_drop,List.length_take];rfl)) ?_
      (with_reducible refine (calls_okM Mx.out.om GO.out).mono ?_)
      rintro e wa ⟨rfl,hb_⟩
      refine ⟨_,rfl,?_⟩
      replace Ma:=Aside0.mk (Ma.out.below hb_);replace Mb:=Aside0.mk (Mb.out.below hb_);replace Mx:=Aside0.mk (Mx.out.below hb_);replace HB:=Aside0.mk (below_step HB.out hb_);clear hb_
      refine hK.out _ _ ⟨(blk_cell Mx.out.bx 0).trans rfl,(blk_cell Mx.out.bx 1).trans rfl,(blk_cell Mx.out.bx 2).trans rfl,(blk_cell Ma.out.bx 0).trans rfl,(blk_cell Ma.out.bx 1).trans rfl,(blk_cell Ma.out.bx 2).trans rfl,(blk_cell Mb.out.bx 0).trans rfl,(blk_cell Mb.out.bx 1).trans rfl,(blk_cell Mb.out.bx 2).trans rfl⟩ (fun hHeld => ?_);clear hK K
      refine norm_ (a':=?_) ?_ ?_;rotate_left
      ·
       show Act.put _ (some 74) _ = _
       simp only [Act.put,List.setIfInBounds_toArray,List.set_cons_zero,List.set_cons_succ,i64_w,i32_w]
       rfl
      refine pure_ (i:=2) (N:=some 75) (v:=?_) (a':=?_) #[true,true,true,false,false,false,false,false,false,false,false,false,false,false,false,false,false,false,false,false,false,false,false,false,false,false,false] rfl rfl (by kernel_rfl) (fun _ _ _ h => h) (Or.inl ⟨by rfl,?_⟩) ?_ ?_;rotate_left
      ·
       intro w'
       go_simp
       with_reducible rfl
      rotate_left
      ·
       simp only [Act.put,List.setIfInBounds_toArray,List.set_cons_zero,List.set_cons_succ,i64_w,i32_w]
       rfl
      refine take_ (i:=3) (N:=some 76) (v:=?_) (a':=?_) #[true,true,true,true,false,false,false,false,false,false,false,false,false,false,false,false,false,false,false,false,false,false,false,false,false,false,false] rfl rfl (by kernel_rfl) (fun _ _ _ h => h) (Or.inl ⟨by rfl,?_⟩) hHeld ?_ ?_;rotate_left
      ·
       rintro w' ⟨s0,s1,s2,s3,s4,s5,s6,s7,s8⟩
       go_simp
       with_reducible rfl
      rotate_left
      ·
       simp only [Act.put,List.setIfInBounds_toArray,List.set_cons_zero,List.set_cons_succ,i64_w,i32_w]
       rfl
      refine one_ (i:=4) (N:=some 77) #[true,true,true,true,true,false,false,false,false,false,false,false,false,false,false,false,false,false,false,false,false,false,false,false,false,false,false] rfl rfl (by kernel_rfl) (by decide) (fun K hK => ?_)
      refine goes_ Tryd.func8 (by kernel_rfl) rfl #[.agg #[.slice PA0 p0.length pa0,.slice PA1 p1.length pa1,.slice PA2 p2.length pa2]] (by rfl) rfl rfl (by (try simp only [List.map_toArray,List.map_cons,List.map_nil]);first|done|rfl|(simp only [List.length_drop,List.length_take];rfl)) ?_
      (with_reducible refine (calls_any Ma.out.om GA.out).mono ?_)
      rintro e wb ⟨rfl,hb_⟩
      refine ⟨_,rfl,?_⟩
      replace Ma:=Aside0.mk (Ma.out.below hb_);replace Mb:=Aside0.mk (Mb.out.below hb_);replace Mx:=Aside0.mk (Mx.out.below hb_);replace HB:=Aside0.mk (below_step HB.out hb_);clear hb_
      refine hK.out _ _ ⟨(blk_cell Mx.out.bx 0).trans rfl,(blk_cell Mx.out.bx 1).trans rfl,(blk_cell Mx.out.bx 2).trans rfl,(blk_cell Ma.out.bx 0).trans rfl,(blk_cell Ma.out.bx 1).trans rfl,(blk_cell Ma.out.bx 2).trans rfl,(blk_cell Mb.out.bx 0).trans rfl,(blk_cell Mb.out.bx 1).trans rfl,(blk_cell Mb.out.bx 2).trans rfl⟩ (fun hHeld => ?_);clear hK K
      refine norm_ (a':=?_) ?_ ?_;rotate_left
      ·
       show Act.put _ (some 77) _ = _
       simp only [Act.put,List.setIfInBounds_toArray,List.set_cons_zero,List.set_cons_succ,i64_w,i32_w]
       rfl
      refine pure_ (i:=5) (N:=some 78) (v:=?_) (a':=?_) #[true,true,true,true,true,true,false,false,false,false,false,false,false,false,false,false,false,false,false,false,false,false,false,false,false,false,false] rfl rfl (by kernel_rfl) (fun _ _ _ h => h) (Or.inl ⟨by rfl,?_⟩) ?_ ?_;rotate_left
      ·
       intro w'
       go_simp
       with_reducible rfl
      rotate_left
      ·
       simp only [Act.put,List.setIfInBounds_toArray,List.set_cons_zero,List.set_cons_succ,i64_w,i32_w]
       rfl
      refine pure_ (i:=6) (N:=some 79) (v:=?_) (a':=?_) #[true,true,true,true,true,true,true,false,false,false,false,false,false,false,false,false,false,false,false,false,false,false,false,false,false,false,false] rfl rfl (by kernel_rfl) (fun _ _ _ h => h) (Or.inl ⟨by rfl,?_⟩) ?_ ?_;rotate_left
      ·
       intro w'
       go_simp
       with_reducible rfl
      rotate_left
      ·
       simp only [Act.put,List.setIfInBounds_toArray,List.set_cons_zero,List.set_cons_succ,i64_w,i32_w]
       rfl
      refine take_ (i:=7) (N:=some 80) (v:=?_) (a':=?_) #[true,true,true,true,true,true,true,true,false,false,false,false,false,false,false,false,false,false,false,false,false,false,false,false,false,false,false] rfl rfl (by kernel_rfl) (fun _ _ _ h => h) (Or.inl ⟨by rfl,?_⟩) hHeld ?_ ?_;rotate_left
      ·
       rintro w' ⟨s0,s1,s2,s3,s4,s5,s6,s7,s8⟩
       go_simp
       with_reducible rfl
      rotate_left
      ·
       simp only [Act.put,List.setIfInBounds_toArray,List.set_cons_zero,List.set_cons_succ,i64_w,i32_w]
       rfl
      refine one_ (i:=8) (N:=some 81) #[true,true,true,true,true,true,true,true,true,false,false,false,false,false,false,false,false,false,false,false,false,false,false,false,false,false,false] rfl rfl (by kernel_rfl) (by decide) (fun K hK => ?_)
      refine goes_ Tryd.func8 (by kernel_rfl) rfl #[.agg #[.slice PB0 q0.length pb0,.slice PB1 q1.length pb1,.slice PB2 q2.length pb2]] (by rfl) rfl rfl (by (try simp only [List.map_toArray,List.map_cons,List.map_nil]);first|done|rfl|(simp only [List.length_drop,List.length_take];rfl)) ?_
      (with_reducible refine (calls_any Mb.out.om GB.out).mono ?_)
      rintro e we_ ⟨rfl,hb_⟩
      refine ⟨_,rfl,?_⟩
      replace Ma:=Aside0.mk (Ma.out.below hb_);replace Mb:=Aside0.mk (Mb.out.below hb_);replace Mx:=Aside0.mk (Mx.out.below hb_);replace HB:=Aside0.mk (below_step HB.out hb_);clear hb_
      refine hK.out _ _ ⟨(blk_cell Mx.out.bx 0).trans rfl,(blk_cell Mx.out.bx 1).trans rfl,(blk_cell Mx.out.bx 2).trans rfl,(blk_cell Ma.out.bx 0).trans rfl,(blk_cell Ma.out.bx 1).trans rfl,(blk_cell Ma.out.bx 2).trans rfl,(blk_cell Mb.out.bx 0).trans rfl,(blk_cell Mb.out.bx 1).trans rfl,(blk_cell Mb.out.bx 2).trans rfl⟩ (fun hHeld => ?_);clear hK K
      refine norm_ (a':=?_) ?_ ?_;rotate_left
      ·
       show Act.put _ (some 81) _ = _
       simp only [Act.put,List.setIfInBounds_toArray,List.set_cons_zero,List.set_cons_succ,i64_w,i32_w]
       rfl
      refine pure_ (i:=9) (N:=some 82) (v:=?_) (a':=?_) #[true,true,true,true,true,true,true,true,true,true,false,false,false,false,false,false,false,false,false,false,false,false,false,false,false,false,false] rfl rfl (by kernel_rfl) (fun _ _ _ h => h) (Or.inl ⟨by rfl,?_⟩) ?_ ?_;rotate_left
      ·
       intro w'
       go_simp
       with_reducible rfl
      rotate_left
      ·
       simp only [Act.put,List.setIfInBounds_toArray,List.set_cons_zero,List.set_cons_succ,i64_w,i32_w]
       rfl
      refine pure_ (i:=10) (N:=some 83) (v:=?_) (a':=?_) #[true,true,true,true,true,true,true,true,true,true,true,false,false,false,false,false,false,false,false,false,false,false,false,false,false,false,false] rfl rfl (by kernel_rfl) (fun _ _ _ h => h) (Or.inl ⟨by rfl,?_⟩) ?_ ?_;rotate_left
      ·
       intro w'
       go_simp
       with_reducible rfl
      rotate_left
      ·
       simp only [Act.put,List.setIfInBounds_toArray,List.set_cons_zero,List.set_cons_succ,i64_w,i32_w]
       rfl
      refine pure_ (i:=11) (N:=some 84) (v:=?_) (a':=?_) #[true,true,true,true,true,true,true,true,true,true,true,true,false,false,false,false,false,false,false,false,false,false,false,false,false,false,false] rfl rfl (by kernel_rfl) (fun _ _ _ h => h) (Or.inl ⟨by rfl,?_⟩) ?_ ?_;rotate_left
      ·
       intro w'
       go_simp
       with_reducible rfl
      rotate_left
      ·
       simp only [Act.put,List.setIfInBounds_toArray,List.set_cons_zero,List.set_cons_succ,i64_w,i32_w]
       rfl
      refine take_ (i:=12) (N:=some 85) (v:=?_) (a':=?_) #[true,true,true,true,true,true,true,true,true,true,true,true,true,false,false,false,false,false,false,false,false,false,false,false,false,false,false] rfl rfl (by kernel_rfl) (fun _ _ _ h => h) (Or.inl ⟨by rfl,?_⟩) hHeld ?_ ?_;rotate_left
      ·
       rintro w' ⟨s0,s1,s2,s3,s4,s5,s6,s7,s8⟩
       go_simp
       with_reducible rfl
      rotate_left
      ·
       simp only [Act.put,List.setIfInBounds_toArray,List.set_cons_zero,List.set_cons_succ,i64_w,i32_w]
       rfl
      refine one_ (i:=13) (N:=some 86) #[true,true,true,true,true,true,true,true,true,true,true,true,true,true,false,false,false,false,false,false,false,false,false,false,false,false,false] rfl rfl (by kernel_rfl) (by decide) (fun K hK => ?_)
      refine goes_ Tryd.func8 (by kernel_rfl) rfl #[.agg #[.slice PX0 x0.length px0,.slice PX1 x1.length px1,.slice PX2 x2.length px2]] (by rfl) rfl rfl (by (try simp only [List.map_toArray,List.map_cons,List.map_nil]);first|done|rfl|(simp only [List.length_drop,List.length_take];rfl)) ?_
      (with_reducible refine (calls_any Mx.out.om GAX.out).mono ?_)
      rintro e wf ⟨rfl,hb_⟩
      refine ⟨_,rfl,?_⟩
      replace Ma:=Aside0.mk (Ma.out.below hb_);replace Mb:=Aside0.mk (Mb.out.below hb_);replace Mx:=Aside0.mk (Mx.out.below hb_);replace HB:=Aside0.mk (below_step HB.out hb_);clear hb_
      refine hK.out _ _ ⟨(blk_cell Mx.out.bx 0).trans rfl,(blk_cell Mx.out.bx 1).trans rfl,(blk_cell Mx.out.bx 2).trans rfl,(blk_cell Ma.out.bx 0).trans rfl,(blk_cell Ma.out.bx 1).trans rfl,(blk_cell Ma.out.bx 2).trans rfl,(blk_cell Mb.out.bx 0).trans rfl,(blk_cell Mb.out.bx 1).trans rfl,(blk_cell Mb.out.bx 2).trans rfl⟩ (fun hHeld => ?_);clear hK K
      refine norm_ (a':=?_) ?_ ?_;rotate_left
      ·
       show Act.put _ (some 86) _ = _
       simp only [Act.put,List.setIfInBounds_toArray,List.set_cons_zero,List.set_cons_succ,i64_w,i32_w]
       rfl
      refine pure_ (i:=14) (N:=some 87) (v:=?_) (a':=?_) #[true,true,true,true,true,true,true,true,true,true,true,true,true,true,true,false,false,false,false,false,false,false,false,false,false,false,false] rfl rfl (by kernel_rfl) (fun _ _ _ h => h) (Or.inl ⟨by rfl,?_⟩) ?_ ?_;rotate_left
      ·
       intro w'
       go_simp
       with_reducible rfl
      rotate_left
      ·
       simp only [Act.put,List.setIfInBounds_toArray,List.set_cons_zero,List.set_cons_succ,i64_w,i32_w]
       rfl
      refine take_ (i:=15) (N:=some 88) (v:=?_) (a':=?_) #[true,true,true,true,true,true,true,true,true,true,true,true,true,true,true,true,false,false,false,false,false,false,false,false,false,false,false] rfl rfl (by kernel_rfl) (fun _ _ _ h => h) (Or.inl ⟨by rfl,?_⟩) hHeld ?_ ?_;rotate_left
      ·
       rintro w' ⟨s0,s1,s2,s3,s4,s5,s6,s7,s8⟩
       go_simp
       with_reducible rfl
      rotate_left
      ·
       simp only [Act.put,List.setIfInBounds_toArray,List.set_cons_zero,List.set_cons_succ,i64_w,i32_w]
       rfl
      refine take_ (i:=17) (N:=some 90) (v:=?_) (a':=?_) #[true,true,true,true,true,true,true,true,true,true,true,true,true,true,true,true,false,true,false,false,false,false,false,false,false,false,false] rfl rfl (by kernel_rfl) (fun _ _ _ h => h) (Or.inl ⟨by rfl,?_⟩) hHeld ?_ ?_;rotate_left
      ·
       rintro w' ⟨s0,s1,s2,s3,s4,s5,s6,s7,s8⟩
       go_simp
       with_reducible rfl
      rotate_left
      ·
       simp only [Act.put,List.setIfInBounds_toArray,List.set_cons_zero,List.set_cons_succ,i64_w,i32_w]
       rfl
      refine take_ (i:=19) (N:=some 92) (v:=?_) (a':=?_) #[true,true,true,true,true,true,true,true,true,true,true,true,true,true,true,true,false,true,false,true,false,false,false,false,false,false,false] rfl rfl (by kernel_rfl) (fun _ _ _ h => h) (Or.inl ⟨by rfl,?_⟩) hHeld ?_ ?_;rotate_left
      ·
       rintro w' ⟨s0,s1,s2,s3,s4,s5,s6,s7,s8⟩
       go_simp
       with_reducible rfl
      rotate_left
      ·
       simp only [Act.put,List.setIfInBounds_toArray,List.set_cons_zero,List.set_cons_succ,i64_w,i32_w]
       rfl
      refine one_ (i:=16) (N:=some 89) #[true,true,true,true,true,true,true,true,true,true,true,true,true,true,true,true,true,true,false,true,false,false,false,false,false,false,false] rfl rfl (by kernel_rfl) (by decide) (fun K hK => ?_)
      refine goes_ Tryd.func10 (by kernel_rfl) rfl #[.agg #[.slice PX0 x0.length px0,.slice PX1 x1.length px1,.slice PX2 x2.length px2]] (by rfl) rfl rfl (by (try simp only [List.map_toArray,List.map_cons,List.map_nil]);first|done|rfl|(simp only [List.length_drop,List.length_take];rfl)) ?_
      (with_reducible refine (calls_impl (w:=w) (below_size HB.out) Mx.out.om GTX.out).mono ?_)
      rintro e wh ⟨y_,rfl,rw_,_,hb_⟩
      refine ⟨_,rfl,?_⟩
      replace Ma:=Aside0.mk (Ma.out.below hb_);replace Mb:=Aside0.mk (Mb.out.below hb_);replace Mx:=Aside0.mk (Mx.out.below hb_);obtain ⟨RT_,rt,rfl,_,_⟩:=rw_.reads;have RT:=Aside0.mk rw_;clear rw_;replace HB:=Aside0.mk (below_step HB.out hb_);clear hb_
      refine hK.out _ _ ⟨(blk_cell Mx.out.bx 0).trans rfl,(blk_cell Mx.out.bx 1).trans rfl,(blk_cell Mx.out.bx 2).trans rfl,(blk_cell Ma.out.bx 0).trans rfl,(blk_cell Ma.out.bx 1).trans rfl,(blk_cell Ma.out.bx 2).trans rfl,(blk_cell Mb.out.bx 0).trans rfl,(blk_cell Mb.out.bx 1).trans rfl,(blk_cell Mb.out.bx 2).trans rfl⟩ (fun hHeld => ?_);clear hK K
      refine norm_ (a':=?_) ?_ ?_;rotate_left
      ·
       show Act.put _ (some 89) _ = _
       simp only [Act.put,List.setIfInBounds_toArray,List.set_cons_zero,List.set_cons_succ,i64_w,i32_w]
       rfl
      refine one_ (i:=18) (N:=some 91) #[true,true,true,true,true,true,true,true,true,true,true,true,true,true,true,true,true,true,true,true,false,false,false,false,false,false,false] rfl rfl (by kernel_rfl) (by decide) (fun K hK => ?_)
      refine goes_ Tryd.func10 (by kernel_rfl) rfl #[.agg #[.slice PA0 p0.length pa0,.slice PA1 p1.length pa1,.slice PA2 p2.length pa2]] (by rfl) rfl rfl (by (try simp only [List.map_toArray,List.map_cons,List.map_nil]);first|done|rfl|(simp only [List.length_drop,List.length_take];rfl)) ?_
      (with_reducible refine (calls_impl (w:=w) (below_size HB.out) Ma.out.om GTM.out).mono ?_)
      rintro e wi ⟨y_,rfl,rw_,_,hb_⟩
      refine ⟨_,rfl,?_⟩
      replace Ma:=Aside0.mk (Ma.out.below hb_);replace Mb:=Aside0.mk (Mb.out.below hb_);replace Mx:=Aside0.mk (Mx.out.below hb_);replace RT:=Aside0.mk (RT.out.below hb_);obtain ⟨RU_,ru,rfl,_,_⟩:=rw_.reads;have RU:=Aside0.mk rw_;clear rw_;replace HB:=Aside0.mk (below_step HB.out hb_);clear hb_
      refine hK.out _ _ ⟨(blk_cell Mx.out.bx 0).trans rfl,(blk_cell Mx.out.bx 1).trans rfl,(blk_cell Mx.out.bx 2).trans rfl,(blk_cell Ma.out.bx 0).trans rfl,(blk_cell Ma.out.bx 1).trans rfl,(blk_cell Ma.out.bx 2).trans rfl,(blk_cell Mb.out.bx 0).trans rfl,(blk_cell Mb.out.bx 1).trans rfl,(blk_cell Mb.out.bx 2).trans rfl⟩ (fun hHeld => ?_);clear hK K
      refine norm_ (a':=?_) ?_ ?_;rotate_left
      ·
       show Act.put _ (some 91) _ = _
       simp only [Act.put,List.setIfInBounds_toArray,List.set_cons_zero,List.set_cons_succ,i64_w,i32_w]
       rfl
      refine one_ (i:=20) (N:=some 93) #[true,true,true,true,true,true,true,true,true,true,true,true,true,true,true,true,true,true,true,true,true,false,false,false,false,false,false] rfl rfl (by kernel_rfl) (by decide) (fun K hK => ?_)
      refine goes_ Tryd.func10 (by kernel_rfl) rfl #[.agg #[.slice PB0 q0.length pb0,.slice PB1 q1.length pb1,.slice PB2 q2.length pb2]] (by rfl) rfl rfl (by (try simp only [List.map_toArray,List.map_cons,List.map_nil]);first|done|rfl|(simp only [List.length_drop,List.length_take];rfl)) ?_
      (with_reducible refine (calls_impl (w:=w) (below_size HB.out) Mb.out.om GTN.out).mono ?_)
      rintro e wj ⟨y_,rfl,rw_,_,hb_⟩
      refine ⟨_,rfl,?_⟩
      replace Ma:=Aside0.mk (Ma.out.below hb_);replace Mb:=Aside0.mk (Mb.out.below hb_);replace Mx:=Aside0.mk (Mx.out.below hb_);replace RT:=Aside0.mk (RT.out.below hb_);replace RU:=Aside0.mk (RU.out.below hb_);obtain ⟨RV_,rv,rfl,_,_⟩:=rw_.reads;have RV:=Aside0.mk rw_;clear rw_;replace HB:=Aside0.mk (below_step HB.out hb_);clear hb_
      refine hK.out _ _ ⟨(blk_cell Mx.out.bx 0).trans rfl,(blk_cell Mx.out.bx 1).trans rfl,(blk_cell Mx.out.bx 2).trans rfl,(blk_cell Ma.out.bx 0).trans rfl,(blk_cell Ma.out.bx 1).trans rfl,(blk_cell Ma.out.bx 2).trans rfl,(blk_cell Mb.out.bx 0).trans rfl,(blk_cell Mb.out.bx 1).trans rfl,(blk_cell Mb.out.bx 2).trans rfl⟩ (fun hHeld => ?_);clear hK K
      refine norm_ (a':=?_) ?_ ?_;rotate_left
      ·
       show Act.put _ (some 93) _ = _
       simp only [Act.put,List.setIfInBounds_toArray,List.set_cons_zero,List.set_cons_succ,i64_w,i32_w]
       rfl
      refine one_ (i:=21) (N:=some 94) #[true,true,true,true,true,true,true,true,true,true,true,true,true,true,true,true,true,true,true,true,true,true,false,false,false,false,false] rfl rfl (by kernel_rfl) (by decide) (fun K hK => ?_)
      refine goes_ Tryd.func18 (by kernel_rfl) rfl #[.slice RU_ U.length ru,.slice RV_ V.length rv] (by rfl) rfl rfl (by (try simp only [List.map_toArray,List.map_cons,List.map_nil]);first|done|rfl|(simp only [List.length_drop,List.length_take];rfl)) ?_
      (with_reducible refine (calls_bothOf (w:=w) (below_size HB.out) RU.out RV.out GBO.out).mono ?_)
      rintro e wk ⟨y_,rfl,rw_,_,hb_⟩
      refine ⟨_,rfl,?_⟩
      replace Ma:=Aside0.mk (Ma.out.below hb_);replace Mb:=Aside0.mk (Mb.out.below hb_);replace Mx:=Aside0.mk (Mx.out.below hb_);replace RT:=Aside0.mk (RT.out.below hb_);obtain ⟨RW_,rw,rfl,_,_⟩:=rw_.reads;have RQ:=Aside0.mk rw_;clear rw_;replace HB:=Aside0.mk (below_step HB.out hb_);clear hb_
      refine hK.out _ _ ⟨(blk_cell Mx.out.bx 0).trans rfl,(blk_cell Mx.out.bx 1).trans rfl,(blk_cell Mx.out.bx 2).trans rfl,(blk_cell Ma.out.bx 0).trans rfl,(blk_cell Ma.out.bx 1).trans rfl,(blk_cell Ma.out.bx 2).trans rfl,(blk_cell Mb.out.bx 0).trans rfl,(blk_cell Mb.out.bx 1).trans rfl,(blk_cell Mb.out.bx 2).trans rfl⟩ (fun hHeld => ?_);clear hK K
      refine norm_ (a':=?_) ?_ ?_;rotate_left
      ·
       show Act.put _ (some 94) _ = _
       simp only [Act.put,List.setIfInBounds_toArray,List.set_cons_zero,List.set_cons_succ,i64_w,i32_w]
       rfl
      refine one_ (i:=22) (N:=some 95) #[true,true,true,true,true,true,true,true,true,true,true,true,true,true,true,true,true,true,true,true,true,true,true,false,false,false,false] rfl rfl (by kernel_rfl) (by decide) (fun K hK => ?_)
      refine goes_ Tryd.func17 (by kernel_rfl) rfl #[.slice RT_ T.length rt,.slice RW_ T.length rw] (by rfl) rfl rfl (by (try simp only [List.map_toArray,List.map_cons,List.map_nil]);first|done|rfl|(simp only [List.length_drop,List.length_take];rfl)) ?_
      (with_reducible refine (calls_same RT.out RQ.out GE.out).mono ?_)
      rintro e wl ⟨rfl,hb_⟩
      refine ⟨_,rfl,?_⟩
      replace Ma:=Aside0.mk (Ma.out.below hb_);replace Mb:=Aside0.mk (Mb.out.below hb_);replace Mx:=Aside0.mk (Mx.out.below hb_);replace HB:=Aside0.mk (below_step HB.out hb_);clear hb_
      refine hK.out _ _ ⟨(blk_cell Mx.out.bx 0).trans rfl,(blk_cell Mx.out.bx 1).trans rfl,(blk_cell Mx.out.bx 2).trans rfl,(blk_cell Ma.out.bx 0).trans rfl,(blk_cell Ma.out.bx 1).trans rfl,(blk_cell Ma.out.bx 2).trans rfl,(blk_cell Mb.out.bx 0).trans rfl,(blk_cell Mb.out.bx 1).trans rfl,(blk_cell Mb.out.bx 2).trans rfl⟩ (fun hHeld => ?_);clear hK K
      refine norm_ (a':=?_) ?_ ?_;rotate_left
      ·
       show Act.put _ (some 95) _ = _
       simp only [Act.put,List.setIfInBounds_toArray,List.set_cons_zero,List.set_cons_succ,i64_w,i32_w]
       rfl
      refine pure_ (i:=23) (N:=some 96) (v:=?_) (a':=?_) #[true,true,true,true,true,true,true,true,true,true,true,true,true,true,true,true,true,true,true,true,true,true,true,true,false,false,false] rfl rfl (by kernel_rfl) (fun _ _ _ h => h) (Or.inl ⟨by rfl,?_⟩) ?_ ?_;rotate_left
      ·
       intro w'
       go_simp
       with_reducible rfl
      rotate_left
      ·
       simp only [Act.put,List.setIfInBounds_toArray,List.set_cons_zero,List.set_cons_succ,i64_w,i32_w]
       rfl
      refine pure_ (i:=24) (N:=some 97) (v:=?_) (a':=?_) #[true,true,true,true,true,true,true,true,true,true,true,true,true,true,true,true,true,true,true,true,true,true,true,true,true,false,false] rfl rfl (by kernel_rfl) (fun _ _ _ h => h) (Or.inl ⟨by rfl,?_⟩) ?_ ?_;rotate_left
      ·
       intro w'
       go_simp
       with_reducible rfl
      rotate_left
      ·
       simp only [Act.put,List.setIfInBounds_toArray,List.set_cons_zero,List.set_cons_succ,i64_w,i32_w]
       rfl
      refine pure_ (i:=25) (N:=some 98) (v:=?_) (a':=?_) #[true,true,true,true,true,true,true,true,true,true,true,true,true,true,true,true,true,true,true,true,true,true,true,true,true,true,false] rfl rfl (by kernel_rfl) (fun _ _ _ h => h) (Or.inl ⟨by rfl,?_⟩) ?_ ?_;rotate_left
      ·
       intro w'
       go_simp
       with_reducible rfl
      rotate_left
      ·
       simp only [Act.put,List.setIfInBounds_toArray,List.set_cons_zero,List.set_cons_succ,i64_w,i32_w]
       rfl
      refine pure_ (i:=26) (N:=some 4) (v:=?_) (a':=?_) #[true,true,true,true,true,true,true,true,true,true,true,true,true,true,true,true,true,true,true,true,true,true,true,true,true,true,true] rfl rfl (by kernel_rfl) (fun _ _ _ h => h) (Or.inl ⟨by rfl,?_⟩) ?_ ?_;rotate_left
      ·
       intro w'
       go_simp
       with_reducible rfl
      rotate_left
      ·
       simp only [Act.put,List.setIfInBounds_toArray,List.set_cons_zero,List.set_cons_succ,i64_w,i32_w]
       rfl
      refine done_ (by kernel_rfl) ?_
      go_wp2
      go_ret
      exact ⟨rfl,HB.out⟩
end Go.Proofs.YthodcgkhianecaaDoor.Man
