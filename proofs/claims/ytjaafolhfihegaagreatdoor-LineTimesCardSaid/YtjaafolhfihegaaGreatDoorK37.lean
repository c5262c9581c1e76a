/- A part of the proof: contracts of functions and plain laws (LtW). -/
import Derived.Test.YtjaafolhfihegaaGreatDoorK36
set_option linter.unusedVariables false
set_option linter.unusedSimpArgs false
set_option maxHeartbeats 25600000
set_option maxRecDepth 100000
namespace Go.Proofs.YtjaafolhfihegaaGreatDoor
open Go.RowKit Go.Maps
open List renaming setIfInBounds_toArray->bh7,set->bh8
theorem xS{w:World}{n k p0 p1 p2 p3:Int}{a b c:Nat}(hT:Tab w)(htb:1<w.heap.size)(ha:a<18446744073709551616)(hb:b<18446744073709551616)(hc:c<18446744073709551616):
 Calls Tryz.prog 4 #[curV n a b c,.int .i64 k,.agg #[.int .i64 p0,.int .i64 p1,.int .i64 p2,.int .i64 p3]] w (RetV w (.bool true)):=by
 obtain⟨w2,hw2,hb2,hs2,b1,b2⟩:=pro2 w (curO n a b c) (.cells #[.int .i64 p0,.int .i64 p1,.int .i64 p2,.int .i64 p3] 56);have HA:=hdd (afS (hT.below hb2) (Nat.lt_of_lt_of_le htb hb2.size));have HT:=hdd (And.intro hT htb);have HB2:=hdd hb2;have B1:=hdd b1;have B2:=hdd b2;obtain⟨r0,r1,r2,f0,f1,f2,hsm⟩:=ac7 (n:=n) ha hb hc;have HSM:=hdd hsm;obtain⟨c0,c1,c2,c3⟩:=aR b1;obtain⟨d0,d1,d2,d3⟩:=qN b1;clear hT htb hb2 hs2 b1 b2 hsm ha hb hc;have hst:=aZ;go_enter Tryz.func4,Tryz.ntmps4
 go_wp2_with fail
 refine HA.out.mono ?_;rintro e w3⟨rfl,hb3⟩;have HB3:=hdd (aC HB2.out hb3);have B13:=hdd (hbl B1.out hb3);have B23:=hdd (hbl B2.out hb3);clear c0 c1 c2 c3 d0 d1 d2 d3;obtain⟨c0,c1,c2,c3⟩:=aR B13.out;clear hb3 HA B1 B2 HB2 hw2;go_wp2_with fail
 refine(HSM.out _).mono ?_;rintro e w4⟨rfl,hb4⟩;have HB4:=hdd (HB3.out.trans (hb4.mono HB3.out.size));have B14:=hdd (hbl B13.out hb4);have B24:=hdd (hbl B23.out hb4);clear c0 c1 c2 c3 hb4 B13 B23 HB3;obtain⟨c0,c1,c2,c3⟩:=aR B14.out;obtain⟨d0,d1,d2,d3⟩:=qN B14.out;obtain⟨w5,hw5,hb5,hs5,q1,q2⟩:=zF (a:=.int .i64 n) (b:=.float .f64 r0) (c:=.float .f64 r1) (d:=.float .f64 r2) (k:=.int .i64 1) HB4.out nlr B14.out;have HB5:=hdd hb5;have Q1:=hdd q1;have Q2:Hid (w5.heap[w.heap.size+1]? =some (.cells #[.int .i64 p0,.int .i64 p1,.int .i64 p2,.int .i64 p3] 56)):=hdd ((q2 _ (by omega)).trans B24.out);by_cases hline:dH r0 r1 r2
 rotate_left
 . have HBAD:=hdd (wQ (w:=w5) f0.1 f1.1 f2.1 hline)
   clear f0 f1 f2 hline hb5 hs5 q2;obtain⟨e0,e1,e2,e3⟩:=aR q1;clear q1;go_wp2_with fail
   refine HBAD.out.mono ?_;rintro e w6⟨er,m,rfl,hm,he,hb6⟩;have HB6:=hdd (HB5.out.trans (hb6.mono HB5.out.size));obtain⟨et,ev,rfl⟩:∃t x,er=.iface t x:=by cases he<;>exact⟨_,_,rfl⟩
   clear he hm hb6;go_wp2;go_ret;exact⟨rfl,HB6.out⟩
 obtain⟨x0,hx0,y0⟩:=sO f0 hline.1.2;obtain⟨x1,hx1,y1⟩:=sO f1 hline.2.1.2;obtain⟨x2,hx2,y2⟩:=sO f2 hline.2.2.1.2;have hne:=afR hline y0 y1 y2;obtain⟨ka,kb,kc,mk1,mk2,mk3,mk4,mk5⟩:=anF (n:=7) k (by omega);obtain⟨KK,hKK⟩:∃z,z=1+kc:=⟨_,rfl⟩;have MK:=hdd (And.intro mk1 (And.intro mk2 (And.intro mk3 (alN (k:=KK) (by omega) hKK))));obtain⟨X0,mx,mx2,mx3⟩:=xQ (n:=20) p0 (by omega);obtain⟨Y0,my,my2,my3⟩:=xQ (n:=20) p1 (by omega);have MX:=hdd mx;have MY:=hdd my;have FX:Hid (FlOk (fl X0)/\FlOk (fl Y0)):=hdd ⟨xR (by omega),xR (by omega)⟩;have FE:=hdd (apV (T:=KK) (by omega));obtain⟨NW,hNW⟩:∃z,z=fl KK ^^^ 2^63:=⟨_,rfl⟩;have FO:Hid (Iw NW (-KK)):=hdd (by rw[hNW];exact ao7 FE.out);have hng:∀w,(Op.unary UnOp.neg (.float .f64 (fl KK))).run Tryz.prog w=.ok (.float .f64 NW) w:=fun w=>by rw[hNW];exact anH _ w
 have LF:Hid (FlOk r0/\FlOk r1/\FlOk r2):=hdd ⟨hline.1,hline.2.1,hline.2.2.1⟩;have LK:=hdd (oO (w:=w5) hline);have HHK:Hid ((1<=KK/\KK<=7)/\x0.natAbs<=256/\x1.natAbs<=256/\x2.natAbs<=256/\X0.natAbs<2^5/\Y0.natAbs<2^5/\(x0≠0\/x1≠0)/\Qw r0 x0/\Qw r1 x1/\Qw r2 x2):=hdd ⟨by omega,hx0,hx1,hx2,by omega,by omega,hne,y0,y1,y2⟩;obtain⟨e0,e1,e2,e3⟩:=aR q1;clear hNW f0 f1 f2 hline hb5 hs5 q1 q2 hx0 hx1 hx2 hne y0 y1 y2 mk1 mk2 mk3 mk4 mk5 hKK mx mx2 mx3 my my2 my3;go_wp2_with fail
 refine LK.out.mono ?_;rintro e w6⟨rfl,hb6⟩;have HB6:=hdd (HB5.out.trans (hb6.mono HB5.out.size));have HK6:Hid (∀p∈[(w.heap.size,curO 1 r0 r1 r2),(w.heap.size+1,(.cells #[.int .i64 p0,.int .i64 p1,.int .i64 p2,.int .i64 p3] 56))],w6.heap[p.1]? =some p.2/\w.heap.size<=p.1):=hdd fun p hp=>by
  simp only[List.mem_cons,List.not_mem_nil,or_false]at hp;rcases hp with rfl|rfl
  . exact⟨hbl Q1.out hb6,Nat.le_refl _⟩
  . exact⟨hbl Q2.out hb6,Nat.le_add_right _ _⟩
 have HN:=hdd (aaG (w0:=w) HB6.out HK6.out (by simp) HT.out.1 HT.out.2);clear hb6 hw5 e0 e1 e2 e3 c0 c1 c2 c3 d0 d1 d2 d3;go_wp2_with fail
 refine HN.out.mono ?_;rintro e W1⟨g,rfl,hR⟩;have R1:=hdd hR;clear hst hR HN HK6 Q1 Q2 HB5 HB6 B14 B24 HB4 LK;dsimp only;generalize w.heap.size+1=bp at R1|-
 go_upto_region 10 with fail
 refine Spec.run (S:=⟨_,fun i=>([.w (.c (.v (.int .i64 k))),.w (.c (.v (.int .i64 ka))),.w (.c (.v (.int .i64 kb))),.w (.c (.v (.int .i64 kc))),.w (.c (.v (.int .i64 KK))),.w (.c (.v (.float .f64 (fl KK)))),.w (.c (.v (.float .f64 (fl KK))))]:List SV).getD i noS,fun n=>([none,none]:List (Option Nat)).getD n none,
  [],[⟨0,29,[.v (.int .i64 1),.v (.float .f64 r0),.v (.float .f64 r1),.v (.float .f64 r2)],none⟩,⟨1,56,[.v (.int .i64 p0),.v (.int .i64 p1),.v (.int .i64 p2),.v (.int .i64 p3)],none⟩],
  fun i=>([0,0,0,0,0,0,0]:List Nat).getD i 0,fun i=>([[],[0],[0,1],[0,1,2],[0,1,2,3],[0,1,2,3,4],[0,1,2,3,4,5]]:List (List Nat)).getD i [],[(1,.w (.c (.v (.int .i64 k))))]⟩)
  (W:=runW (bs w) g) (ν0:=fun n=>([w.heap.size,bp]:List Nat).getD n 0) (c0:=0)
  (fs:=fun ν=>[(31,(.int .i64 k)),(32,(.int .i64 ka)),(33,(.int .i64 kb)),(34,(.int .i64 kc)),(35,(.int .i64 KK)),(36,(.float .f64 (fl KK))),(8,(.float .f64 (fl KK)))]) 7 0 [] []
  ⟨Spec.wf_of (by kernel_rfl),aU (by kernel_rfl),aM ⟨rfl,trivial⟩⟩ R1.out (Run.nodup R1.out) (by decide)
  (fun b hM=>aA (aA (aA (aA (aA (aA (aA aO
    (aB b))
    (aB b (hv:=fun ν w=>gL rfl rfl rfl rfl (MK.out.1 w))))
    (aB b (hv:=fun ν w=>gL rfl rfl rfl rfl (MK.out.2.1 w))))
    (aB b (hv:=fun ν w=>gL rfl rfl rfl rfl (MK.out.2.2.1 w))))
    (aB b (hv:=fun ν w=>gL rfl rfl rfl rfl (MK.out.2.2.2 w))))
    (aB b (hv:=fun ν w=>o6 rfl rfl (kM KK w))))
    (aB b)) ?_
 intro ν W2 hν hR;replace hR:Run (bs w) g 0 [] [((ν 0),.cells #[(.int .i64 1),(.float .f64 r0),(.float .f64 r1),(.float .f64 r2)] 29),((ν 1),.cells #[(.int .i64 p0),(.int .i64 p1),(.int .i64 p2),(.int .i64 p3)] 56)] W2:=hR;have e0:ν 0=w.heap.size:=hν 0 rfl;have e1:ν 1=bp:=hν 1 rfl;simp only[e0,e1]at hR|-;clear hν e0 e1;have R2:=hdd hR;clear hR R1;simp only[putL,bh7,bh8];by_cases hodd:(Go.bits BinOp.and IntKind.i64 k 1==1)=true
 rotate_left
 replace hodd:=Bool.eq_false_iff.2 hodd
 all_goals
  go_upto_region 13 with fail
  first
  |(have hs:(Go.bits BinOp.and IntKind.i64 k 1==1)=false:=hodd
    clear hs hng FO;have FT:Hid (∃T,(T≠0/\T.natAbs<=7)/\Iw (fl KK) T):=hdd ⟨KK,by have:=HHK.out.1;omega,FE.out⟩;generalize fl KK=tw at*)
  |(clear hng FE
    have FT:Hid (∃T,(T≠0/\T.natAbs<=7)/\Iw NW T):=hdd ⟨-KK,by have:=HHK.out.1;omega,FO.out⟩;generalize NW=tw at*)
  obtain⟨T,hT,hI⟩:=FT.out;obtain⟨-,hx0,hx1,hx2,hX,hY,hne,y0,y1,y2⟩:=HHK.out;have s0:=jY hT.2 hx0;have s1:=jY hT.2 hx1;have s2:=jY hT.2 hx2;obtain⟨a0,m0,z0⟩:=aeJ hI y0 (by omega);obtain⟨a1,m1,z1⟩:=aeJ hI y1 (by omega);obtain⟨a2,m2,z2⟩:=aeJ hI y2 (by omega);obtain⟨e2,m3,z3⟩:=anI z2 (by omega);have hne':T*x0≠0\/T*x1≠0:=hne.elim (fun h=>Or.inl (Int.mul_ne_zero hT.1 h)) (fun h=>Or.inr (Int.mul_ne_zero hT.1 h));have TT:=hdd (alH hI hT y0 y1 y2 z0 z1 z2 z3 hx0 hx1 hx2 hX hY hne);have NE:Hid ((4*x0).sign≠0\/(4*x1).sign≠0):=hdd (hne.imp afQ afQ);have LA:Hid (dH r0 r1 r2/\dH a0 a1 a2/\dH a0 a1 e2):=hdd ⟨aa0 y0 y1 y2 hne,aa0 z0 z1 z2 hne',aa0 z0 z1 z3 hne'⟩;have AF:Hid (FlOk a0/\FlOk a1/\FlOk a2):=hdd ⟨z0.ok,z1.ok,z2.ok⟩;have FW:Hid (FlOk tw):=hdd hI.1;have M0:Hid (∀w,(binOp .mul 27 (.float .f64 tw) (.float .f64 r0)).run Tryz.prog w=.ok (.float .f64 a0) w):=hdd fun w=>run_float_arith w .mul 27 .f64 tw r0 a0 m0;have M1:Hid (∀w,(binOp .mul 27 (.float .f64 tw) (.float .f64 r1)).run Tryz.prog w=.ok (.float .f64 a1) w):=hdd fun w=>run_float_arith w .mul 27 .f64 tw r1 a1 m1
  have M2:Hid (∀w,(binOp .mul 27 (.float .f64 tw) (.float .f64 r2)).run Tryz.prog w=.ok (.float .f64 a2) w):=hdd fun w=>run_float_arith w .mul 27 .f64 tw r2 a2 m2;have M3:Hid (∀w,(binOp .add 27 (.float .f64 a2) (.float .f64 4607182418800017408)).run Tryz.prog w=.ok (.float .f64 e2) w):=hdd fun w=>run_float_arith w .add 27 .f64 a2 4607182418800017408 e2 m3;clear FT HHK hT hI hx0 hx1 hx2 hX hY hne y0 y1 y2 s0 s1 s2 m0 z0 m1 z1 m2 z2 m3 z3 hne' hodd MK;refine Spec.run (S:=⟨_,fun i=>([.w (.c (.v (.float .f64 tw))),.w (.c (.ptr 0 1)),.w (.c (.v (.float .f64 r0))),.w (.c (.v (.float .f64 a0))),.w (.c (.v (.float .f64 tw))),.w (.c (.ptr 0 2)),.w (.c (.v (.float .f64 r1))),.w (.c (.v (.float .f64 a1))),.w (.c (.v (.float .f64 tw))),.w (.c (.ptr 0 3)),.w (.c (.v (.float .f64 r2))),.w (.c (.v (.float .f64 a2))),.w (.agg ([.v (Value.int IntKind.i64 1),.v (.float .f64 a0),.v (.float .f64 a1),.v (.float .f64 a2)])),.w (.c (.ptr 2 0)),noS]:List SV).getD i noS,fun n=>([none,none,some 13]:List (Option Nat)).getD n none,
   [],[⟨0,29,[.v (.int .i64 1),.v (.float .f64 r0),.v (.float .f64 r1),.v (.float .f64 r2)],none⟩,⟨1,56,[.v (.int .i64 p0),.v (.int .i64 p1),.v (.int .i64 p2),.v (.int .i64 p3)],none⟩,⟨2,29,[.v (.int .i64 0),.v (.float .f64 0),.v (.float .f64 0),.v (.float .f64 0)],some (14,[.v (Value.int IntKind.i64 1),.v (.float .f64 a0),.v (.float .f64 a1),.v (.float .f64 a2)])⟩],
   fun i=>([0,0,0,0,0,0,0,0,0,0,0,0,0,0,0]:List Nat).getD i 0,fun i=>([[],[],[1],[0,1,2],[],[],[5],[4,5,6],[],[],[9],[8,9,10],[0,1,2,3,4,5,6,7,8,9,10,11],[],[0,1,2,3,4,5,6,7,8,9,10,11,12,13]]:List (List Nat)).getD i [],[(8,.w (.c (.v (.float .f64 tw)))),(3,.w (.c (.ptr 0 0)))]⟩)
   (W:=runW (bs w) g) (ν0:=fun n=>([w.heap.size,bp]:List Nat).getD n 0) (c0:=0)
   (fs:=fun ν=>[(42,(.float .f64 tw)),(43,.pointer (some ⟨(ν 0),1,none⟩)),(44,(.float .f64 r0)),(45,(.float .f64 a0)),(46,(.float .f64 tw)),(47,.pointer (some ⟨(ν 0),2,none⟩)),(48,(.float .f64 r1)),(49,(.float .f64 a1)),(50,(.float .f64 tw)),(51,.pointer (some ⟨(ν 0),3,none⟩)),(52,(.float .f64 r2)),(53,(.float .f64 a2)),(54,.agg #[(Value.int IntKind.i64 1),(.float .f64 a0),(.float .f64 a1),(.float .f64 a2)]),(9,.pointer (some ⟨(ν 2),0,none⟩))]) 15 0 [] []
   ⟨Spec.wf_of (by kernel_rfl),aU (by kernel_rfl),aM ⟨rfl,rfl,trivial⟩⟩ R2.out (Run.nodup R2.out) (by decide)
   (fun b hM=>aA (aA (aA (aA (aA (aA (aA (aA (aA (aA (aA (aA (aA (aA (aA aO
     (aB b))
     (aB b))
     (aN b m0))
     (aB b (hv:=fun ν w=>gL rfl rfl rfl rfl (M0.out w))))
     (aB b))
     (aB b))
     (aN b m0))
     (aB b (hv:=fun ν w=>gL rfl rfl rfl rfl (M1.out w))))
     (aB b))
     (aB b))
     (aN b m0))
     (aB b (hv:=fun ν w=>gL rfl rfl rfl rfl (M2.out w))))
     (aB b))
     (aW b m2))
     (dB b 4 m2)) ?_
  intro ν W3 hν hR;replace hR:Run (bs w) g 0 [] [((ν 0),.cells #[(.int .i64 1),(.float .f64 r0),(.float .f64 r1),(.float .f64 r2)] 29),((ν 1),.cells #[(.int .i64 p0),(.int .i64 p1),(.int .i64 p2),(.int .i64 p3)] 56),((ν 2),.cells #[(Value.int IntKind.i64 1),(.float .f64 a0),(.float .f64 a1),(.float .f64 a2)] 29)] W3:=hR;have e0:ν 0=w.heap.size:=hν 0 rfl;have e1:ν 1=bp:=hν 1 rfl;simp only[e0,e1]at hR|-;clear hν e0 e1;generalize ν 2=b1 at hR|-;have R3:=hdd hR;clear hR R2;simp only[putL,bh7,bh8]
  go_upto_region 14 with fail
  refine Spec.run (S:=⟨_,fun i=>([.w (.c (.v (.float .f64 tw))),.w (.c (.ptr 0 1)),.w (.c (.v (.float .f64 r0))),.w (.c (.v (.float .f64 a0))),.w (.c (.v (.float .f64 tw))),.w (.c (.ptr 0 2)),.w (.c (.v (.float .f64 r1))),.w (.c (.v (.float .f64 a1))),.w (.c (.v (.float .f64 tw))),.w (.c (.ptr 0 3)),.w (.c (.v (.float .f64 r2))),.w (.c (.v (.float .f64 a2))),.w (.c (.v (.float .f64 e2))),.w (.agg ([.v (Value.int IntKind.i64 1),.v (.float .f64 a0),.v (.float .f64 a1),.v (.float .f64 e2)])),.w (.c (.ptr 3 0)),noS]:List SV).getD i noS,fun n=>([none,none,none,some 14]:List (Option Nat)).getD n none,
   [],[⟨0,29,[.v (.int .i64 1),.v (.float .f64 r0),.v (.float .f64 r1),.v (.float .f64 r2)],none⟩,⟨1,56,[.v (.int .i64 p0),.v (.int .i64 p1),.v (.int .i64 p2),.v (.int .i64 p3)],none⟩,⟨2,29,[.v (Value.int IntKind.i64 1),.v (.float .f64 a0),.v (.float .f64 a1),.v (.float .f64 a2)],none⟩,⟨3,29,[.v (.int .i64 0),.v (.float .f64 0),.v (.float .f64 0),.v (.float .f64 0)],some (15,[.v (Value.int IntKind.i64 1),.v (.float .f64 a0),.v (.float .f64 a1),.v (.float .f64 e2)])⟩],
   fun i=>([0,0,0,0,0,0,0,0,0,0,0,0,0,0,0,0]:List Nat).getD i 0,fun i=>([[],[],[1],[0,1,2],[],[],[5],[4,5,6],[],[],[9],[8,9,10],[8,9,10,11],[0,1,2,3,4,5,6,7,8,9,10,11,12],[],[0,1,2,3,4,5,6,7,8,9,10,11,12,13,14]]:List (List Nat)).getD i [],[(8,.w (.c (.v (.float .f64 tw)))),(3,.w (.c (.ptr 0 0)))]⟩)
   (W:=runW (bs w) g) (ν0:=fun n=>([w.heap.size,bp,b1]:List Nat).getD n 0) (c0:=0)
   (fs:=fun ν=>[(55,(.float .f64 tw)),(56,.pointer (some ⟨(ν 0),1,none⟩)),(57,(.float .f64 r0)),(58,(.float .f64 a0)),(59,(.float .f64 tw)),(60,.pointer (some ⟨(ν 0),2,none⟩)),(61,(.float .f64 r1)),(62,(.float .f64 a1)),(63,(.float .f64 tw)),(64,.pointer (some ⟨(ν 0),3,none⟩)),(65,(.float .f64 r2)),(66,(.float .f64 a2)),(67,(.float .f64 e2)),(68,.agg #[(Value.int IntKind.i64 1),(.float .f64 a0),(.float .f64 a1),(.float .f64 e2)]),(10,.pointer (some ⟨(ν 3),0,none⟩))]) 16 0 [] []
   ⟨Spec.wf_of (by kernel_rfl),aU (by kernel_rfl),aM ⟨rfl,rfl,trivial⟩⟩ R3.out (Run.nodup R3.out) (by decide)
   (fun b hM=>aA (aA (aA (aA (aA (aA (aA (aA (aA (aA (aA (aA (aA (aA (aA (aA aO
     (aB b))
     (aB b))
     (aN b m0))
     (aB b (hv:=fun ν w=>gL rfl rfl rfl rfl (M0.out w))))
     (aB b))
     (aB b))
     (aN b m0))
     (aB b (hv:=fun ν w=>gL rfl rfl rfl rfl (M1.out w))))
     (aB b))
     (aB b))
     (aN b m0))
     (aB b (hv:=fun ν w=>gL rfl rfl rfl rfl (M2.out w))))
     (aB b (hv:=fun ν w=>gL rfl rfl rfl rfl (M3.out w))))
     (aB b))
     (aW b m3))
     (dB b 4 m3)) ?_
  intro ν W4 hν hR;replace hR:Run (bs w) g 0 [] [((ν 0),.cells #[(.int .i64 1),(.float .f64 r0),(.float .f64 r1),(.float .f64 r2)] 29),((ν 1),.cells #[(.int .i64 p0),(.int .i64 p1),(.int .i64 p2),(.int .i64 p3)] 56),((ν 2),.cells #[(Value.int IntKind.i64 1),(.float .f64 a0),(.float .f64 a1),(.float .f64 a2)] 29),((ν 3),.cells #[(Value.int IntKind.i64 1),(.float .f64 a0),(.float .f64 a1),(.float .f64 e2)] 29)] W4:=hR;have e0:ν 0=w.heap.size:=hν 0 rfl;have e1:ν 1=bp:=hν 1 rfl;have e2:ν 2=b1:=hν 2 rfl;simp only[e0,e1,e2]at hR|-;clear hν e0 e1 e2;generalize ν 3=b2 at hR|-;have R4:=hdd hR;clear hR R3;simp only[putL,bh7,bh8]
  go_upto_region 15 with fail
  refine Spec.run (S:=⟨_,fun i=>([.w (.c (.v (.pointer (some ⟨g,0,none⟩)))),.w (.agg ([.v (.int .i64 1),.v (.float .f64 r0),.v (.float .f64 r1),.v (.float .f64 r2)])),.w (.agg ([.v (Value.int IntKind.i64 1),.v (.float .f64 a0),.v (.float .f64 a1),.v (.float .f64 a2)])),.tup [.c (.v (.bool true)),.c (.v .nilIface)],.tup [.c (.v (.bool true)),.c (.v .nilIface)],.w (.c (.v (.bool true))),.w (.c (.v .nilIface)),.w (.c (.v (.bool true))),.w (.c (.v .nilIface))]:List SV).getD i noS,fun n=>([none,none,none,none]:List (Option Nat)).getD n none,
   [],[⟨0,29,[.v (.int .i64 1),.v (.float .f64 r0),.v (.float .f64 r1),.v (.float .f64 r2)],none⟩,⟨1,56,[.v (.int .i64 p0),.v (.int .i64 p1),.v (.int .i64 p2),.v (.int .i64 p3)],none⟩,⟨2,29,[.v (Value.int IntKind.i64 1),.v (.float .f64 a0),.v (.float .f64 a1),.v (.float .f64 a2)],none⟩,⟨3,29,[.v (Value.int IntKind.i64 1),.v (.float .f64 a0),.v (.float .f64 a1),.v (.float .f64 e2)],none⟩],
   fun i=>([0,0,0,21,0,0,0,0,0]:List Nat).getD i 0,fun i=>([[],[],[],[0,1,2],[0,1,2,3],[0,1,2,3,4],[0,1,2,3,4],[0,1,2,3,4,5],[0,1,2,3,4,6]]:List (List Nat)).getD i [],[(7,.w (.c (.v (.pointer (some ⟨g,0,none⟩))))),(3,.w (.c (.ptr 0 0))),(9,.w (.c (.ptr 2 0)))]⟩)
   (W:=runW (bs w) g) (ν0:=fun n=>([w.heap.size,bp,b1,b2]:List Nat).getD n 0) (c0:=0)
   (fs:=fun ν=>[(70,.pointer (some ⟨g,0,none⟩)),(71,.agg #[(.int .i64 1),(.float .f64 r0),(.float .f64 r1),(.float .f64 r2)]),(72,.agg #[(Value.int IntKind.i64 1),(.float .f64 a0),(.float .f64 a1),(.float .f64 a2)]),(73,.tuple #[(.bool true),.nilIface]),(69,.tuple #[(.bool true),.nilIface]),(74,(.bool true)),(75,.nilIface),(11,(.bool true)),(12,.nilIface)]) 9 21 [] []
   ⟨Spec.wf_of (by kernel_rfl),aU (by kernel_rfl),aM ⟨rfl,rfl,rfl,trivial⟩⟩ R4.out (Run.nodup R4.out) (by decide)
   (fun b hM=>aA (aA (aA (aA (aA (aA (aA (aA (aA aO
     (aB b))
     (aP b 4 m0))
     (aP b 4 m2))
     (aI b (c_fn (ix:=[]) (ts:=[]) hM (fun ν=>anC LA.out.1 LA.out.2.1 TT.out.1 TT.out.2.1 TT.out.2.2.1))))
     (aB b))
     (aB b))
     (aB b))
     (aB b))
     (aB b)) ?_
  intro ν W5 hν hR;replace hR:Run (bs w) g 21 [] [((ν 0),.cells #[(.int .i64 1),(.float .f64 r0),(.float .f64 r1),(.float .f64 r2)] 29),((ν 1),.cells #[(.int .i64 p0),(.int .i64 p1),(.int .i64 p2),(.int .i64 p3)] 56),((ν 2),.cells #[(Value.int IntKind.i64 1),(.float .f64 a0),(.float .f64 a1),(.float .f64 a2)] 29),((ν 3),.cells #[(Value.int IntKind.i64 1),(.float .f64 a0),(.float .f64 a1),(.float .f64 e2)] 29)] W5:=hR;have e0:ν 0=w.heap.size:=hν 0 rfl;have e1:ν 1=bp:=hν 1 rfl;have e2:ν 2=b1:=hν 2 rfl;have e3:ν 3=b2:=hν 3 rfl;simp only[e0,e1,e2,e3]at hR|-;clear hν e0 e1 e2 e3;have R5:=hdd hR;clear hR R4;simp only[putL,bh7,bh8]
  go_upto_region 16 with fail
  refine Spec.run (S:=⟨_,fun i=>([.w (.c (.v (.pointer (some ⟨g,0,none⟩)))),.w (.agg ([.v (.int .i64 1),.v (.float .f64 r0),.v (.float .f64 r1),.v (.float .f64 r2)])),.w (.agg ([.v (Value.int IntKind.i64 1),.v (.float .f64 a0),.v (.float .f64 a1),.v (.float .f64 e2)])),.tup [.c (.v (.bool true)),.c (.v .nilIface)],.tup [.c (.v (.bool true)),.c (.v .nilIface)],.w (.c (.v (.bool true))),.w (.c (.v .nilIface)),.w (.c (.v (.bool true))),.w (.c (.v .nilIface))]:List SV).getD i noS,fun n=>([none,none,none,none]:List (Option Nat)).getD n none,
   [],[⟨0,29,[.v (.int .i64 1),.v (.float .f64 r0),.v (.float .f64 r1),.v (.float .f64 r2)],none⟩,⟨1,56,[.v (.int .i64 p0),.v (.int .i64 p1),.v (.int .i64 p2),.v (.int .i64 p3)],none⟩,⟨2,29,[.v (Value.int IntKind.i64 1),.v (.float .f64 a0),.v (.float .f64 a1),.v (.float .f64 a2)],none⟩,⟨3,29,[.v (Value.int IntKind.i64 1),.v (.float .f64 a0),.v (.float .f64 a1),.v (.float .f64 e2)],none⟩],
   fun i=>([0,0,0,7,0,0,0,0,0]:List Nat).getD i 0,fun i=>([[],[],[],[0,1,2],[0,1,2,3],[0,1,2,3,4],[0,1,2,3,4],[0,1,2,3,4,5],[0,1,2,3,4,6]]:List (List Nat)).getD i [],[(7,.w (.c (.v (.pointer (some ⟨g,0,none⟩))))),(3,.w (.c (.ptr 0 0))),(10,.w (.c (.ptr 3 0)))]⟩)
   (W:=runW (bs w) g) (ν0:=fun n=>([w.heap.size,bp,b1,b2]:List Nat).getD n 0) (c0:=21)
   (fs:=fun ν=>[(77,.pointer (some ⟨g,0,none⟩)),(78,.agg #[(.int .i64 1),(.float .f64 r0),(.float .f64 r1),(.float .f64 r2)]),(79,.agg #[(Value.int IntKind.i64 1),(.float .f64 a0),(.float .f64 a1),(.float .f64 e2)]),(80,.tuple #[(.bool true),.nilIface]),(76,.tuple #[(.bool true),.nilIface]),(81,(.bool true)),(82,.nilIface),(13,(.bool true)),(14,.nilIface)]) 9 28 [] []
   ⟨Spec.wf_of (by kernel_rfl),aU (by kernel_rfl),aM ⟨rfl,rfl,rfl,trivial⟩⟩ R5.out (Run.nodup R5.out) (by decide)
   (fun b hM=>aA (aA (aA (aA (aA (aA (aA (aA (aA aO
     (aB b))
     (aP b 4 m0))
     (aP b 4 m3))
     (aI b (c_fn (ix:=[]) (ts:=[]) hM (fun ν=>nZ LA.out.1 LA.out.2.2 TT.out.1 (q:=0) (r:=true) rfl))))
     (aB b))
     (aB b))
     (aB b))
     (aB b))
     (aB b)) ?_
  intro ν W6 hν hR;replace hR:Run (bs w) g 28 [] [((ν 0),.cells #[(.int .i64 1),(.float .f64 r0),(.float .f64 r1),(.float .f64 r2)] 29),((ν 1),.cells #[(.int .i64 p0),(.int .i64 p1),(.int .i64 p2),(.int .i64 p3)] 56),((ν 2),.cells #[(Value.int IntKind.i64 1),(.float .f64 a0),(.float .f64 a1),(.float .f64 a2)] 29),((ν 3),.cells #[(Value.int IntKind.i64 1),(.float .f64 a0),(.float .f64 a1),(.float .f64 e2)] 29)] W6:=hR;have e0:ν 0=w.heap.size:=hν 0 rfl;have e1:ν 1=bp:=hν 1 rfl;have e2:ν 2=b1:=hν 2 rfl;have e3:ν 3=b2:=hν 3 rfl;simp only[e0,e1,e2,e3]at hR|-;clear hν e0 e1 e2 e3;have R6:=hdd hR;clear hR R5;simp only[putL,bh7,bh8]
  go_upto_region 17 with fail
  refine Spec.run (S:=⟨_,fun i=>([.w (.c (.v (.pointer (some ⟨g,0,none⟩)))),.w (.agg ([.v (.int .i64 1),.v (.float .f64 r0),.v (.float .f64 r1),.v (.float .f64 r2)])),.w (.agg ([.v (Value.int IntKind.i64 1),.v (.float .f64 a0),.v (.float .f64 a1),.v (.float .f64 e2)])),.tup [.c (.v (.bool false)),.c (.v .nilIface)],.tup [.c (.v (.bool false)),.c (.v .nilIface)],.w (.c (.v (.bool false))),.w (.c (.v .nilIface)),.w (.c (.v (.bool false))),.w (.c (.v .nilIface))]:List SV).getD i noS,fun n=>([none,none,none,none]:List (Option Nat)).getD n none,
   [],[⟨0,29,[.v (.int .i64 1),.v (.float .f64 r0),.v (.float .f64 r1),.v (.float .f64 r2)],none⟩,⟨1,56,[.v (.int .i64 p0),.v (.int .i64 p1),.v (.int .i64 p2),.v (.int .i64 p3)],none⟩,⟨2,29,[.v (Value.int IntKind.i64 1),.v (.float .f64 a0),.v (.float .f64 a1),.v (.float .f64 a2)],none⟩,⟨3,29,[.v (Value.int IntKind.i64 1),.v (.float .f64 a0),.v (.float .f64 a1),.v (.float .f64 e2)],none⟩],
   fun i=>([0,0,0,21,0,0,0,0,0]:List Nat).getD i 0,fun i=>([[],[],[],[0,1,2],[0,1,2,3],[0,1,2,3,4],[0,1,2,3,4],[0,1,2,3,4,5],[0,1,2,3,4,6]]:List (List Nat)).getD i [],[(7,.w (.c (.v (.pointer (some ⟨g,0,none⟩))))),(3,.w (.c (.ptr 0 0))),(10,.w (.c (.ptr 3 0)))]⟩)
   (W:=runW (bs w) g) (ν0:=fun n=>([w.heap.size,bp,b1,b2]:List Nat).getD n 0) (c0:=28)
   (fs:=fun ν=>[(84,.pointer (some ⟨g,0,none⟩)),(85,.agg #[(.int .i64 1),(.float .f64 r0),(.float .f64 r1),(.float .f64 r2)]),(86,.agg #[(Value.int IntKind.i64 1),(.float .f64 a0),(.float .f64 a1),(.float .f64 e2)]),(87,.tuple #[(.bool false),.nilIface]),(83,.tuple #[(.bool false),.nilIface]),(88,(.bool false)),(89,.nilIface),(15,(.bool false)),(16,.nilIface)]) 9 49 [] []
   ⟨Spec.wf_of (by kernel_rfl),aU (by kernel_rfl),aM ⟨rfl,rfl,rfl,trivial⟩⟩ R6.out (Run.nodup R6.out) (by decide)
   (fun b hM=>aA (aA (aA (aA (aA (aA (aA (aA (aA aO
     (aB b))
     (aP b 4 m0))
     (aP b 4 m3))
     (aI b (c_fn (ix:=[]) (ts:=[]) hM (fun ν=>anG LA.out.1 LA.out.2.2 TT.out.1 TT.out.2.2.2.1 TT.out.2.2.2.2.1 NE.out))))
     (aB b))
     (aB b))
     (aB b))
     (aB b))
     (aB b)) ?_
  intro ν W7 hν hR;replace hR:Run (bs w) g 49 [] [((ν 0),.cells #[(.int .i64 1),(.float .f64 r0),(.float .f64 r1),(.float .f64 r2)] 29),((ν 1),.cells #[(.int .i64 p0),(.int .i64 p1),(.int .i64 p2),(.int .i64 p3)] 56),((ν 2),.cells #[(Value.int IntKind.i64 1),(.float .f64 a0),(.float .f64 a1),(.float .f64 a2)] 29),((ν 3),.cells #[(Value.int IntKind.i64 1),(.float .f64 a0),(.float .f64 a1),(.float .f64 e2)] 29)] W7:=hR;have e0:ν 0=w.heap.size:=hν 0 rfl;have e1:ν 1=bp:=hν 1 rfl;have e2:ν 2=b1:=hν 2 rfl;have e3:ν 3=b2:=hν 3 rfl;simp only[e0,e1,e2,e3]at hR|-;clear hν e0 e1 e2 e3;have R7:=hdd hR;clear hR R6;simp only[putL,bh7,bh8]
  go_upto_region 18 with fail
  refine Spec.run (S:=⟨_,fun i=>([.w (.c (.v (.pointer (some ⟨g,0,none⟩)))),.w (.c (.ptr 1 0)),.w (.c (.v (.int .i64 p0))),.w (.c (.v (.int .i64 X0))),.w (.c (.v (.float .f64 (fl X0)))),.w (.c (.ptr 1 1)),.w (.c (.v (.int .i64 p1))),.w (.c (.v (.int .i64 Y0))),.w (.c (.v (.float .f64 (fl Y0)))),fA g 3 4,.w (.c (.ptr 5 0)),noS]:List SV).getD i noS,fun n=>([none,none,none,some 9,some 9,some 10]:List (Option Nat)).getD n none,
   [(3,(.leaf (fl X0))),(4,(.leaf (fl Y0)))],[⟨0,29,[.v (.int .i64 1),.v (.float .f64 r0),.v (.float .f64 r1),.v (.float .f64 r2)],none⟩,⟨1,56,[.v (.int .i64 p0),.v (.int .i64 p1),.v (.int .i64 p2),.v (.int .i64 p3)],none⟩,⟨2,29,[.v (Value.int IntKind.i64 1),.v (.float .f64 a0),.v (.float .f64 a1),.v (.float .f64 a2)],none⟩,⟨5,33,[.v (.pointer none),.v (.int .i64 0),.v (.pointer none),.v (.int .i64 0)],some (11,dL g 3 4)⟩],
   fun i=>([0,0,0,0,0,0,0,0,0,2,0,0]:List Nat).getD i 0,fun i=>([[],[],[1],[1,2],[1,2,3],[],[5],[5,6],[5,6,7],[0,1,2,3,4,5,6,7,8],[],[0,1,2,3,4,5,6,7,8,9,10]]:List (List Nat)).getD i [],[(7,.w (.c (.v (.pointer (some ⟨g,0,none⟩))))),(5,.w (.c (.ptr 1 0)))]⟩)
   (W:=runW (bs w) g) (ν0:=fun n=>([w.heap.size,bp,b1]:List Nat).getD n 0) (c0:=49)
   (fs:=fun ν=>[(90,.pointer (some ⟨g,0,none⟩)),(91,.pointer (some ⟨(ν 1),0,none⟩)),(92,(.int .i64 p0)),(93,(.int .i64 X0)),(94,(.float .f64 (fl X0))),(95,.pointer (some ⟨(ν 1),1,none⟩)),(96,(.int .i64 p1)),(97,(.int .i64 Y0)),(98,(.float .f64 (fl Y0))),(99,bP g (ν 3) (ν 4)),(17,.pointer (some ⟨(ν 5),0,none⟩))]) 12 51 [] [true,true,true,false]
   ⟨Spec.wf_of (by kernel_rfl),aU (by kernel_rfl),aM ⟨rfl,rfl,trivial⟩⟩ R7.out (Run.nodup R7.out) (by decide)
   (fun b hM=>aA (aA (aA (aA (aA (aA (aA (aA (aA (aA (aA (aA aO
     (aB b))
     (aB b))
     (aN b m1))
     (aB b (hv:=fun ν w=>gL rfl rfl rfl rfl (MX.out w))))
     (aB b (hv:=fun ν w=>o6 rfl rfl (kM X0 w))))
     (aB b))
     (aN b m1))
     (aB b (hv:=fun ν w=>gL rfl rfl rfl rfl (MY.out w))))
     (aB b (hv:=fun ν w=>o6 rfl rfl (kM Y0 w))))
     (aI b (c_at hM FX.out.1.1 FX.out.2.1 FX.out.1.2 FX.out.2.2 rfl rfl rfl rfl (by decide) rfl)))
     (aW b m3))
     (dB b 4 m3)) ?_
  intro ν W8 hν hR;replace hR:Run (bs w) g 51 [((.leaf (fl X0)),ν 3),((.leaf (fl Y0)),ν 4)] [((ν 0),.cells #[(.int .i64 1),(.float .f64 r0),(.float .f64 r1),(.float .f64 r2)] 29),((ν 1),.cells #[(.int .i64 p0),(.int .i64 p1),(.int .i64 p2),(.int .i64 p3)] 56),((ν 2),.cells #[(Value.int IntKind.i64 1),(.float .f64 a0),(.float .f64 a1),(.float .f64 a2)] 29),((ν 5),dS g (ν 3) (ν 4))] W8:=hR;have e0:ν 0=w.heap.size:=hν 0 rfl;have e1:ν 1=bp:=hν 1 rfl;have e2:ν 2=b1:=hν 2 rfl;simp only[e0,e1,e2]at hR|-;clear hν e0 e1 e2;generalize ν 3=n3 at hR|-;generalize ν 4=n4 at hR|-;generalize ν 5=b5 at hR|-;have R8:=hdd hR;clear hR R7;simp only[putL,bh7,bh8]
  go_upto_region 19 with fail
  refine Spec.run (S:=⟨_,fun i=>([.w (.c (.v (.pointer (some ⟨g,0,none⟩)))),.w (.agg ([.v (.int .i64 1),.v (.float .f64 r0),.v (.float .f64 r1),.v (.float .f64 r2)])),fA g 2 3,numS g 5,.w (.c (.v (.pointer (some ⟨g,0,none⟩)))),.w (.c (.v (.float .f64 tw))),numS g 6,.w (.c (.sl 7 1)),numS g 8,.w (.c (.v (.pointer (some ⟨g,0,none⟩)))),.w (.agg ([.v (Value.int IntKind.i64 1),.v (.float .f64 a0),.v (.float .f64 a1),.v (.float .f64 a2)])),fA g 2 3,numS g 9,.tup [.c (.v (.int .i64 0)),.c (.v .nilIface)],.tup [.c (.v (.int .i64 0)),.c (.v .nilIface)],.w (.c (.v (.int .i64 0))),.w (.c (.v .nilIface)),.w (.c (.v (.int .i64 0))),.w (.c (.v .nilIface))]:List SV).getD i noS,fun n=>([none,none,none,none,none,some 3,some 6,some 7,some 8,some 12]:List (Option Nat)).getD n none,
   [(2,(.leaf (fl X0))),(3,(.leaf (fl Y0))),(5,(fB (.leaf (fl X0)) (.leaf (fl Y0)) r0 r1 r2)),(6,(.leaf tw)),(8,(.mul (fB (.leaf (fl X0)) (.leaf (fl Y0)) r0 r1 r2) (.leaf tw))),(9,(fB (.leaf (fl X0)) (.leaf (fl Y0)) a0 a1 a2))],[⟨0,29,[.v (.int .i64 1),.v (.float .f64 r0),.v (.float .f64 r1),.v (.float .f64 r2)],none⟩,⟨1,29,[.v (Value.int IntKind.i64 1),.v (.float .f64 a0),.v (.float .f64 a1),.v (.float .f64 a2)],none⟩,⟨4,33,dL g 2 3,none⟩,⟨7,31,numC g 6,none⟩],
   fun i=>([0,0,0,7,0,0,1,0,1,0,0,0,7,1,0,0,0,0,0]:List Nat).getD i 0,fun i=>([[],[],[],[0,1,2],[],[],[4,5],[4,5,6],[0,1,2,3,4,5,6,7],[],[],[],[9,10,11],[0,1,2,3,4,5,6,7,8,9,10,11,12],[0,1,2,3,4,5,6,7,8,9,10,11,12,13],[0,1,2,3,4,5,6,7,8,9,10,11,12,13,14],[0,1,2,3,4,5,6,7,8,9,10,11,12,13,14],[0,1,2,3,4,5,6,7,8,9,10,11,12,13,14,15],[0,1,2,3,4,5,6,7,8,9,10,11,12,13,14,16]]:List (List Nat)).getD i [],[(7,.w (.c (.v (.pointer (some ⟨g,0,none⟩))))),(3,.w (.c (.ptr 0 0))),(17,.w (.c (.ptr 4 0))),(8,.w (.c (.v (.float .f64 tw)))),(9,.w (.c (.ptr 1 0)))]⟩)
   (W:=runW (bs w) g) (ν0:=fun n=>([w.heap.size,b1,n3,n4,b5]:List Nat).getD n 0) (c0:=51)
   (fs:=fun ν=>[(101,.pointer (some ⟨g,0,none⟩)),(102,.agg #[(.int .i64 1),(.float .f64 r0),(.float .f64 r1),(.float .f64 r2)]),(103,bP g (ν 2) (ν 3)),(104,numV g (ν 5)),(105,.pointer (some ⟨g,0,none⟩)),(106,(.float .f64 tw)),(107,numV g (ν 6)),(108,.slice (some ⟨(ν 7),0,none⟩) 1 1),(109,numV g (ν 8)),(110,.pointer (some ⟨g,0,none⟩)),(111,.agg #[(Value.int IntKind.i64 1),(.float .f64 a0),(.float .f64 a1),(.float .f64 a2)]),(112,bP g (ν 2) (ν 3)),(113,numV g (ν 9)),(114,.tuple #[(.int .i64 0),.nilIface]),(100,.tuple #[(.int .i64 0),.nilIface]),(115,(.int .i64 0)),(116,.nilIface),(18,(.int .i64 0)),(19,.nilIface)]) 19 68 [] [true,false]
   ⟨Spec.wf_of (by kernel_rfl),aU (by kernel_rfl),aM ⟨rfl,rfl,rfl,rfl,rfl,trivial⟩⟩ R8.out (Run.nodup R8.out) (by decide)
   (fun b hM=>aA (aA (aA (aA (aA (aA (aA (aA (aA (aA (aA (aA (aA (aA (aA (aA (aA (aA (aA aO
     (aB b))
     (aP b 4 m0))
     (aP b 4 m2))
     (aI b (c_fn (ix:=[0,1]) (ts:=[5]) hM (fun ν=>mM (ca:=r0) (cb:=r1) (cc:=r2) ⟨LF.out.1.1,LF.out.1.2⟩ ⟨LF.out.2.1.1,LF.out.2.1.2⟩ ⟨LF.out.2.2.1,LF.out.2.2.2⟩))))
     (aB b))
     (aB b))
     (aI b (c_of hM FW.out.1 FW.out.2 rfl rfl rfl rfl)))
     (dY b m3))
     (aI b (lM hM m2 m3 rfl rfl m3 rfl rfl rfl rfl rfl rfl rfl rfl)))
     (aB b))
     (aP b 4 m1))
     (aP b 4 m2))
     (aI b (c_fn (ix:=[0,1]) (ts:=[9]) hM (fun ν=>mM (ca:=a0) (cb:=a1) (cc:=a2) ⟨AF.out.1.1,AF.out.1.2⟩ ⟨AF.out.2.1.1,AF.out.2.1.2⟩ ⟨AF.out.2.2.1,AF.out.2.2.2⟩))))
     (aI b (anT hM m4 m5 rfl rfl rfl rfl rfl TT.out.2.2.2.2.2)))
     (aB b))
     (aB b))
     (aB b))
     (aB b))
     (aB b)) ?_
  intro ν W9 hν hR;replace hR:Run (bs w) g 68 [((.leaf (fl X0)),ν 2),((.leaf (fl Y0)),ν 3),((fB (.leaf (fl X0)) (.leaf (fl Y0)) r0 r1 r2),ν 5),((.leaf tw),ν 6),((.mul (fB (.leaf (fl X0)) (.leaf (fl Y0)) r0 r1 r2) (.leaf tw)),ν 8),((fB (.leaf (fl X0)) (.leaf (fl Y0)) a0 a1 a2),ν 9)] [((ν 0),.cells #[(.int .i64 1),(.float .f64 r0),(.float .f64 r1),(.float .f64 r2)] 29),((ν 1),.cells #[(Value.int IntKind.i64 1),(.float .f64 a0),(.float .f64 a1),(.float .f64 a2)] 29),((ν 4),dS g (ν 2) (ν 3)),((ν 7),numO g (ν 6))] W9:=hR;have e0:ν 0=w.heap.size:=hν 0 rfl;have e1:ν 1=b1:=hν 1 rfl;have e2:ν 2=n3:=hν 2 rfl;have e3:ν 3=n4:=hν 3 rfl;have e4:ν 4=b5:=hν 4 rfl;simp only[e0,e1,e2,e3,e4]at hR|-;clear hν e0 e1 e2 e3 e4;generalize ν 5=n6 at hR|-;generalize ν 6=n7 at hR|-;generalize ν 7=b8 at hR|-;generalize ν 8=n9 at hR|-;generalize ν 9=n10 at hR|-;have R9:=hdd hR;clear hR R8;simp only[putL,bh7,bh8];have HB:=hdd R9.out.below;clear R9;go_wp2;go_ret;exact⟨rfl,HB.out⟩
end Go.Proofs.YtjaafolhfihegaaGreatDoor
