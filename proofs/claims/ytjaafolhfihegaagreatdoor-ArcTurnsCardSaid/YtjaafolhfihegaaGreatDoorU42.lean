/- A part of the proof: contracts of functions and plain laws (AlvT, TuD, MkB). -/
import Derived.Test.YtjaafolhfihegaaGreatDoorU41
import Derived.Test.YtjaafolhfihegaaGreatDoorU18
import Derived.Laws.StructEq
set_option linter.unusedVariables false
set_option linter.unusedSimpArgs false
set_option maxHeartbeats 25600000
set_option maxRecDepth 100000
namespace Go.Proofs.YtjaafolhfihegaaGreatDoor
open Go.RowKit Go.Maps Go.Stop Go.Extern
open List renaming mem_cons_of_mem->bi0,nodup_cons->bi2,setIfInBounds_toArray->bi3,map_cons->bi4,mem_cons->bi5,map_nil->bi6,set->bi7
open Nat renaming le_add_right->bi1
variable{kd:Int}{g i j k l wa wb wc:Nat}{W w:World}
theorem iv_2:Iw 4611686018427387904 2:=⟨⟨by decide,by decide⟩,by kernel_rfl⟩
theorem iv_0:Iw 0 0:=⟨al2,aqH⟩
theorem xW:mE 0 4607182418800017408 0:=⟨al2,iw_1.1,al2,Or.inr (aqL iw_1 (by decide))⟩
theorem zU:qA g (arcW g 1 0 4607182418800017408 0 i j k l) [(.leaf 0,i),(.leaf 0,j),(.leaf 4611686018427387904,k),(.leaf 0,l)] true/\FnOk 16 g 20 #[.pointer (some ⟨g,0,none⟩),arcW g 1 0 4607182418800017408 0 i j k l] [(.leaf 0,i),(.leaf 0,j),(.leaf 0,k),(.leaf 0,l)] (fun _=>.iface 135 (.int .i64 4)) []:=
 ⟨kH (uS (s1:=0) (s2:=0) (c:=-1) xW (pG (A:=0) (B:=1) (C:=0) (X:=0) (Y:=0) iv_0 iw_1 iv_0 iv_0 iv_0 (by decide) (by decide) (by decide) (by decide) (by decide)) (pG (A:=0) (B:=1) (C:=0) (X:=2) (Y:=0) iv_0 iw_1 iv_0 iv_2 iv_0 (by decide) (by decide) (by decide) (by decide) (by decide)) (nW iv_0 iv_0 iv_2 iv_0 (by decide) (by decide) (by decide) (by decide))) (by omega),
  (uS (s1:=0) (s2:=0) (c:=0) xW (pG (A:=0) (B:=1) (C:=0) (X:=0) (Y:=0) iv_0 iw_1 iv_0 iv_0 iv_0 (by decide) (by decide) (by decide) (by decide) (by decide)) (pG (A:=0) (B:=1) (C:=0) (X:=0) (Y:=0) iv_0 iw_1 iv_0 iv_0 iv_0 (by decide) (by decide) (by decide) (by decide) (by decide)) (nW iv_0 iv_0 iv_0 iv_0 (by decide) (by decide) (by decide) (by decide)))⟩
theorem alive_is:Calls Tryz.prog 49 #[.iface 135 (.int .i64 4),.iface 135 (.int .i64 4)] w (fun e w'=>e=.returned (.bool true)/\w'=w):=by
 have h:=apB (w:=w) (S:=fun _=>False) (n:=0) (k:=4) (j:=4) (ErK.kind (by decide) (by decide));exact h
theorem an7(hT:Tab w)(htb:1<w.heap.size):
 Calls Tryz.prog 12 #[] w (RetV w (.bool true)):=by
 have HN:=hdd (afN (l:=[]) (Below.refl w.heap.size w) (fun p hp=>by cases hp) (by simp) hT htb);clear hT htb;go_enter Tryz.func12,Tryz.ntmps12
 go_wp2_with fail
 refine HN.out.mono ?_;rintro e W1⟨g,rfl,hR⟩;have R1:=hdd hR;clear hR HN;dsimp only
 go_upto_region 4 with fail
 refine Spec.go [.w (.c (.v (.pointer (some ⟨g,0,none⟩)))),dA g 0 1,.w (.c (.v (.pointer (some ⟨g,0,none⟩)))),dA g 2 3,.w (.c (.ptr 4 0)),.w (.c (.ptr 5 0)),noS,noS] [1,1,3,3,4,5]
  [(0,(.leaf 0)),(1,(.leaf 0)),(2,(.leaf 4611686018427387904)),(3,(.leaf 0))] [⟨4,33,[.v (.pointer none),.v (.int .i64 0),.v (.pointer none),.v (.int .i64 0)],some (6,bF g 0 1)⟩,⟨5,33,[.v (.pointer none),.v (.int .i64 0),.v (.pointer none),.v (.int .i64 0)],some (7,bF g 2 3)⟩]
  [0,2,0,2,0,0,0,0] [[],[0],[],[2],[],[],rgn 6,rgn 7] [(1,.w (.c (.v (.pointer (some ⟨g,0,none⟩)))))]
  [9,10,11,12,3,4,0,0] [] 8 4 [] [] R1.out
  (fun b hM=>aB (aB (aB (aB (aB (aB (aB (aB aN
    (aF b))
    (bD b (c_at hM (by decide) (by decide) (by decide) (by decide) rfl rfl rfl rfl (by decide) rfl)))
    (aF b))
    (bD b (c_at hM (by decide) (by decide) (by decide) (by decide) rfl rfl rfl rfl (by decide) rfl)))
    (bC b m0))
    (bC b m1))
    (dD b 4 m0))
    (dD b 4 m1)) ?_
 intro n1 n2 n3 n4 b5 b6 ν W2 hR;have R2:=hdd hR;clear hR R1;simp only[putL,bi3,bi7,fs0,fs1,fsn,dSw,dSt,dWc,dWa,dv,di,dp,ds',bi4,bi6,nuTn,nuT0,nuT1,nuU0,nuU1,dA12,dP8,dP24,dF]
 go_upto_region 5 with fail
 refine Spec.go [.w (.agg ([.v (Value.int IntKind.i64 1),.v (.float .f64 0),.v (Value.float FloatKind.f64 4607182418800017408),.v (.float .f64 0)])),.w (.c (.ptr 6 0)),noS] [1]
  [(0,(.leaf 0)),(1,(.leaf 0)),(2,(.leaf 4611686018427387904)),(3,(.leaf 0))] [⟨4,33,bF g 0 1,none⟩,⟨5,33,bF g 2 3,none⟩,⟨6,29,curC 0 0 0 0,some (2,[.v (Value.int IntKind.i64 1),.v (.float .f64 0),.v (Value.float FloatKind.f64 4607182418800017408),.v (.float .f64 0)])⟩]
  [0,0,0] [[],[],[0,1]] []
  [13,5,0] [n1,n2,n3,n4,b5,b6] 3 4 [] [] R2.out
  (fun b hM=>aB (aB (aB aN
    (aF b))
    (bC b m2))
    (dD b 4 m2)) ?_
 intro b7 ν W3 hR;replace hR:Run (bs w) g 4 [((.leaf 0),n1),((.leaf 0),n2),((.leaf 4611686018427387904),n3),((.leaf 0),n4)] [(b5,iL g n1 n2),(b6,iL g n3 n4),(b7,.cells #[(Value.int IntKind.i64 1),.float .f64 0,(Value.float FloatKind.f64 4607182418800017408),.float .f64 0] 29)] W3:=hR;have R3:=hdd hR;clear hR R2;simp only[putL,bi3,bi7,fs0,fs1,fsn,dSw,dSt,dWc,dWa,dv,di,dp,ds',bi4,bi6,nuTn,nuT0,nuT1,nuU0,nuU1,dA12,dP8,dP24,dF];obtain⟨c0,c1,c2,c3⟩:=aL (R3.out.at m2);obtain⟨d0,d1,d2,d3⟩:=aL (R3.out.at m0);obtain⟨e0,e1,e2,e3⟩:=aL (R3.out.at m1)
 go_upto_region 6 with fail
 go_wp2_with fail
 refine(zU.1 _ _ _ _ _ R3.out (by omega) (fP [0,1,2,3])).mono ?_;rintro e w4⟨r1,rfl,hr1,-,hR4⟩;obtain rfl:=hr1 rfl;have R4:=hdd hR4;clear c0 c1 c2 c3 d0 d1 d2 d3 e0 e1 e2 e3;obtain⟨c0,c1,c2,c3⟩:=aL (R4.out.at m2);obtain⟨d0,d1,d2,d3⟩:=aL (R4.out.at m0);obtain⟨e0,e1,e2,e3⟩:=aL (R4.out.at m1);clear hR4 R3;go_wp2_with fail
 refine(zU.2 _ _ _ _ _ R4.out (by omega) (fP [0,1,0,1])).mono ?_;rintro e w5⟨ks,-,rfl,hR5⟩;have HB:=hdd (Run.below hR5);have HI:Hid (∀w',Calls Tryz.prog 50 #[] w' (fun e w2=>e=.returned (.iface 135 (.int .i64 4))/\w'=w2)):=hdd fun w'=>rD;clear hR5 R4;go_wp2_with fail
 refine(HI.out _).mono ?_;rintro e w6⟨rfl,rfl⟩;go_wp2_with fail
 refine alive_is.mono ?_;rintro e w7⟨rfl,rfl⟩;go_wp2;go_ret;exact⟨rfl,HB.out⟩
theorem al8{S:Spec Ex}{w0:Bs}{c0:Nat}{f:FuncId}{args:(Nat->Nat)->Array Value}(_hM:c0+S.total<=20000)(hc:S.cost i=0)(hk:S.made i=[])(h:∀ν w,Calls Tryz.prog f (args ν) w (RetV w ((S.val i).den ν))):iM S w0 g c0 i f args:=by
 intro lst ν c w hD hl hG;refine(h ν w).mono ?_;rintro e w'⟨rfl,hb⟩;exact⟨ν,fun _ _=>rfl,rfl,by rw[hc];exact ret0 hk (Run.step hG hb)⟩
theorem xX{a:Nat}(h:FlOk a):(FloatKind.f64.format.order a a==some Ordering.eq)=true:=by
 rw[jY h.2.num h.2.num];exact decide_eq_true rfl
theorem apW(d a b:Nat)(w:World):(Op.equalIn (d+1) 27 (.float .f64 a) (.float .f64 b)).run Tryz.prog w=.ok (FloatKind.f64.format.order a b==some Ordering.eq) w:=by
 simp[Op.equalIn,run_underlying Tryz.underlying27];rfl
theorem apX(d:Nat)(a:Addr)(w:World):(Op.equalIn (d+1) 25 (.pointer (some a)) (.pointer (some a))).run Tryz.prog w=.ok true w:=by
 simp[Op.equalIn,run_underlying afI];exact run_sameAddr_same _ _
theorem an8{m:Nat}(h1:FlOk wa)(h2:FlOk wb)(h3:FlOk wc)(w:World):(binOp .neq 35 (arcW g kd wa wb wc i j k m) (arcW g kd wa wb wc i j k m)).run Tryz.prog w=.ok (.bool false) w:=by
 have e1:=xX h1;have e2:=xX h2;have e3:=xX h3;simp only[run_neq_struct];rw[run_equalIn_agg w 9999 35 _ _ (by kernel_rfl) (by kernel_rfl)];simp[go_sem,Program.fieldsOf,Tryz.underlying35,apW 9997,apX 9996,e1,e2,e3]
theorem adM(h:kd=2):Calls Tryz.prog 15 #[arcW g kd wa wb wc i j k l] W (RetV W (arcW g kd wa wb wc i j k l)):=by subst h;exact adH
theorem adN(h:kd=1):Calls Tryz.prog 15 #[arcW g kd wa wb wc i j k l] W (RetV W (arcW g kd wa wb wc k l i j)):=by subst h;exact adI
theorem al9{s:Bs}{N bb n:Nat}{K:List (Ex×Nat)}{l ln:List (Nat×Obj)}{O:Obj}{r:Bool}{X Y U V I Kk oo:Int}{wx wy p0 p1 q0 q1 P0 Q1:Nat}(hR:Run s g N K ((bb,O)::(ln++l)) W)(hB:BrdB bb n ln O)(hN:N+4<=20000)(hn:n<900)(hM:adK X Y U V I Kk wx wy r kd wa wb wc p0 p1 q0 q1)(hO:adL oo p0 q1 P0 Q1)(f0:FlOk P0)(f1:FlOk p1)(f2:FlOk q0)(f3:FlOk Q1)(hr:r=false):
 Calls Tryz.prog 14 #[aW r X Y U V I Kk oo,.pointer (some ⟨g,0,none⟩),.pointer (some ⟨bb,0,none⟩)] W (fun e W'=>∃(i j k m:Nat) (O':Obj) (ln':List (Nat×Obj)),e=.returned (.tuple #[arcW g kd wa wb wc i j k m,refW kd wa wb wc n])/\BrdB bb (n+4) ln' O'/\Run s g (N+4) ((.leaf P0,i)::(.leaf p1,j)::(.leaf q0,k)::(.leaf Q1,m)::K) ((bb,O')::(ln'++l)) W'):=by
 obtain⟨w3,hw3,hb3,hs3,b1,b2,b3⟩:=pro3 W (aP r X Y U V I Kk oo) (.cells #[.int .i64 0,.float .f64 0,.float .f64 0,.float .f64 0,.pointer none,.int .i64 0,.pointer none,.int .i64 0,.pointer none,.int .i64 0,.pointer none,.int .i64 0] 35) (.cells #[.int .i64 0,.float .f64 0,.float .f64 0,.float .f64 0,.int .i64 0,.int .i64 0,.int .i64 0,.int .i64 0] 39);have C1:∀k v,[.bool r,.int .i64 X,.int .i64 Y,.int .i64 U,.int .i64 V,.int .i64 I,.int .i64 Kk,.int .i64 oo][k]? =some v->w3.cell? ⟨W.heap.size,k,none⟩=some v:=fun k v h=>aA b1 h;have c0:=C1 0 _ rfl;have c1:=C1 1 _ rfl;have c2:=C1 2 _ rfl;have c3:=C1 3 _ rfl;have c4:=C1 4 _ rfl;have c5:=C1 5 _ rfl;have c6:=C1 6 _ rfl;have c7:=C1 7 _ rfl;have HR:=hdd hR;have HB:=hdd hB;have HB3:=hdd hb3;have B1:=hdd b1;have B2:=hdd b2;have B3:=hdd b3;have FF:=hdd (And.intro f0 (And.intro f1 (And.intro f2 f3)));obtain⟨hx,hy,hM⟩:=hM;obtain⟨o,ho,hO⟩:=hO;have HO:=hdd hO;have HM:=hdd hM;replace hr:=hdd hr;clear hR hB hb3 b1 b2 b3 C1 f0 f1 f2 f3 hM hO;have hst:=aQ
 go_enter Tryz.func14,Tryz.ntmps14
 go_wp2_with fail
 go_quiet (fail)
 obtain⟨v3,hv3⟩:∃v,w3.drewN nq=v:=⟨_,rfl⟩;have hx':floatOfInt FloatKind.f64 (X.tmod 7)=wx:=hx;have hy':floatOfInt FloatKind.f64 (Y.tmod 7)=wy:=hy;simp only[hv3,hx',hy'];have hh:v3.heap=w3.heap:=by rw[<-hv3];rfl
 have D1:=B1.out;have D2:=B2.out;have D3:=B3.out;rw[<-hh]at D1 D2 D3;replace D1:=hdd D1;replace D2:=hdd D2;replace D3:=hdd D3;have HV:Hid (Below W.heap.size W v3):=hdd (by rw[<-hv3];exact⟨HB3.out.os,HB3.out.tape,HB3.out.output,HB3.out.size,HB3.out.block⟩);have hvs:v3.heap.size=W.heap.size+3:=by rw[hh];exact hs3
 clear hh hw3 hs3 c0 c1 c2 c3 c4 c5 c6 c7 hv3 hx hy hx' hy' B1 B2 B3 HB3;clear nq;obtain⟨w5,hw5,hb5,hs5,b4,b5⟩:=pro2 v3 (curO 0 0 0 0) (.cells #[.float .f64 0,.float .f64 0,.float .f64 0,.float .f64 0] 100);rw[hvs]at b4 b5;have E1:=hdd (hbl D1.out hb5);have E2:=hdd (hbl D2.out hb5);have E3:=hdd (hbl D3.out hb5);have E4:=hdd b4;have E5:=hdd b5;have H5:=hdd (aC HV.out hb5);have C1:∀k v,[.bool r,.int .i64 X,.int .i64 Y,.int .i64 U,.int .i64 V,.int .i64 I,.int .i64 Kk,.int .i64 oo][k]? =some v->w5.cell? ⟨W.heap.size,k,none⟩=some v:=fun k v h=>aA E1.out h;have c0:=C1 0 _ rfl;have c1:=C1 1 _ rfl;have c2:=C1 2 _ rfl;have c3:=C1 3 _ rfl;have c4:=C1 4 _ rfl;have c5:=C1 5 _ rfl;have c6:=C1 6 _ rfl;have c7:=C1 7 _ rfl;obtain⟨d0,d1,d2,d3⟩:=aL b4;obtain⟨e0,e1,e2,e3⟩:=nD b4;clear D1 D2 D3 HV hb5 b4 b5 C1 w3;rcases HM.out with ⟨rfl,hk,hwa,hwb,hwc,J,L,hJ,hI,hL,hK,a1,a2,a3,a4⟩|⟨rfl,hk,wu,ws,wt,zz1,zz2,a1,a2,b1,b2,hu,hv,hwb,n1,n2,n3,hs,ht,o1,o2,o3,o4,o5,o6,o7,o8⟩
 . exact absurd hr.out (by decide)
 clear hr;clear HM;have hu':floatOfInt FloatKind.f64 (U.tmod 4)=wu:=hu;have hv':floatOfInt FloatKind.f64 (V.tmod 4)=wa:=hv;have hs':floatOfInt FloatKind.f64 (I.tmod 6)=ws:=hs;have ht':floatOfInt FloatKind.f64 (Kk.tmod 6)=wt:=ht;have hng:=al3;clear hu hv hs ht;go_wp2_with fail
 go_quiet (fail)
 obtain⟨v5,hv5⟩:∃v,w5.drewN nq=v:=⟨_,rfl⟩;simp only[hv5,hu',hv'];have hh:v5.heap=w5.heap:=by rw[<-hv5];rfl
 have D1:=E1.out;have D2:=E2.out;have D3:=E3.out;have D4:=E4.out;have D5:=E5.out;rw[<-hh]at D1 D2 D3 D4 D5;replace E1:=hdd D1;replace E2:=hdd D2;replace E3:=hdd D3;replace E4:=hdd D4;replace E5:=hdd D5;replace H5:Hid (Below W.heap.size W v5):=hdd (by rw[<-hv5];exact⟨H5.out.os,H5.out.tape,H5.out.output,H5.out.size,H5.out.block⟩);clear hh hv5 D1 D2 D3 D5 c0 c1 c2 c3 c4 c5 c6 c7 d0 d1 d2 d3 e0 e1 e2 e3 nq;have C1:∀k v,[.bool false,.int .i64 X,.int .i64 Y,.int .i64 U,.int .i64 V,.int .i64 I,.int .i64 Kk,.int .i64 oo][k]? =some v->v5.cell? ⟨W.heap.size,k,none⟩=some v:=fun k v h=>aA E1.out h;have c0:=C1 0 _ rfl;have c1:=C1 1 _ rfl;have c2:=C1 2 _ rfl;have c3:=C1 3 _ rfl;have c4:=C1 4 _ rfl;have c5:=C1 5 _ rfl;have c6:=C1 6 _ rfl;have c7:=C1 7 _ rfl;obtain⟨d0,d1,d2,d3⟩:=aL D4;obtain⟨e0,e1,e2,e3⟩:=nD D4;clear C1 D4 hu' hv';go_wp2_with (simp only[hng,n1,n2,n3])
 obtain⟨w6,hw6,hb6,q1,q2⟩:=adG (a:=.int .i64 1) (b:=.float .f64 wa) (c:=.float .f64 (wu ^^^ 2^63)) (d:=.float .f64 wc) H5.out (bi1 _ 3) E4.out;simp only[hw6];have G1:=hdd ((q2 (W.heap.size) (by omega)).trans E1.out);have G2:=hdd ((q2 (W.heap.size+1) (by omega)).trans E2.out);have G3:=hdd ((q2 (W.heap.size+2) (by omega)).trans E3.out);have G5:=hdd ((q2 (W.heap.size+4) (by omega)).trans E5.out);have G4:=hdd q1;have H6:=hdd hb6;clear c0 c1 c2 c3 c4 c5 c6 c7 d0 d1 d2 d3 e0 e1 e2 e3 E1 E2 E3 E4 E5 H5 hb6 q1 q2 hw6;have hix0:=ixp0 I Kk;have hix1:=ixp1 I Kk;refine wp_loop_rounds 3 ?_;rw[rounds_succ];have I1:=G1;have I2:=G2;have I3:=G3;have I4:=G4;have I5:=G5;have H7:=H6;obtain⟨d0,d1,d2,d3⟩:=aL I5.out;obtain⟨e0,e1,e2,e3⟩:=nD I5.out;clear G1 G2 G3 G4 G5 H6;go_wp2_with (simp only[hs',o1,o2,o3,o4])
 obtain⟨w8,hw8,hb8,r1,r2⟩:=al4 (a:=.float .f64 p0) (b:=.float .f64 p1) H7.out (show W.heap.size<=W.heap.size+3+1 by omega) I5.out;simp only[hw8];have G1:=hdd ((r2 (W.heap.size) (by omega)).trans I1.out);have G2:=hdd ((r2 (W.heap.size+1) (by omega)).trans I2.out);have G3:=hdd ((r2 (W.heap.size+2) (by omega)).trans I3.out);have G4:=hdd ((r2 (W.heap.size+3) (by omega)).trans I4.out);have G5:=hdd r1;have H8:=hdd hb8;clear d0 d1 d2 d3 e0 e1 e2 e3 I1 I2 I3 I4 I5 H7 hb8 r1 r2 hw8;rw[rounds_succ];have I1:=G1;have I2:=G2;have I3:=G3;have I4:=G4;have I5:=G5;have H9:=H8;obtain⟨d0,d1,d2,d3⟩:=aL I5.out;obtain⟨e0,e1,e2,e3⟩:=nD I5.out;clear G1 G2 G3 G4 G5 H8;go_wp2_with (simp only[ht',o5,o6,o7,o8])
 obtain⟨wz,hwz,hbz,r1,r2⟩:=al5 (a:=.float .f64 q0) (b:=.float .f64 q1) H9.out (show W.heap.size<=W.heap.size+3+1 by omega) I5.out;simp only[hwz];have G1:=hdd ((r2 (W.heap.size) (by omega)).trans I1.out);have G2:=hdd ((r2 (W.heap.size+1) (by omega)).trans I2.out);have G3:=hdd ((r2 (W.heap.size+2) (by omega)).trans I3.out);have G4:=hdd ((r2 (W.heap.size+3) (by omega)).trans I4.out);have G5:=hdd r1;have HA:=hdd hbz;clear d0 d1 d2 d3 e0 e1 e2 e3 I1 I2 I3 I4 I5 H9 hbz r1 r2 hwz;replace G4:Hid (wz.heap[W.heap.size+3]? =some (curO kd wa wb wc)):=hdd (by rw[hk,hwb];exact G4.out);clear hng n1 n2 n3 o1 o2 o3 o4 o5 o6 o7 o8 hs' ht' hk hwb;have c7:=aA (k:=7) (v:=.int .i64 oo) G1.out rfl;rcases HO.out with ⟨k1,k2,k3,rfl⟩|⟨k1,k2,rfl,k3⟩|⟨k1,k2,rfl,rfl⟩;have e0:=aA (k:=0) (v:=.float .f64 p0) G5.out rfl;have z5:=gY G5.out;rw[rounds_succ];go_wp2_with (simp only[ho,k1,k2,k3])
 obtain⟨wv,hwv,hbv,r1,r2⟩:=vD (k:=0) (a:=.float .f64 P0) HA.out (show W.heap.size<=W.heap.size+3+1 by omega) (cs:=[.float .f64 p0,.float .f64 p1,.float .f64 q0,.float .f64 Q1]) G5.out;simp only[hwv];have J1:=hdd ((r2 (W.heap.size) (by omega)).trans G1.out);have J2:=hdd ((r2 (W.heap.size+1) (by omega)).trans G2.out);have J3:=hdd ((r2 (W.heap.size+2) (by omega)).trans G3.out);have J4:=hdd ((r2 (W.heap.size+3) (by omega)).trans G4.out);have J5:=hdd r1;have HC:=hdd hbv;clear e0 z5 G1 G2 G3 G4 G5 HA r1 r2 hbv hwv
 rotate_left
 have e3:=aA (k:=3) (v:=.float .f64 q1) G5.out rfl;have z5:=gY G5.out;rw[rounds_succ];go_wp2_with (simp only[ho,k1,k2,k3])
 obtain⟨wv,hwv,hbv,r1,r2⟩:=vD (k:=3) (a:=.float .f64 Q1) HA.out (show W.heap.size<=W.heap.size+3+1 by omega) (cs:=[.float .f64 P0,.float .f64 p1,.float .f64 q0,.float .f64 q1]) G5.out;simp only[hwv];have J1:=hdd ((r2 (W.heap.size) (by omega)).trans G1.out);have J2:=hdd ((r2 (W.heap.size+1) (by omega)).trans G2.out);have J3:=hdd ((r2 (W.heap.size+2) (by omega)).trans G3.out);have J4:=hdd ((r2 (W.heap.size+3) (by omega)).trans G4.out);have J5:=hdd r1;have HC:=hdd hbv;clear e3 z5 G1 G2 G3 G4 G5 HA r1 r2 hbv hwv
 rotate_left
 rw[rounds_succ];go_wp2_with (simp only[ho,k1,k2])
 have J1:=G1;have J2:=G2;have J3:=G3;have J4:=G4;have J5:=G5;have HC:=HA;clear G1 G2 G3 G4 G5 HA;generalize wz=wv at c7 J1 J2 J3 J4 J5 HC|-
 all_goals (
  clear c7 k1 k2 ho;have HD:Below W.heap.size W wv.drew:=⟨HC.out.os,HC.out.tape,HC.out.output,HC.out.size,HC.out.block⟩;have R0:=hdd ((HR.out.keeps HD [(W.heap.size+1,.cells #[.int .i64 0,.float .f64 0,.float .f64 0,.float .f64 0,.pointer none,.int .i64 0,.pointer none,.int .i64 0,.pointer none,.int .i64 0,.pointer none,.int .i64 0] 35),(W.heap.size+2,.cells #[.int .i64 0,.float .f64 0,.float .f64 0,.float .f64 0,.int .i64 0,.int .i64 0,.int .i64 0,.int .i64 0] 39),(W.heap.size+3,curO kd wa wb wc),(W.heap.size+4,.cells #[.float .f64 P0,.float .f64 p1,.float .f64 q0,.float .f64 Q1] 100)] (by
   intro p hp;simp only[bi5,List.not_mem_nil,or_false]at hp;rcases hp with rfl|rfl|rfl|rfl
   . exact⟨J2.out,bi1 _ _⟩
   . exact⟨J3.out,bi1 _ _⟩
   . exact⟨J4.out,bi1 _ _⟩
   . exact⟨J5.out,bi1 _ _⟩) (by simp)).perm acJ)
  have SP1:=hdd (R0.out.spot (by omega) FF.out.1.1 FF.out.2.1.1 FF.out.1.2 FF.out.2.1.2);have Q4:=R0.out.at (m_lb m2);have Q5:=R0.out.at (m_lb m3);have d0:=aA (k:=0) (v:=.int .i64 kd) Q4 rfl;have d1:=aA (k:=1) (v:=.float .f64 wa) Q4 rfl;have d2:=aA (k:=2) (v:=.float .f64 wb) Q4 rfl;have d3:=aA (k:=3) (v:=.float .f64 wc) Q4 rfl;have e0:=aA (k:=0) (v:=.float .f64 P0) Q5 rfl;have e1:=aA (k:=1) (v:=.float .f64 p1) Q5 rfl;have e2:=aA (k:=2) (v:=.float .f64 q0) Q5 rfl;have e3:=aA (k:=3) (v:=.float .f64 Q1) Q5 rfl;clear Q4 Q5 HD
  go_region_held3 (fun w'=>w'.cell? ⟨W.heap.size+3,0,none⟩=some (.int .i64 kd)/\w'.cell? ⟨W.heap.size+3,1,none⟩=some (.float .f64 wa)/\w'.cell? ⟨W.heap.size+3,2,none⟩=some (.float .f64 wb)/\w'.cell? ⟨W.heap.size+3,3,none⟩=some (.float .f64 wc)/\w'.cell? ⟨W.heap.size+3+1,0,none⟩=some (.float .f64 P0)/\w'.cell? ⟨W.heap.size+3+1,1,none⟩=some (.float .f64 p1)/\w'.cell? ⟨W.heap.size+3+1,2,none⟩=some (.float .f64 q0)/\w'.cell? ⟨W.heap.size+3+1,3,none⟩=some (.float .f64 Q1)) (go_keep)
   (first
   |(go_at_call 24
     with_reducible refine SP1.out.mono ?_
     rintro e w1⟨i,j,rfl,hr⟩;have R1:=hdd hr;have Q4:=R1.out.at (m_lb m2);have Q5:=R1.out.at (m_lb m3);have d0:=aA (k:=0) (v:=.int .i64 kd) Q4 rfl;have d1:=aA (k:=1) (v:=.float .f64 wa) Q4 rfl;have d2:=aA (k:=2) (v:=.float .f64 wb) Q4 rfl;have d3:=aA (k:=3) (v:=.float .f64 wc) Q4 rfl;have e0:=aA (k:=0) (v:=.float .f64 P0) Q5 rfl;have e1:=aA (k:=1) (v:=.float .f64 p1) Q5 rfl;have e2:=aA (k:=2) (v:=.float .f64 q0) Q5 rfl;have e3:=aA (k:=3) (v:=.float .f64 Q1) Q5 rfl;have SP2:=hdd (R1.out.spot (by omega) FF.out.2.2.1.1 FF.out.2.2.2.1 FF.out.2.2.1.2 FF.out.2.2.2.2);clear Q4 Q5 hr)
   |(go_at_call 24
     with_reducible refine SP2.out.mono ?_
     rintro e w2⟨k,m,rfl,hr⟩;have R2:=hdd hr;have Q4:=R2.out.at (m_lb m2);have Q5:=R2.out.at (m_lb m3);have d0:=aA (k:=0) (v:=.int .i64 kd) Q4 rfl;have d1:=aA (k:=1) (v:=.float .f64 wa) Q4 rfl;have d2:=aA (k:=2) (v:=.float .f64 wb) Q4 rfl;have d3:=aA (k:=3) (v:=.float .f64 wc) Q4 rfl;have e0:=aA (k:=0) (v:=.float .f64 P0) Q5 rfl;have e1:=aA (k:=1) (v:=.float .f64 p1) Q5 rfl;have e2:=aA (k:=2) (v:=.float .f64 q0) Q5 rfl;have e3:=aA (k:=3) (v:=.float .f64 Q1) Q5 rfl;have BA1:=hdd (R2.out.brd_at (x:=P0) (y:=p1) HB.out (by omega));clear Q4 Q5 hr)
   |(go_at_call 52
     with_reducible refine BA1.out.mono ?_
     rintro e w4⟨rfl,O1,ln1,hB1,hr⟩;have R3:=hdd hr;have Q4:=R3.out.at (m_lb m2);have Q5:=R3.out.at (m_lb m3);have d0:=aA (k:=0) (v:=.int .i64 kd) Q4 rfl;have d1:=aA (k:=1) (v:=.float .f64 wa) Q4 rfl;have d2:=aA (k:=2) (v:=.float .f64 wb) Q4 rfl;have d3:=aA (k:=3) (v:=.float .f64 wc) Q4 rfl;have e0:=aA (k:=0) (v:=.float .f64 P0) Q5 rfl;have e1:=aA (k:=1) (v:=.float .f64 p1) Q5 rfl;have e2:=aA (k:=2) (v:=.float .f64 q0) Q5 rfl;have e3:=aA (k:=3) (v:=.float .f64 Q1) Q5 rfl;have BA2:=hdd (R3.out.brd_at (x:=q0) (y:=Q1) hB1 (by omega));clear Q4 Q5 hr)
   |(go_at_call 52
     with_reducible refine BA2.out.mono ?_
     rintro e w5⟨rfl,O2,ln2,hB2,hr⟩;have R4:=hdd hr;have Q4:=R4.out.at (m_lb m2);have Q5:=R4.out.at (m_lb m3);have d0:=aA (k:=0) (v:=.int .i64 kd) Q4 rfl;have d1:=aA (k:=1) (v:=.float .f64 wa) Q4 rfl;have d2:=aA (k:=2) (v:=.float .f64 wb) Q4 rfl;have d3:=aA (k:=3) (v:=.float .f64 wc) Q4 rfl;have e0:=aA (k:=0) (v:=.float .f64 P0) Q5 rfl;have e1:=aA (k:=1) (v:=.float .f64 p1) Q5 rfl;have e2:=aA (k:=2) (v:=.float .f64 q0) Q5 rfl;have e3:=aA (k:=3) (v:=.float .f64 Q1) Q5 rfl;have Q6:=R4.out.at (m_lb m0);have Q7:=R4.out.at (m_lb m1);have B4:=hdd hB2;have x0:=aA (k:=0) (v:=.int .i64 0) Q6 rfl;have x1:=aA (k:=1) (v:=.float .f64 0) Q6 rfl;have x2:=aA (k:=2) (v:=.float .f64 0) Q6 rfl;have x3:=aA (k:=3) (v:=.float .f64 0) Q6 rfl;have x4:=aA (k:=4) (v:=.pointer none) Q6 rfl;have x5:=aA (k:=5) (v:=.int .i64 0) Q6 rfl;have x6:=aA (k:=6) (v:=.pointer none) Q6 rfl;have x7:=aA (k:=7) (v:=.int .i64 0) Q6 rfl;have x8:=aA (k:=8) (v:=.pointer none) Q6 rfl;have x9:=aA (k:=9) (v:=.int .i64 0) Q6 rfl;have x10:=aA (k:=10) (v:=.pointer none) Q6 rfl;have x11:=aA (k:=11) (v:=.int .i64 0) Q6 rfl;have y0:=aA (k:=0) (v:=.int .i64 0) Q7 rfl;have y1:=aA (k:=1) (v:=.float .f64 0) Q7 rfl;have y2:=aA (k:=2) (v:=.float .f64 0) Q7 rfl;have y3:=aA (k:=3) (v:=.float .f64 0) Q7 rfl;have y4:=aA (k:=4) (v:=.int .i64 0) Q7 rfl;have y5:=aA (k:=5) (v:=.int .i64 0) Q7 rfl;have y6:=aA (k:=6) (v:=.int .i64 0) Q7 rfl;have y7:=aA (k:=7) (v:=.int .i64 0) Q7 rfl
     have z6:=gY Q6;have z7:=gY Q7;have P6:=hdd Q6;have P7:=hdd Q7;clear Q6 Q7;clear Q4 Q5 hr))
  obtain⟨w6,hw6⟩:∃v,gK w5 (W.heap.size+1) 0 [(.int .i64 kd),(.float .f64 wa),(.float .f64 wb),(.float .f64 wc),(.pointer (some ⟨g,0,none⟩)),(.int .i64 (i:Int)),(.pointer (some ⟨g,0,none⟩)),(.int .i64 (j:Int)),(.pointer (some ⟨g,0,none⟩)),(.int .i64 (k:Int)),(.pointer (some ⟨g,0,none⟩)),(.int .i64 (m:Int))]=v:=⟨_,rfl⟩;obtain⟨w7,hw7⟩:∃v,gK w6 (W.heap.size+1+1) 0 [(.int .i64 kd),(.float .f64 wa),(.float .f64 wb),(.float .f64 wc),(.int .i64 (n:Int)),(.int .i64 ((n:Int)+1)),(.int .i64 ((n:Int)+2)),(.int .i64 ((n:Int)+2+1))]=v:=⟨_,rfl⟩;have g6:=eH (b:=W.heap.size+1) [(.int .i64 kd),(.float .f64 wa),(.float .f64 wb),(.float .f64 wc),(.pointer (some ⟨g,0,none⟩)),(.int .i64 (i:Int)),(.pointer (some ⟨g,0,none⟩)),(.int .i64 (j:Int)),(.pointer (some ⟨g,0,none⟩)),(.int .i64 (k:Int)),(.pointer (some ⟨g,0,none⟩)),(.int .i64 (m:Int))] 0 w5;have g7:=eH (b:=W.heap.size+1+1) [(.int .i64 kd),(.float .f64 wa),(.float .f64 wb),(.float .f64 wc),(.int .i64 (n:Int)),(.int .i64 ((n:Int)+1)),(.int .i64 ((n:Int)+2)),(.int .i64 ((n:Int)+2+1))] 0 w6
  have s6:=jO (vs:=[(.int .i64 kd),(.float .f64 wa),(.float .f64 wb),(.float .f64 wc),(.pointer (some ⟨g,0,none⟩)),(.int .i64 (i:Int)),(.pointer (some ⟨g,0,none⟩)),(.int .i64 (j:Int)),(.pointer (some ⟨g,0,none⟩)),(.int .i64 (k:Int)),(.pointer (some ⟨g,0,none⟩)),(.int .i64 (m:Int))]) P6.out rfl;rw[hw6]at g6 s6;rw[hw7]at g7;have s7:=jO (vs:=[(.int .i64 kd),(.float .f64 wa),(.float .f64 wb),(.float .f64 wc),(.int .i64 (n:Int)),(.int .i64 ((n:Int)+1)),(.int .i64 ((n:Int)+2)),(.int .i64 ((n:Int)+2+1))]) ((g6.block (W.heap.size+1+1) (aG P7.out) (by simp)).trans P7.out) rfl;rw[hw7]at s7;have s6':=(g7.block (W.heap.size+1) (aG s6) (by simp)).trans s6;unfold gK at hw6 hw7;simp only[gK]at hw6 hw7;clear x0 x1 x2 x3 x4 x5 x6 x7 x8 x9 x10 x11 y0 y1 y2 y3 y4 y5 y6 y7 z6 z7 d0 d1 d2 d3 e0 e1 e2 e3;simp only[hw6,hw7];have RF:=hdd ((((R4.out.perm acJ.symm).write g6 s6).perm (List.Perm.swap _ _ _)).write g7 s7);have HF:Hid (Run s g (N+4) ((.leaf P0,i)::(.leaf p1,j)::(.leaf q0,k)::(.leaf Q1,m)::K) ((bb,O2)::(ln2++l)) w7):=hdd ((RF.out.sub (fun p hp=>bi0 _ (bi0 _ (bi0 _ (bi0 _ hp)))) (by
   have h:=RF.out.nodup;rw[bi4]at h;have h:=(bi2.1 (bi2.1 (bi2.1 (bi2.1 h).2).2).2).2;exact h)).few fun p hp=>by
    simp only[bi5]at hp|-;rcases hp with rfl|rfl|rfl|rfl|h
    . simp
    . simp
    . simp
    . simp
    . simp[h])
  have x0:=aA (k:=0) (v:=.int .i64 kd) s6' rfl;have x1:=aA (k:=1) (v:=.float .f64 wa) s6' rfl;have x2:=aA (k:=2) (v:=.float .f64 wb) s6' rfl;have x3:=aA (k:=3) (v:=.float .f64 wc) s6' rfl;have x4:=aA (k:=4) (v:=.pointer (some ⟨g,0,none⟩)) s6' rfl;have x5:=aA (k:=5) (v:=.int .i64 (i:Int)) s6' rfl;have x6:=aA (k:=6) (v:=.pointer (some ⟨g,0,none⟩)) s6' rfl;have x7:=aA (k:=7) (v:=.int .i64 (j:Int)) s6' rfl;have x8:=aA (k:=8) (v:=.pointer (some ⟨g,0,none⟩)) s6' rfl;have x9:=aA (k:=9) (v:=.int .i64 (k:Int)) s6' rfl;have x10:=aA (k:=10) (v:=.pointer (some ⟨g,0,none⟩)) s6' rfl;have x11:=aA (k:=11) (v:=.int .i64 (m:Int)) s6' rfl;have y0:=aA (k:=0) (v:=.int .i64 kd) s7 rfl;have y1:=aA (k:=1) (v:=.float .f64 wa) s7 rfl;have y2:=aA (k:=2) (v:=.float .f64 wb) s7 rfl;have y3:=aA (k:=3) (v:=.float .f64 wc) s7 rfl;have y4:=aA (k:=4) (v:=.int .i64 (n:Int)) s7 rfl;have y5:=aA (k:=5) (v:=.int .i64 ((n:Int)+1)) s7 rfl;have y6:=aA (k:=6) (v:=.int .i64 ((n:Int)+2)) s7 rfl;have y7:=aA (k:=7) (v:=.int .i64 ((n:Int)+2+1)) s7 rfl
  clear g6 g7 s6 s6' s7 RF hw6 hw7;go_wp2;refine bodyPost_ret (v:=.tuple #[.agg #[_,_,_,_,_,_,_,_,_,_,_,_],.agg #[_,_,_,_,_,_,_,_]]) (by simp[results,Tryz.results14,go_sem,x0,x1,x2,x3,x4,x5,x6,x7,x8,x9,x10,x11,y0,y1,y2,y3,y4,y5,y6,y7];first|exact⟨⟨rfl,rfl,rfl,rfl,rfl,rfl,rfl,rfl,rfl,rfl,rfl,rfl⟩,⟨rfl,rfl,rfl,rfl,rfl,rfl,rfl,rfl⟩⟩|rfl) rfl ?_;exact⟨i,j,k,m,O2,ln2,rfl,B4.out,HF.out⟩
  )
end Go.Proofs.YtjaafolhfihegaaGreatDoor
