/- A part of the proof: contracts of functions and plain laws (MnP). -/
import Derived.Test.YtaojpfcboainmaaGreatDoorK41
import Derived.Test.YtaojpfcboainmaaGreatDoorK46
import Derived.Test.YtaojpfcboainmaaGreatDoorK47
set_option linter.unusedVariables false
set_option linter.unusedSimpArgs false
set_option maxHeartbeats 25600000
set_option maxRecDepth 100000
namespace Go.Proofs.YtaojpfcboainmaaGreatDoor
open Go.RowKit Go.Maps Go.Stop Go.Extern
open List renaming mem_append_right->atV,sublist_append_right->atW,getElem?_eq_getElem->atX,mem_cons_of_mem->atY,mem_cons_self->atZ,getElem?_cons_succ->at0,mem_of_getElem?->at1,mem_cons->at5,mem_singleton->at6,not_mem_nil->at7
def arW(s:Bs)(g bb:Nat)(l:List (Nat×Obj))(kd:Int)(wa wb wc P0 P1 Q0 Q1:Nat)(e:Ending)(W':World):Prop:=∃(i j k m:Nat) (O':Obj) (ln':List (Nat×Obj)),e=.returned (.tuple #[arcW g kd wa wb wc i j k m,refW kd wa wb wc 0])/\BrdB bb (0+4) ln' O'/\Run s g (0+4) ((.leaf P0,i)::(.leaf P1,j)::(.leaf Q0,k)::(.leaf Q1,m)::[]) ((bb,O')::(ln'++l)) W'
theorem aqJ{α:Type}:∀{p:α} {qs:List α} {a b:α},(a,b)∈chain p qs->a∈p::qs/\b∈p::qs
 |_,[],_,_,h=>by simp[chain]at h
 |p,q::qs,a,b,h=>by
  rcases at5.1 h with h|h
  . obtain⟨rfl,rfl⟩:=Prod.mk.injEq ..▸h
    exact⟨atZ ..,atY _ (atZ ..)⟩
  . obtain⟨h1,h2⟩:=aqJ h
    exact⟨atY _ h1,atY _ h2⟩
theorem aqK{α:Type}:∀{p:α} {qs:List α} {m:Nat} {f t f' t':α},(chain p qs)[m]? =some (f,t)->(chain p qs)[m+1]? =some (f',t')->f'=t
 |_,[],_,_,_,_,_,h,_=>by simp[chain]at h
 |_,[_],0,_,_,_,_,_,h=>by simp[chain]at h
 |p,q::r::qs,0,f,t,f',t',h,h'=>by
  simp only[chain,List.getElem?_cons_zero,at0,Option.some.injEq,Prod.mk.injEq]at h h';exact h'.1.symm.trans h.2
 |p,q::qs,m+1,f,t,f',t',h,h'=>by
  rw[chain,at0]at h h';exact aqK h h'
theorem aqE{w:World}{r:Bool}{X Y U V I Kk oo:Int}(hT:Tab w)(htb:1<w.heap.size):
 Calls Tryz.prog 4 #[.agg #[.bool r,.int .i64 X,.int .i64 Y,.int .i64 U,.int .i64 V,.int .i64 I,.int .i64 Kk,.int .i64 oo]] w (RetV w (.bool true)):=by
 obtain⟨kd,wa,wb,wc,P0,P1,Q0,Q1,wx,wy,hM,hf,⟨hw1,hw2,hw3⟩,hX⟩:=aqQ r X Y U V I Kk;have MK1:Hid (∀(g bb:Nat) (l:List (Nat×Obj)) (W:World) (O:Obj),Run (bs w) g 0 [] ((bb,O)::([]++l)) W->BrdB bb 0 [] O->Calls Tryz.prog 10 #[arcAW r X Y U V I Kk 0,.pointer (some ⟨g,0,none⟩),.pointer (some ⟨bb,0,none⟩)] W (arW (bs w) g bb l kd wa wb wc P0 P1 Q0 Q1)):=by
  cases r
  . exact hdd fun g bb l W O hR hB=>arG hR hB (by omega) (by omega) hM (aq2 P0 Q1) hf.1 hf.2.1 hf.2.2.1 hf.2.2.2 rfl
  . obtain⟨h1,h2,⟨-,rfl,rfl,rfl,rfl,J,L,hJ,hI,hL,hK,a1,a2,a3,a4⟩|⟨e,-⟩⟩:=hM
    . exact hdd fun g bb l W O hR hB=>xE hR hB (by omega) (by omega) hJ hI hL hK h1 h2 a1 a2 a3 a4 hf.1 hf.2.1 hf.2.2.1 hf.2.2.2
    . cases e
 have NQ:Hid (∀(g i j k m:Nat) (w:World),(binOp .neq 39 (arcW g kd wa wb wc i j k m) (arcW g kd wa wb wc i j k m)).run Tryz.prog w=.ok (.bool false) w):=hdd fun g i j k m w=>arN hw1 hw2 hw3 w;have HX:=hdd hX;obtain⟨w2,hw2',hb2,hs2,b10⟩:=pro1 w (.cells #[.bool r,.int .i64 X,.int .i64 Y,.int .i64 U,.int .i64 V,.int .i64 I,.int .i64 Kk,.int .i64 oo] 23);have HA:=hdd (anM (hT.below hb2) (Nat.lt_of_lt_of_le htb hb2.size));have HT:=hdd (And.intro hT htb);have HB2:=hdd hb2;have B10:=hdd b10;clear hT htb hb2 hs2 b10 hM hf hw1 hw2 hw3 hX;have hst:=aY;go_enter Tryz.func4,Tryz.ntmps4
 go_wp2_with fail
 refine HA.out.mono ?_;rintro e w3⟨rfl,hb3⟩;have HB3:=hdd (aC HB2.out hb3);have B11:=hdd (hbl B10.out hb3);clear hb3 HA HB2 B10 hw2';obtain⟨c0,c1,c2,c3,c4,c5,c6,c7⟩:=ap5 B11.out;have z0:=mQ B11.out;go_wp2_with fail
 obtain⟨w4,hw4⟩:∃v,w3.setCell ⟨w.heap.size,7,none⟩ (.int .i64 0)=v:=⟨_,rfl⟩;have B14:Hid (w4.heap[w.heap.size]? =some (.cells #[.bool r,.int .i64 X,.int .i64 Y,.int .i64 U,.int .i64 V,.int .i64 I,.int .i64 Kk,.int .i64 0] 23)):=hdd (by rw[<-hw4];exact kC (cs:=[.bool r,.int .i64 X,.int .i64 Y,.int .i64 U,.int .i64 V,.int .i64 I,.int .i64 Kk,.int .i64 oo]) (k:=7) B11.out);have HB4:Hid (Below w.heap.size w w4):=hdd (by rw[<-hw4];exact HB3.out.setCell nlr _);simp only[hw4];clear hw4 c0 c1 c2 c3 c4 c5 c6 c7 z0 B11 HB3;have HN:=hdd (aeV (w0:=w) (l:=[(w.heap.size,(.cells #[.bool r,.int .i64 X,.int .i64 Y,.int .i64 U,.int .i64 V,.int .i64 I,.int .i64 Kk,.int .i64 0] 23))]) HB4.out (fun q hp=>by
  simp only[at5,at7,or_false]at hp;subst hp;exact⟨B14.out,Nat.le_refl _⟩) (by simp) HT.out.1 HT.out.2)
 refine HN.out.mono ?_;rintro e W1⟨g,rfl,hR⟩;have R1:=hdd hR;clear hR HN HT B14 HB4;dsimp only;obtain⟨w5,hw5,hb5,hs5,b5⟩:=pro1 W1 (.cells #[.slice none 0 0,.int .i64 0] 30);have R2:Hid (Run (bs w) g 0 [] ((W1.heap.size,.cells #[.slice none 0 0,.int .i64 0] 30)::([]++[(w.heap.size,(.cells #[.bool r,.int .i64 X,.int .i64 Y,.int .i64 U,.int .i64 V,.int .i64 I,.int .i64 Kk,.int .i64 0] 23))])) w5):=hdd (hw5▸R1.out.alloc _);have Q1':=R1.out.at (m0);obtain⟨c0,c1,c2,c3,c4,c5,c6,c7⟩:=ap5 Q1';clear R1 hb5 hs5 b5 Q1';go_wp2_with fail
 refine(MK1.out _ _ _ _ _ R2.out BrdB.nil).mono ?_;rintro e W3⟨i,j,kk,m,O1,ln1,rfl,hB1,hR3⟩;have R3:=hdd hR3;clear hR3 hB1 MK1 R2 c0 c1 c2 c3 c4 c5 c6 c7 hw5;obtain⟨v1,hv1,hd1,he1,f1,f2⟩:=pro2 W3 (.cells #[.int .i64 0,.float .f64 0,.float .f64 0,.float .f64 0,.pointer none,.int .i64 0,.pointer none,.int .i64 0,.pointer none,.int .i64 0,.pointer none,.int .i64 0] 39) (.cells #[.int .i64 0,.float .f64 0,.float .f64 0,.float .f64 0,.int .i64 0,.int .i64 0,.int .i64 0,.int .i64 0] 43);obtain⟨x0,x1,x2,x3,x4,x5,x6,x7,x8,x9,x10,x11⟩:=ap1 f1;obtain⟨y0,y1,y2,y3,y4,y5,y6,y7⟩:=ap5 f2;have z1:=mQ f1;have z2:=mQ f2;have F1:=hdd f1;have F2:=hdd f2;have D1:=hdd hd1;clear f1 f2 hd1
 go_upto_region 8 with fail
 obtain⟨v2,hv2⟩:∃v,gG v1 (W3.heap.size) 0 [.int .i64 kd,.float .f64 wa,.float .f64 wb,.float .f64 wc,.pointer (some ⟨g,0,none⟩),.int .i64 (i:Int),.pointer (some ⟨g,0,none⟩),.int .i64 (j:Int),.pointer (some ⟨g,0,none⟩),.int .i64 (kk:Int),.pointer (some ⟨g,0,none⟩),.int .i64 (m:Int)]=v:=⟨_,rfl⟩;have gv2:=dU (b:=W3.heap.size) [.int .i64 kd,.float .f64 wa,.float .f64 wb,.float .f64 wc,.pointer (some ⟨g,0,none⟩),.int .i64 (i:Int),.pointer (some ⟨g,0,none⟩),.int .i64 (j:Int),.pointer (some ⟨g,0,none⟩),.int .i64 (kk:Int),.pointer (some ⟨g,0,none⟩),.int .i64 (m:Int)] 0 v1;have sv2:=jK (vs:=[.int .i64 kd,.float .f64 wa,.float .f64 wb,.float .f64 wc,.pointer (some ⟨g,0,none⟩),.int .i64 (i:Int),.pointer (some ⟨g,0,none⟩),.int .i64 (j:Int),.pointer (some ⟨g,0,none⟩),.int .i64 (kk:Int),.pointer (some ⟨g,0,none⟩),.int .i64 (m:Int)]) F1.out rfl;rw[hv2]at gv2 sv2;obtain⟨v3,hv3⟩:∃v,gG v2 (W3.heap.size+1) 0 [.int .i64 kd,.float .f64 wa,.float .f64 wb,.float .f64 wc,.int .i64 0,.int .i64 1,.int .i64 2,.int .i64 3]=v:=⟨_,rfl⟩
 have gv3:=dU (b:=W3.heap.size+1) [.int .i64 kd,.float .f64 wa,.float .f64 wb,.float .f64 wc,.int .i64 0,.int .i64 1,.int .i64 2,.int .i64 3] 0 v2;have sv3:=jK (vs:=[.int .i64 kd,.float .f64 wa,.float .f64 wb,.float .f64 wc,.int .i64 0,.int .i64 1,.int .i64 2,.int .i64 3]) ((gv2.block (W3.heap.size+1) (aG F2.out) (by simp)).trans F2.out) rfl;rw[hv3]at gv3 sv3;have F3:=hdd ((gv3.block (W3.heap.size) (aG sv2) (by simp)).trans sv2);have D3:=hdd ((D1.out.trans (Below.of_grown gv2 D1.out.size nlr)).trans (Below.of_grown gv3 (Nat.le_trans D1.out.size gv2.size) (Nat.le_add_right _ 1)));simp only[gG]at hv2 hv3;clear x0 x1 x2 x3 x4 x5 x6 x7 x8 x9 x10 x11 y0 y1 y2 y3 y4 y5 y6 y7 z1 z2 gv2 gv3 sv2 sv3 F1 F2 D1 hv1 he1;simp only[hv2,hv3];clear hv2 hv3;have R5:=R3.out.keeps D3.out [(W3.heap.size,jM g kd wa wb wc i j kk m)] (by
  intro q hp;obtain rfl:=at6.1 hp;exact⟨F3.out,Nat.le_refl _⟩) (by simp)
 have R1:Hid (Run (bs w) g 4 [(.leaf P0,i),(.leaf P1,j),(.leaf Q0,kk),(.leaf Q1,m)] [(W3.heap.size,jM g kd wa wb wc i j kk m)] v3):=hdd (R5.sub (fun q hp=>by
  obtain rfl:=at6.1 hp;exact atZ ..) (by simp))
 clear R5 R3 D3 F3;generalize W3.heap.size=b4 at R1|-;have hA:=R1.out.at m0;obtain⟨x0,x1,x2,x3,x4,x5,x6,x7,x8,x9,x10,x11⟩:=ap1 hA;clear hA;rcases HX.out with hbad|⟨es,hes,hP,hch,hse⟩
 . have HC:=hdd (hbad g i j kk m _ _ _ _ v3 R1.out (by omega) (fun p hp=>hp))
   clear hbad HX;go_wp2_with fail
   refine HC.out.mono ?_;rintro e w6⟨rr,rfl,-,h2,hR6⟩;obtain⟨t,xx,rfl⟩:=h2 trivial;have HB:=hdd hR6.below;clear hR6 h2 HC R1 x0 x1 x2 x3 x4 x5 x6 x7 x8 x9 x10 x11;go_wp2;go_ret;exact⟨rfl,HB.out⟩
 have HC:=hdd (hP.1 g i j kk m _ _ _ _ v3 R1.out (by omega) (fun p hp=>hp));have HP:=hdd hP;have HCH:=hdd hch;have HSE:=hdd hse;have HES:=hdd hes;clear hP hch hse hes HX R1;go_wp2_with fail
 refine HC.out.mono ?_;rintro e w6⟨ks,-,rfl,hR6⟩;have R6:Hid (Run (bs w) g 24 [(.leaf P0,i),(.leaf P1,j),(.leaf Q0,kk),(.leaf Q1,m)] [(b4,jM g kd wa wb wc i j kk m)] w6):=hdd (by simpa using hR6);clear hR6 HC x0 x1 x2 x3 x4 x5 x6 x7 x8 x9 x10 x11;have hA:=R6.out.at m0;obtain⟨x0,x1,x2,x3,x4,x5,x6,x7,x8,x9,x10,x11⟩:=ap1 hA;have HC:=hdd (acZ (kd:=kd) (i:=i) (j:=j) (k:=kk) (l:=m) HES.out (HP.out.1 g i j kk m) (HP.out.2 g i j kk m) _ _ _ _ w6 R6.out (by omega) (fun p hp=>hp));clear hA R6;go_wp2_with fail
 refine HC.out.mono ?_;rintro e w7⟨K1,l1,⟨v,ps,rfl,ho,hk⟩,hR7⟩;have HPS:=hdd (show ps.length<=2 from by have:=hk.len;have:=HES.out;omega);have HK:Hid (KnP (K1++[(.leaf P0,i),(.leaf P1,j),(.leaf Q0,kk),(.leaf Q1,m)]) (es++[(.leaf Q0,.leaf Q1)]) (ps++[(kk,m)])):=hdd (KnP.snoc ⟨by simp,by simp⟩ (hk.mono fun p hp=>List.mem_append_left _ hp));obtain⟨pp,cp,rfl⟩:=ho.slice;obtain⟨rr,rfl,-⟩:=ho.cellW hR7 (xG (acY (m:=0) (f:=(i,j)) (q:=(ps++[(kk,m)]).getD 0 (0,0)) rfl (by cases ps<;>rfl)) 0 _ rfl);have R7:Hid (Run (bs w) g (151+129*0) (K1++[(.leaf P0,i),(.leaf P1,j),(.leaf Q0,kk),(.leaf Q1,m)]) (l1++[(b4,jM g kd wa wb wc i j kk m)]) w7):=hdd (hR7.more (by omega));have HO:=hdd ho;clear hR7 ho hk HC x0 x1 x2 x3 x4 x5 x6 x7 x8 x9 x10 x11;obtain⟨ids,hids⟩:∃ids,chain (i,j) (ps++[(kk,m)])=ids:=⟨_,rfl⟩;rw[hids]at HO;have HAT:Hid (∀(q:Nat) (f t:Nat×Nat),ids[q]? =some (f,t)->∃E F,(aqO kd wa wb wc [] E F/\iK PT E.1 E.2 E.1 E.2 0/\iK PT F.1 F.2 F.1 F.2 0)/\((E.1,f.1)∈K1++[(.leaf P0,i),(.leaf P1,j),(.leaf Q0,kk),(.leaf Q1,m)]/\(E.2,f.2)∈K1++[(.leaf P0,i),(.leaf P1,j),(.leaf Q0,kk),(.leaf Q1,m)])/\(F.1,t.1)∈K1++[(.leaf P0,i),(.leaf P1,j),(.leaf Q0,kk),(.leaf Q1,m)]/\(F.2,t.2)∈K1++[(.leaf P0,i),(.leaf P1,j),(.leaf Q0,kk),(.leaf Q1,m)]):=hdd (fun q f t h=>by
  rw[<-hids]at h;obtain⟨E,F,h1,h2,h3⟩:=KnP.at (A:=(.leaf P0,.leaf P1)) ⟨by simp,by simp⟩ HK.out h;obtain⟨h4,h5⟩:=aqJ (at1 h1);exact⟨E,F,⟨HCH.out _ (at1 h1),HSE.out _ h4,HSE.out _ h5⟩,h2,h3⟩)
 have HU:Hid (∀(M:Nat) (K:List (Ex×Nat)) (L:List (Nat×Obj)) (W:World),Run (bs w) g M K (l1++L) W->∀(q f1 f2 t1 t2:Nat),ids[q]? =some ((f1,f2),(t1,t2))->RowA W rr q g kd wa wb wc f1 f2 t1 t2):=hdd (fun M K L W hR q f1 f2 t1 t2 h=>by
  obtain⟨r2,e,h⟩:=HO.out.arcs hR h;obtain rfl:rr=r2:=by simpa using e
  exact h)
 have HFI:Hid (∃t,ids[0]? =some ((i,j),t)):=hdd (by rw[<-hids];cases ps<;>exact⟨_,rfl⟩);have HLA:Hid (∃f,ids[ps.length]? =some (f,(kk,m))):=hdd (by
  rw[<-hids];obtain⟨f,hf⟩:∃f,((i,j)::(ps++[(kk,m)]))[ps.length]? =some f:=⟨_,atX (by simp;omega)⟩;exact⟨f,acY hf (by rw[List.getElem?_append_right nlr];simp)⟩)
 have HAD:Hid (∀q f t f' t',ids[q]? =some (f,t)->ids[q+1]? =some (f',t')->f'=t):=hdd (fun q f t f' t' h h'=>by rw[<-hids]at h h';exact aqK h h');have HLN:Hid (ids.length=ps.length+1):=hdd (by rw[<-hids,lV];simp);clear hids HK HCH HSE HP HES;obtain⟨n,hn⟩:∃n,ps.length=n:=⟨_,rfl⟩;rw[hn]at HPS HO HLA HLN|-;clear hn;have hnI:(n:Int)<=2:=by have:=HPS.out;omega
 have hn0:(0:Int)<=(n:Int):=by omega
 have hn1:decide ((n:Int)+1<1)=false:=decide_eq_false (by omega);have hn3:decide ((3:Int)<(n:Int)+1)=false:=decide_eq_false (by omega)
 go_upto_region 13 with fail
 obtain⟨⟨t0,t0'⟩,hfi⟩:=HFI.out;have HF0:=hdd hfi;obtain⟨E0,F0,⟨-,hc0,-⟩,⟨hm0,hm1⟩,-⟩:=HAT.out _ _ _ hfi;have HM0:=hdd (And.intro hc0 (And.intro hm0 hm1));clear hfi hc0 hm0 hm1 HFI;have RD:=hdd R7.out.drew;have HCM:=hdd (RD.out.same (by omega) HM0.out.2.1 HM0.out.2.2 HM0.out.2.1 HM0.out.2.2 HM0.out.1);obtain⟨-,-,-,-,d0,d1,d2,d3,-,-,-,-⟩:=HU.out _ _ _ _ RD.out 0 _ _ _ _ HF0.out;simp only[Nat.zero_mul,Nat.zero_add]at d0 d1 d2 d3;obtain⟨-,-,-,-,hf0,hf1,hf2,hf3,-,-,-,-⟩:=ap1 (RD.out.at (atV l1 m0));clear R7
 go_region_held3 (fun w'=>w'.cell? ⟨rr,4,none⟩=some (.pointer (some ⟨g,0,none⟩))/\w'.cell? ⟨rr,5,none⟩=some (.int .i64 (i:Int))/\w'.cell? ⟨rr,6,none⟩=some (.pointer (some ⟨g,0,none⟩))/\w'.cell? ⟨rr,7,none⟩=some (.int .i64 (j:Int))/\w'.cell? ⟨b4,4,none⟩=some (.pointer (some ⟨g,0,none⟩))/\w'.cell? ⟨b4,5,none⟩=some (.int .i64 (i:Int))/\w'.cell? ⟨b4,6,none⟩=some (.pointer (some ⟨g,0,none⟩))/\w'.cell? ⟨b4,7,none⟩=some (.int .i64 (j:Int))) (go_keep)
  (first
  |(go_at_call 14
    with_reducible refine HCM.out.mono ?_
    rintro e wsA⟨rfl,hRm⟩;have R8:=hdd hRm;obtain⟨-,-,-,-,d0,d1,d2,d3,-,-,-,-⟩:=HU.out _ _ _ _ R8.out 0 _ _ _ _ HF0.out;simp only[Nat.zero_mul,Nat.zero_add]at d0 d1 d2 d3;obtain⟨-,-,-,-,hf0,hf1,hf2,hf3,-,-,-,-⟩:=ap1 (R8.out.at (atV l1 m0));clear hRm))
 clear d0 d1 d2 d3 hf0 hf1 hf2 hf3 HCM RD;obtain⟨⟨fl0,fl1⟩,hla⟩:=HLA.out;have HL0:=hdd hla;obtain⟨E1,F1,⟨-,-,hc0⟩,-,hm0,hm1⟩:=HAT.out _ _ _ hla;have HM1:=hdd (And.intro hc0 (And.intro hm0 hm1));have hwn:IntKind.i64.wrap ((n:Int)+1-1)=(n:Int):=by rw[IntWalk.i64_in _ (by omega)];omega
 have hwm:IntKind.i64.wrap (n:Int)=(n:Int):=IntWalk.i64_in _ (by omega);have hnn:(n:Int)<(n:Int)+1:=by omega
 clear hla hc0 hm0 hm1 HLA HM0 HF0
 go_upto_region 14 with fail
 have RD:=hdd R8.out.drew;have HCM:=hdd (RD.out.same (by omega) HM1.out.2.1 HM1.out.2.2 HM1.out.2.1 HM1.out.2.2 HM1.out.1);obtain⟨-,-,-,-,-,-,-,-,d0,d1,d2,d3⟩:=HU.out _ _ _ _ RD.out n _ _ _ _ HL0.out;obtain⟨-,-,-,-,-,-,-,-,hf0,hf1,hf2,hf3⟩:=ap1 (RD.out.at (atV l1 m0));clear R8
 go_region_held3 (fun w'=>w'.cell? ⟨rr,n*12+8,none⟩=some (.pointer (some ⟨g,0,none⟩))/\w'.cell? ⟨rr,n*12+9,none⟩=some (.int .i64 (kk:Int))/\w'.cell? ⟨rr,n*12+10,none⟩=some (.pointer (some ⟨g,0,none⟩))/\w'.cell? ⟨rr,n*12+11,none⟩=some (.int .i64 (m:Int))/\w'.cell? ⟨b4,8,none⟩=some (.pointer (some ⟨g,0,none⟩))/\w'.cell? ⟨b4,9,none⟩=some (.int .i64 (kk:Int))/\w'.cell? ⟨b4,10,none⟩=some (.pointer (some ⟨g,0,none⟩))/\w'.cell? ⟨b4,11,none⟩=some (.int .i64 (m:Int))) (go_keep)
  (first
  |(go_at_call 14
    with_reducible refine HCM.out.mono ?_
    rintro e wsB⟨rfl,hRm⟩;have R9:=hdd hRm;obtain⟨-,-,-,-,-,-,-,-,d0,d1,d2,d3⟩:=HU.out _ _ _ _ R9.out n _ _ _ _ HL0.out;obtain⟨-,-,-,-,-,-,-,-,hf0,hf1,hf2,hf3⟩:=ap1 (R9.out.at (atV l1 m0));clear hRm))
 clear d0 d1 d2 d3 hf0 hf1 hf2 hf3 HCM RD;have R10:Hid (Run (bs w) g (155+149*0) (K1++[(.leaf P0,i),(.leaf P1,j),(.leaf Q0,kk),(.leaf Q1,m)]) (l1++[(b4,jM g kd wa wb wc i j kk m)]) wsB):=R9;clear HM1 HL0;clear R9;go_wp2_with fail
 go_loopw [12] (fun ii wr=>∃q:Nat,q<=n+1/\ii=.int .i64 (q:Int)/\Hid (Run (bs w) g (155+149*q) (K1++[(.leaf P0,i),(.leaf P1,j),(.leaf Q0,kk),(.leaf Q1,m)]) (l1++[(b4,jM g kd wa wb wc i j kk m)]) wr)) (fun ii _=>((n:Int)+1-intOf ii).toNat)
 case atStart=>exact⟨0,Nat.zero_le _,rfl,R10⟩
 case round=>
  clear R10;obtain⟨q,hq,rfl,HR⟩:=hrel;rcases Nat.lt_or_ge q (n+1)with hlt|hge
  . obtain⟨ft,hft⟩:∃ft,ids[q]? =some ft:=⟨_,atX (by rw[HLN.out];exact hlt)⟩
    obtain⟨⟨f1,f2⟩,t1,t2⟩:=ft;obtain⟨E,F,⟨hPE,hcE,hcF⟩,⟨e1,e2⟩,g1,g2⟩:=HAT.out q _ _ hft;have HFT:=hdd hft;have HLT:=hdd hlt;have HPE:=hdd hPE;have HE:=hdd (And.intro hcE (And.intro e1 e2));have HME:Hid (∀p∈[(E.1,f1),(E.2,f2),(F.1,t1),(F.2,t2)],p∈K1++[(.leaf P0,i),(.leaf P1,j),(.leaf Q0,kk),(.leaf Q1,m)]):=hdd (by
     intro p hp;simp only[at5,at7,or_false]at hp;rcases hp with rfl|rfl|rfl|rfl
     . exact e1
     . exact e2
     . exact g1
     . exact g2)
    obtain⟨x0,x1,x2,x3,x4,x5,x6,x7,x8,x9,x10,x11⟩:=HU.out _ _ _ _ HR.out q _ _ _ _ hft;have HC:=hdd (acZ (kd:=kd) (i:=f1) (j:=f2) (k:=t1) (l:=t2) (es:=[]) (by decide) (hPE.1 g f1 f2 t1 t2) (hPE.2 g f1 f2 t1 t2) _ _ _ _ wr HR.out (by omega) HME.out);have hq0:(0:Int)<=(q:Int):=by omega
    have hqI:(q:Int)<(n:Int)+1:=by omega
    clear hft hPE hcE hcF e1 e2 g1 g2 hlt hq HR;go_wp2_with fail
    refine HC.out.mono ?_;rintro e w8⟨K2,l2,⟨v2,ps2,rfl,ho2,hk2⟩,hR8⟩;obtain rfl:ps2=[]:=by cases ps2;rfl;exact hk2.elim
    obtain⟨p2,c2,rfl⟩:=ho2.slice;obtain⟨r2,rfl,-⟩:=ho2.cellW hR8 (xG (j:=0) (q:=((f1,f2),(t1,t2))) rfl 0 _ rfl);have R8:=hdd (show Run (bs w) g (155+149*q+127) (K2++(K1++[(.leaf P0,i),(.leaf P1,j),(.leaf Q0,kk),(.leaf Q1,m)])) (l2++(l1++[(b4,jM g kd wa wb wc i j kk m)])) w8 from hR8);have HV:Hid (∀(M:Nat) (K:List (Ex×Nat)) (L:List (Nat×Obj)) (W:World),Run (bs w) g M K (l2++L) W->RowB W r2 g kd wa wb wc f1 f2 t1 t2):=hdd (fun M K L W hR=>by
     obtain⟨r3,e,h⟩:=ho2.arc1 hR rfl;obtain rfl:r2=r3:=by simpa using e
     exact h)
    clear hR8 hk2 HC ho2 x0 x1 x2 x3 x4 x5 x6 x7 x8 x9 x10 x11;have RD:=hdd R8.out.drew;have HCK:=hdd (HPE.out.1 g f1 f2 t1 t2 _ _ _ _ w8.drew RD.out (by omega) (fun p hp=>atV _ (HME.out p hp)));have hnq:=NQ.out;obtain⟨x0,x1,x2,x3,x4,x5,x6,x7,x8,x9,x10,x11⟩:=HU.out _ _ _ _ (RD.out.subl (atW _ _)) q _ _ _ _ HFT.out;obtain⟨y0,y1,y2,y3,y4,y5,y6,y7,y8,y9,y10,y11⟩:=HV.out _ _ _ _ RD.out;clear R8
    go_upto_region 21 with fail
    go_region_held3 (fun w'=>w'.cell? ⟨rr,q*12,none⟩=some (.int .i64 kd)/\w'.cell? ⟨rr,q*12+1,none⟩=some (.float .f64 wa)/\w'.cell? ⟨rr,q*12+2,none⟩=some (.float .f64 wb)/\w'.cell? ⟨rr,q*12+3,none⟩=some (.float .f64 wc)/\w'.cell? ⟨rr,q*12+4,none⟩=some (.pointer (some ⟨g,0,none⟩))/\w'.cell? ⟨rr,q*12+5,none⟩=some (.int .i64 (f1:Int))/\w'.cell? ⟨rr,q*12+6,none⟩=some (.pointer (some ⟨g,0,none⟩))/\w'.cell? ⟨rr,q*12+7,none⟩=some (.int .i64 (f2:Int))/\w'.cell? ⟨rr,q*12+8,none⟩=some (.pointer (some ⟨g,0,none⟩))/\w'.cell? ⟨rr,q*12+9,none⟩=some (.int .i64 (t1:Int))/\w'.cell? ⟨rr,q*12+10,none⟩=some (.pointer (some ⟨g,0,none⟩))/\w'.cell? ⟨rr,q*12+11,none⟩=some (.int .i64 (t2:Int))/\w'.cell? ⟨r2,0,none⟩=some (.int .i64 kd)/\w'.cell? ⟨r2,1,none⟩=some (.float .f64 wa)/\w'.cell? ⟨r2,2,none⟩=some (.float .f64 wb)/\w'.cell? ⟨r2,3,none⟩=some (.float .f64 wc)/\w'.cell? ⟨r2,4,none⟩=some (.pointer (some ⟨g,0,none⟩))/\w'.cell? ⟨r2,5,none⟩=some (.int .i64 (f1:Int))/\w'.cell? ⟨r2,6,none⟩=some (.pointer (some ⟨g,0,none⟩))/\w'.cell? ⟨r2,7,none⟩=some (.int .i64 (f2:Int))/\w'.cell? ⟨r2,8,none⟩=some (.pointer (some ⟨g,0,none⟩))/\w'.cell? ⟨r2,9,none⟩=some (.int .i64 (t1:Int))/\w'.cell? ⟨r2,10,none⟩=some (.pointer (some ⟨g,0,none⟩))/\w'.cell? ⟨r2,11,none⟩=some (.int .i64 (t2:Int))) (go_keep)
     (first
     |(go_at_call 13
       with_reducible refine HCK.out.mono ?_
       rintro e w9⟨ks,-,rfl,hRm⟩;have R9:Hid (Run (bs w) g (155+149*q+147) (K2++(K1++[(.leaf P0,i),(.leaf P1,j),(.leaf Q0,kk),(.leaf Q1,m)])) (l2++(l1++[(b4,jM g kd wa wb wc i j kk m)])) w9):=hdd (by simpa using hRm);obtain⟨x0,x1,x2,x3,x4,x5,x6,x7,x8,x9,x10,x11⟩:=HU.out _ _ _ _ (R9.out.subl (atW _ _)) q _ _ _ _ HFT.out;obtain⟨y0,y1,y2,y3,y4,y5,y6,y7,y8,y9,y10,y11⟩:=HV.out _ _ _ _ R9.out;clear hRm))
    clear x0 x1 x2 x3 x4 x5 x6 x7 x8 x9 x10 x11 y0 y1 y2 y3 y4 y5 y6 y7 y8 y9 y10 y11 HCK HV RD hnq;rcases Nat.eq_zero_or_pos q with rfl|hpos
    . skip
      have R10:Hid (Run (bs w) g (155+149*(0+1)) (K1++[(.leaf P0,i),(.leaf P1,j),(.leaf Q0,kk),(.leaf Q1,m)]) (l1++[(b4,jM g kd wa wb wc i j kk m)]) w9):=hdd (((R9.out.subl (atW _ _)).few (fun p hp=>atV _ hp)).more (by omega));clear R9;go_wp2_with fail
      go_roundw
      case rel=>exact⟨0+1,by have:=HLT.out;omega,by go_num,R10⟩
      case measure=>simp[intOf]
    . obtain⟨p,hp⟩:∃p,q=p+1:=⟨q-1,by omega⟩
      have hqt:decide ((0:Int)<(q:Int))=true:=decide_eq_true (by omega);have R10:Hid (Run (bs w) g (155+149*q+147) (K1++[(.leaf P0,i),(.leaf P1,j),(.leaf Q0,kk),(.leaf Q1,m)]) (l1++[(b4,jM g kd wa wb wc i j kk m)]) w9):=hdd ((R9.out.subl (atW _ _)).few (fun p hp=>atV _ hp));obtain⟨ft,hft⟩:∃ft,ids[p]? =some ft:=⟨_,atX (by rw[HLN.out];have:=HLT.out;omega)⟩;obtain⟨⟨f',f''⟩,t'⟩:=ft;obtain rfl:(f1,f2)=t':=HAD.out p _ _ _ _ hft (by rw[<-hp];exact HFT.out);have HFP:=hdd hft;have hwp:IntKind.i64.wrap ((q:Int)-1)=(p:Int):=by rw[IntWalk.i64_in _ (by omega)];omega
      have hp0:(0:Int)<=(p:Int):=by omega
      have hpI:(p:Int)<(n:Int)+1:=by omega
      clear R9 hp hft
      go_upto_region 24 with fail
      have RD:=hdd R10.out.drew;have HCM:=hdd (RD.out.same (by have:=HPS.out;have:=HLT.out;omega) HE.out.2.1 HE.out.2.2 HE.out.2.1 HE.out.2.2 HE.out.1);obtain⟨-,-,-,-,-,-,-,-,d0,d1,d2,d3⟩:=HU.out _ _ _ _ RD.out p _ _ _ _ HFP.out;obtain⟨-,-,-,-,hf0,hf1,hf2,hf3,-,-,-,-⟩:=HU.out _ _ _ _ RD.out q _ _ _ _ HFT.out;clear R10
      go_region_held3 (fun w'=>w'.cell? ⟨rr,p*12+8,none⟩=some (.pointer (some ⟨g,0,none⟩))/\w'.cell? ⟨rr,p*12+9,none⟩=some (.int .i64 (f1:Int))/\w'.cell? ⟨rr,p*12+10,none⟩=some (.pointer (some ⟨g,0,none⟩))/\w'.cell? ⟨rr,p*12+11,none⟩=some (.int .i64 (f2:Int))/\w'.cell? ⟨rr,q*12+4,none⟩=some (.pointer (some ⟨g,0,none⟩))/\w'.cell? ⟨rr,q*12+5,none⟩=some (.int .i64 (f1:Int))/\w'.cell? ⟨rr,q*12+6,none⟩=some (.pointer (some ⟨g,0,none⟩))/\w'.cell? ⟨rr,q*12+7,none⟩=some (.int .i64 (f2:Int))) (go_keep)
       (first
       |(go_at_call 14
         with_reducible refine HCM.out.mono ?_
         rintro e wsC⟨rfl,hRm⟩;have R11:=hdd hRm;obtain⟨-,-,-,-,-,-,-,-,d0,d1,d2,d3⟩:=HU.out _ _ _ _ R11.out p _ _ _ _ HFP.out;obtain⟨-,-,-,-,hf0,hf1,hf2,hf3,-,-,-,-⟩:=HU.out _ _ _ _ R11.out q _ _ _ _ HFT.out;clear hRm))
      clear d0 d1 d2 d3 hf0 hf1 hf2 hf3 HCM RD;have R12:Hid (Run (bs w) g (155+149*(q+1)) (K1++[(.leaf P0,i),(.leaf P1,j),(.leaf Q0,kk),(.leaf Q1,m)]) (l1++[(b4,jM g kd wa wb wc i j kk m)]) wsC):=hdd (R11.out.more (by omega));clear R11;go_wp2_with fail
      go_roundw
      case rel=>exact⟨q+1,by have:=HLT.out;omega,by go_num,R12⟩
      case measure=>have:=HLT.out;simp[intOf];omega
  . obtain rfl:q=n+1:=by omega
    have HB:=hdd HR.out.below;clear HR hq hge;go_wp2;go_ret;exact⟨rfl,HB.out⟩
end Go.Proofs.YtaojpfcboainmaaGreatDoor
