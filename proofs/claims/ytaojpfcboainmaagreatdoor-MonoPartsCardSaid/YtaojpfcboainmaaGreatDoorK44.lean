/- A part of the proof: contracts of functions and plain laws (MnD, MoA, QlV, MnE, TuA). -/
import Derived.Test.YtaojpfcboainmaaGreatDoorK41
import Derived.Test.YtaojpfcboainmaaGreatDoorK43
import Derived.Test.YtaojpfcboainmaaGreatDoorK34
import Derived.Test.YtaojpfcboainmaaGreatDoorK33
import Derived.Test.YtaojpfcboainmaaGreatDoorK32
import Derived.Test.YtaojpfcboainmaaGreatDoorK15
set_option linter.unusedVariables false
set_option linter.unusedSimpArgs false
set_option maxHeartbeats 25600000
set_option maxRecDepth 100000
namespace Go.Proofs.YtaojpfcboainmaaGreatDoor
section
open Go.RowKit Go.Maps Go.Stop Go.Extern
open List renaming mem_append_right->asX,length_cons->asY,mem_cons_of_mem->asZ,sublist_append_right->as1,append_assoc->as2,getElem?_cons_succ->as4,sublist_cons_self->as5,length_nil->as6
open List.Sublist renaming append->as0,refl->as3
def arL(g:Nat)(kd:Int)(ca cb cc:Nat):List ((Nat×Nat)×(Nat×Nat))->List Value
 |[]=>[]
 |p::ps=>[.int .i64 kd,.float .f64 ca,.float .f64 cb,.float .f64 cc,.pointer (some ⟨g,0,none⟩),.int .i64 (p.1.1:Int),.pointer (some ⟨g,0,none⟩),.int .i64 (p.1.2:Int),.pointer (some ⟨g,0,none⟩),.int .i64 (p.2.1:Int),.pointer (some ⟨g,0,none⟩),.int .i64 (p.2.2:Int)]++arL g kd ca cb cc ps
section
variable{g ca cb cc:Nat}{kd:Int}
theorem acX(q:(Nat×Nat)×(Nat×Nat)):∀ps:List ((Nat×Nat)×(Nat×Nat)),arL g kd ca cb cc (ps++[q])=arL g kd ca cb cc ps++[.int .i64 kd,.float .f64 ca,.float .f64 cb,.float .f64 cc,.pointer (some ⟨g,0,none⟩),.int .i64 (q.1.1:Int),.pointer (some ⟨g,0,none⟩),.int .i64 (q.1.2:Int),.pointer (some ⟨g,0,none⟩),.int .i64 (q.2.1:Int),.pointer (some ⟨g,0,none⟩),.int .i64 (q.2.2:Int)]
 |[]=>rfl
 |p::ps=>by rw[List.cons_append,arL,acX q ps,arL,as2]
theorem xG{q:(Nat×Nat)×(Nat×Nat)}:∀{ps:List ((Nat×Nat)×(Nat×Nat))} {j:Nat},ps[j]? =some q->∀k u,[.int .i64 kd,.float .f64 ca,.float .f64 cb,.float .f64 cc,.pointer (some ⟨g,0,none⟩),.int .i64 (q.1.1:Int),.pointer (some ⟨g,0,none⟩),.int .i64 (q.1.2:Int),.pointer (some ⟨g,0,none⟩),.int .i64 (q.2.1:Int),.pointer (some ⟨g,0,none⟩),.int .i64 (q.2.2:Int)][k]? =some u->(arL g kd ca cb cc ps)[j*12+k]? =some u
 |[],_,h,_,_,_=>by simp at h
 |p::ps,0,h,k,u,hu=>by
  obtain rfl:p=q:=by simpa using h
  rw[arL,List.getElem?_append_left (by have:=(List.getElem?_eq_some_iff.1 hu).1;simp only[asY,as6]at this|-;omega),Nat.zero_mul,Nat.zero_add];exact hu
 |p::ps,j+1,h,k,u,hu=>by
  have:=xG (show ps[j]? =some q by simpa using h) k u hu;rw[arL,List.getElem?_append_right (by simp only[asY,as6];omega),<-this]
  congr 1
  simp only[asY,as6];omega
end
section
variable{α:Type}
theorem lV:∀(p:α) (qs:List α),(chain p qs).length=qs.length
 |_,[]=>rfl
 |_,q::qs=>by rw[chain,asY,asY,lV q qs]
theorem acY{f q:α}:∀{p:α} {qs:List α} {m:Nat},(p::qs)[m]? =some f->qs[m]? =some q->(chain p qs)[m]? =some (f,q)
 |_,[],_,_,h=>by simp at h
 |p,x::qs,0,h1,h2=>by
  obtain rfl:p=f:=by simpa using h1
  obtain rfl:x=q:=by simpa using h2
  rfl
 |p,x::qs,m+1,h1,h2=>by
  rw[chain,as4];exact acY (by simpa using h1) (by simpa using h2)
theorem nU(a b c:List α)(x:α):(x::(a++(b++c))).Perm (a++(b++x::c)):=by
 rw[<-as2,<-as2];exact List.perm_middle.symm
end
abbrev RowA(W:World)(r q g:Nat)(kd:Int)(ca cb cc f1 f2 t1 t2:Nat):Prop:=W.cell? ⟨r,q*12,none⟩=some (.int .i64 kd)/\W.cell? ⟨r,q*12+1,none⟩=some (.float .f64 ca)/\W.cell? ⟨r,q*12+2,none⟩=some (.float .f64 cb)/\W.cell? ⟨r,q*12+3,none⟩=some (.float .f64 cc)/\W.cell? ⟨r,q*12+4,none⟩=some (.pointer (some ⟨g,0,none⟩))/\W.cell? ⟨r,q*12+5,none⟩=some (.int .i64 (f1:Int))/\W.cell? ⟨r,q*12+6,none⟩=some (.pointer (some ⟨g,0,none⟩))/\W.cell? ⟨r,q*12+7,none⟩=some (.int .i64 (f2:Int))/\W.cell? ⟨r,q*12+8,none⟩=some (.pointer (some ⟨g,0,none⟩))/\W.cell? ⟨r,q*12+9,none⟩=some (.int .i64 (t1:Int))/\W.cell? ⟨r,q*12+10,none⟩=some (.pointer (some ⟨g,0,none⟩))/\W.cell? ⟨r,q*12+11,none⟩=some (.int .i64 (t2:Int))
abbrev RowB(W:World)(r g:Nat)(kd:Int)(ca cb cc f1 f2 t1 t2:Nat):Prop:=W.cell? ⟨r,0,none⟩=some (.int .i64 kd)/\W.cell? ⟨r,1,none⟩=some (.float .f64 ca)/\W.cell? ⟨r,2,none⟩=some (.float .f64 cb)/\W.cell? ⟨r,3,none⟩=some (.float .f64 cc)/\W.cell? ⟨r,4,none⟩=some (.pointer (some ⟨g,0,none⟩))/\W.cell? ⟨r,5,none⟩=some (.int .i64 (f1:Int))/\W.cell? ⟨r,6,none⟩=some (.pointer (some ⟨g,0,none⟩))/\W.cell? ⟨r,7,none⟩=some (.int .i64 (f2:Int))/\W.cell? ⟨r,8,none⟩=some (.pointer (some ⟨g,0,none⟩))/\W.cell? ⟨r,9,none⟩=some (.int .i64 (t1:Int))/\W.cell? ⟨r,10,none⟩=some (.pointer (some ⟨g,0,none⟩))/\W.cell? ⟨r,11,none⟩=some (.int .i64 (t2:Int))
section
variable{s:Bs}{g N n c q f1 f2 t1 t2 ca cb cc:Nat}{kd:Int}{K:List (Ex×Nat)}{L lr:List (Nat×Obj)}{W:World}{p:Option Addr}{ps:List ((Nat×Nat)×(Nat×Nat))}
theorem OwnR.arcs (h:OwnR 39 12 (.slice p n c) n (arL g kd ca cb cc ps) lr)(hR:Run s g N K (lr++L) W)(hx:ps[q]? =some ((f1,f2),(t1,t2))):∃r,p=some ⟨r,0,none⟩/\RowA W r q g kd ca cb cc f1 f2 t1 t2:=by
 obtain⟨r,rfl,-⟩:=h.cellW hR (xG hx 0 _ rfl);have F:∀k u,[.int .i64 kd,.float .f64 ca,.float .f64 cb,.float .f64 cc,.pointer (some ⟨g,0,none⟩),.int .i64 (f1:Int),.pointer (some ⟨g,0,none⟩),.int .i64 (f2:Int),.pointer (some ⟨g,0,none⟩),.int .i64 (t1:Int),.pointer (some ⟨g,0,none⟩),.int .i64 (t2:Int)][k]? =some u->W.cell? ⟨r,q*12+k,none⟩=some u:=fun k u hu=>by
  obtain⟨r2,e,h2⟩:=h.cellW hR (xG hx k u hu);obtain rfl:r=r2:=by simpa using e
  exact h2
 exact⟨r,rfl,F 0 _ rfl,F 1 _ rfl,F 2 _ rfl,F 3 _ rfl,F 4 _ rfl,F 5 _ rfl,F 6 _ rfl,F 7 _ rfl,F 8 _ rfl,F 9 _ rfl,F 10 _ rfl,F 11 _ rfl⟩
theorem OwnR.arc1 (h:OwnR 39 12 (.slice p n c) n (arL g kd ca cb cc ps) lr)(hR:Run s g N K (lr++L) W)(hx:ps[0]? =some ((f1,f2),(t1,t2))):∃r,p=some ⟨r,0,none⟩/\RowB W r g kd ca cb cc f1 f2 t1 t2:=by
 obtain⟨r,e,h⟩:=h.arcs hR hx;exact⟨r,e,h⟩
end
def alN(g:Nat)(kd:Int)(ca cb cc i j k l:Nat)(es:List (Ex×Ex))(K1:List (Ex×Nat))(l1:List (Nat×Obj))(e:Ending):Prop:=∃v ps,e=.returned (.tuple #[v,.nilIface])/\OwnR 39 12 v (ps.length+1) (arL g kd ca cb cc (chain (i,j) (ps++[(k,l)]))) l1/\KnP K1 es ps
theorem alO:Tryz.prog.underlying 46=some (.slice 39):=by kernel_rfl
theorem alP:(Tryz.prog.info? 39).map (fun i=>(i.zero,i.size,i.bytes))=some (some (.agg #[.int .i64 0,.float .f64 0,.float .f64 0,.float .f64 0,.pointer none,.int .i64 0,.pointer none,.int .i64 0,.pointer none,.int .i64 0,.pointer none,.int .i64 0]),12,96):=by kernel_rfl
theorem acZ{g dc dt ca cb cc i j k l:Nat}{kd:Int}{A1 A2 B1 B2:Ex}{es:List (Ex×Ex)}(hes:es.length<=2)(HC:FnOk 13 g dc #[.pointer (some ⟨g,0,none⟩),alM g kd ca cb cc i j k l] [(A1,i),(A2,j),(B1,k),(B2,l)] (fun _=>.nilIface) [])(HT:FnAny 23 g dt #[.pointer (some ⟨g,0,none⟩),alM g kd ca cb cc i j k l] [(A1,i),(A2,j),(B1,k),(B2,l)] (pO g es)):
 FnAny 11 g (dc+dt) #[.pointer (some ⟨g,0,none⟩),alM g kd ca cb cc i j k l] [(A1,i),(A2,j),(B1,k),(B2,l)] (alN g kd ca cb cc i j k l es):=FnAny.of fun w B ns N hR hN=>by
 obtain⟨w1,hw1,hb1,hs1,b1⟩:=pro1 w (jM g kd ca cb cc i j k l);have R1:Run ⟨w,B,ns⟩ g N [(A1,i),(A2,j),(B1,k),(B2,l)] [(w.heap.size,jM g kd ca cb cc i j k l)] w1:=hw1▸hR.alloc _;obtain⟨x0,x1,x2,x3,x4,x5,x6,x7,x8,x9,x10,x11⟩:=ap1 b1;have HC1:=hdd (HC _ _ _ _ w1 R1 (by omega) (fun p hp=>hp));have HT1:=hdd HT;have HN:=hdd hN;have hst:=aY;clear hR hb1 hs1 b1 R1 HC HT hN;go_enter Tryz.func11,Tryz.ntmps11
 go_wp2_with fail
 refine HC1.out.mono ?_;rintro e w2⟨ks,-,rfl,hR2⟩;generalize w.heap.size=ba at*;have R2:Run ⟨w,B,ns⟩ g (N+dc) [(A1,i),(A2,j),(B1,k),(B2,l)] [(ba,jM g kd ca cb cc i j k l)] w2:=by simpa using hR2
 clear x0 x1 x2 x3 x4 x5 x6 x7 x8 x9 x10 x11 HC1 hR2;obtain⟨x0,x1,x2,x3,x4,x5,x6,x7,x8,x9,x10,x11⟩:=ap1 (R2.at m0);have HT2:=hdd (HT1.out _ _ _ _ w2 R2 (by have:=HN.out;omega) (fun p hp=>hp));clear R2 HT1;go_wp2_with fail
 refine HT2.out.mono ?_;rintro e w3⟨K1,l1,⟨v,ps,rfl,ho,hk⟩,hR3⟩;obtain⟨p0,c0,rfl⟩:=ho.slice;have HPS:=hdd (show ps.length<=2 from by have:=hk.len;omega);have HK:=hdd hk;have HO:=hdd ho;have R3:=hdd hR3;clear x0 x1 x2 x3 x4 x5 x6 x7 x8 x9 x10 x11 HT2 hR3 ho hk;have hq:=R3.out.at (asX l1 m0);obtain⟨x0,x1,x2,x3,x4,x5,x6,x7,x8,x9,x10,x11⟩:=ap1 hq;clear hq;obtain⟨w4,hw4,hb4,hs4,b4⟩:=pro1 w3 (aQ g i j);have R4:=hdd (hw4▸R3.out.alloc _:Run ⟨w,B,ns⟩ g (N+dc+dt) (K1++[(A1,i),(A2,j),(B1,k),(B2,l)]) ((w3.heap.size,aQ g i j)::(l1++[(ba,jM g kd ca cb cc i j k l)])) w4);clear hb4 hs4 b4 R3
 go_upto_region 9 with fail
 clear x0 x1 x2 x3 x4 x5 x6 x7 x8 x9 x10 x11;have hq:=R4.out.at (asZ _ (asX l1 m0));have x8:=aB (k:=8) (v:=.pointer (some ⟨g,0,none⟩)) hq rfl;have x9:=aB (k:=9) (v:=.int .i64 (k:Int)) hq rfl;have x10:=aB (k:=10) (v:=.pointer (some ⟨g,0,none⟩)) hq rfl;have x11:=aB (k:=11) (v:=.int .i64 (l:Int)) hq rfl;obtain⟨w5,hw5,hb5,hs5,b5⟩:=pro1 w4 (aQ g k l);have R5:=hdd ((hw5▸R4.out.alloc _:Run ⟨w,B,ns⟩ g (N+dc+dt) (K1++[(A1,i),(A2,j),(B1,k),(B2,l)]) ((w4.heap.size,aQ g k l)::((w3.heap.size,aQ g i j)::(l1++[(ba,jM g kd ca cb cc i j k l)]))) w5).perm (l':=l1++([(w4.heap.size,aQ g k l)]++[(w3.heap.size,aQ g i j),(ba,jM g kd ca cb cc i j k l)])) (by
  rw[show∀a b c:Nat×Obj,l1++([a]++[b,c])=l1++([]++a::[b,c]) from fun _ _ _=>rfl];exact(nU l1 [] _ _).symm.trans (List.Perm.cons _ (nU l1 [] _ _).symm)))
 have B5:=hdd b5;clear hq hb5 hs5 b5 R4;go_wp2_with (first
  |(at_builtin
    go_loud (
    refine aaQ afP acU rfl (by decide) HO.out R5.out B5.out rfl (by simp[Value.oneCell']) (by have:=HPS.out;omega) (by decide) rfl _ _ rfl rfl 1 rfl ?_;intro rq cq lq w6 ho6 hR6;have HQ0:=hdd ho6;have R6:=hdd (hR6.subl (l':=lq++[(w3.heap.size,aQ g i j),(ba,jM g kd ca cb cc i j k l)]) (as0 (as3 _) (as1 _ _)));clear ho6 hR6)))
 have HQ:Hid (OwnR 37 4 (.slice (some ⟨rq,0,none⟩) (ps.length+1) cq) (ps.length+1) (spL g (ps++[(k,l)])) lq):=hdd (by rw[vX];exact HQ0.out);obtain⟨qs,hqs⟩:∃qs,ps++[(k,l)]=qs:=⟨_,rfl⟩;have HQL:=hdd (show qs.length=ps.length+1 from by rw[<-hqs];simp);have HF:Hid (∀v l1' e,e=.returned (.tuple #[v,.nilIface])->OwnR 39 12 v (ps.length+1) (arL g kd ca cb cc (chain (i,j) qs)) l1'->alN g kd ca cb cc i j k l es (K1++[(A1,i),(A2,j),(B1,k),(B2,l)]) l1' e):=hdd (fun v l1' e h1 h2=>⟨v,ps,h1,by rw[hqs];exact h2,HK.out.mono (fun p hp=>List.mem_append_left _ hp)⟩);rw[hqs]at HQ;have hqI:(ps.length:Int)+1<=3:=by have:=HPS.out;omega
 clear HQ0 HK HO R5 B5 x8 x9 x10 x11 hqs hes;generalize w3.heap.size=bf at*;go_wp2_with fail
 go_loopw [9,36] (fun v i' wr=>∃(m:Nat) (f:Nat×Nat) (lp:List (Nat×Obj)),m<=ps.length+1/\i'=.int .i64 (m:Int)/\((i,j)::qs)[m]? =some f/\OwnR 39 12 v m (arL g kd ca cb cc ((chain (i,j) qs).take m)) lp/\Hid (Run ⟨w,B,ns⟩ g (N+dc+dt) (K1++[(A1,i),(A2,j),(B1,k),(B2,l)]) (lp++(lq++[(bf,aQ g f.1 f.2),(ba,jM g kd ca cb cc i j k l)])) wr)) (fun _ i' _=>((ps.length:Int)+1-intOf i').toNat)
 case atStart=>exact⟨0,(i,j),[],Nat.zero_le _,rfl,rfl,OwnR.nil _ _,R6⟩
 case round=>
  clear R6;obtain⟨m,f,lp,hm,rfl,hf,ho,HR⟩:=hrel;obtain⟨pp,cp,rfl⟩:=ho.slice;rcases Nat.lt_or_ge m (ps.length+1)with hlt|hge
  . obtain⟨q,hq⟩:∃q,qs[m]? =some q:=⟨_,List.getElem?_eq_getElem (by rw[HQL.out];exact hlt)⟩
    obtain⟨rz,erz,x0,x1,x2,x3⟩:=HQ.out.spot (HR.out.subl (as1 _ _)) hq;obtain rfl:rq=rz:=by simpa using erz
    have HCH:=hdd (acY hf hq);have HNX:=hdd (show((i,j)::qs)[m+1]? =some q by rw[as4];exact hq);obtain⟨w7,hw7,hb7,hs7,b7⟩:=pro1 wr (aQ g q.1 q.2);have R7:=hdd (hw7▸HR.out.alloc _:Run ⟨w,B,ns⟩ g (N+dc+dt) (K1++[(A1,i),(A2,j),(B1,k),(B2,l)]) ((wr.heap.size,aQ g q.1 q.2)::(lp++(lq++[(bf,aQ g f.1 f.2),(ba,jM g kd ca cb cc i j k l)]))) w7);have HO:=hdd ho;have HLT:=hdd hlt;have hm0:(0:Int)<=(m:Int):=by omega
    have hmI:(m:Int)<(ps.length:Int)+1:=by omega
    obtain⟨q1,q2⟩:=q;obtain⟨f1,f2⟩:=f;dsimp only at*;clear hf ho hq HR hb7 hs7 b7 hlt hm erz
    go_upto_region 12 with fail
    clear x0 x1 x2 x3;have hA:=R7.out.at (asZ _ (asX lp (asX lq m1)));have hB:=R7.out.at (asZ _ (asX lp (asX lq m0)));have hD:=R7.out.at m0;have x0:=aB (k:=0) (v:=.int .i64 kd) hA rfl;have x1:=aB (k:=1) (v:=.float .f64 ca) hA rfl;have x2:=aB (k:=2) (v:=.float .f64 cb) hA rfl;have x3:=aB (k:=3) (v:=.float .f64 cc) hA rfl;obtain⟨y0,y1,y2,y3⟩:=aW hB;obtain⟨z0,z1,z2,z3⟩:=aW hD;obtain⟨w8,hw8,hb8,hs8,b8⟩:=pro1 w7 (jM g kd ca cb cc f1 f2 q1 q2);have B8:=hdd b8;have R8:=hdd ((hw8▸R7.out.alloc _:Run ⟨w,B,ns⟩ g (N+dc+dt) (K1++[(A1,i),(A2,j),(B1,k),(B2,l)]) ((w7.heap.size,jM g kd ca cb cc f1 f2 q1 q2)::((wr.heap.size,aQ g q1 q2)::(lp++(lq++[(bf,aQ g f1 f2),(ba,jM g kd ca cb cc i j k l)])))) w8).subl (as5 _ _));have R9:=hdd (R8.out.perm (nU lp lq _ _).symm);clear hA hB hD R7 hb8 hs8 b8 R8
    go_upto_region 13 with (first
     |(at_builtin
       go_loud (
       refine aaQ alO alP rfl (by decide) HO.out R9.out B8.out rfl (by simp[Value.oneCell']) (by have:=HPS.out;have:=HLT.out;omega) (by decide) rfl _ _ rfl rfl 1 rfl ?_;intro r2 cap2 lp2 wa hoa hRa;have HO2:=hdd hoa;have R10:=hdd hRa;clear hoa hRa)))
    clear x0 x1 x2 x3 y0 y1 y2 y3 z0 z1 z2 z3 R9 B8 HO;have hD:=R10.out.at (asX lp2 (asX lq m0));obtain⟨z0,z1,z2,z3⟩:=aW hD;have hB:=R10.out.at (asX lp2 (asX lq m1));have hz:=frzI hB;obtain⟨y0,y1,y2,y3⟩:=aW hB;have R11:=(R10.out.perm (l':=(bf,aQ g f1 f2)::(lp2++(lq++[(wr.heap.size,aQ g q1 q2),(ba,jM g kd ca cb cc i j k l)]))) (by simpa using nU lp2 (lq++[(wr.heap.size,aQ g q1 q2)]) [(ba,jM g kd ca cb cc i j k l)] (bf,aQ g f1 f2))).write (dU [.pointer (some ⟨g,0,none⟩),.int .i64 (q1:Int),.pointer (some ⟨g,0,none⟩),.int .i64 (q2:Int)] 0 _) (jK (vs:=[.pointer (some ⟨g,0,none⟩),.int .i64 (q1:Int),.pointer (some ⟨g,0,none⟩),.int .i64 (q2:Int)]) hB rfl);have HW:Hid (Run ⟨w,B,ns⟩ g (N+dc+dt) (K1++[(A1,i),(A2,j),(B1,k),(B2,l)]) (lp2++(lq++[(bf,aQ g q1 q2),(ba,jM g kd ca cb cc i j k l)])) (gG wa bf 0 [.pointer (some ⟨g,0,none⟩),.int .i64 (q1:Int),.pointer (some ⟨g,0,none⟩),.int .i64 (q2:Int)])):=hdd ((R11.subl (l':=(bf,aQ g q1 q2)::(lp2++(lq++[(ba,jM g kd ca cb cc i j k l)]))) (List.Sublist.cons_cons _ (as0 (as3 _) (as0 (as3 _) (as5 _ _))))).perm (nU lp2 lq _ _).symm)
    simp only[gG]at HW;clear hD hB R10 R11;go_wp2_with fail
    go_roundw
    case rel=>exact⟨m+1,(q1,q2),lp2,by have:=HLT.out;omega,by go_num,HNX.out,by rw[List.take_add_one,HCH.out];exact(acX ((f1,f2),(q1,q2)) _).symm▸HO2.out,HW⟩
    case measure=>have:=HLT.out;simp[intOf];omega
  . obtain rfl:m=ps.length+1:=by omega
    have e:(chain (i,j) qs).take (ps.length+1)=chain (i,j) qs:=by rw[<-HQL.out,<-lV (i,j) qs,List.take_length]
    rw[e]at ho;have HE:=hdd (show pK w B ns g (N+(dc+dt)) (alN g kd ca cb cc i j k l es) (.returned (.tuple #[.slice pp (ps.length+1) cp,.nilIface])) wr from⟨_,lp,HF.out _ _ _ rfl ho,(HR.out.subl (List.sublist_append_left _ _)).more (by omega)⟩);clear ho HR hm hge hf;go_wp2
    go_ret2
    exact HE.out
end
section
open Go.RowKit Go.Maps
open Int renaming lt_tmod_of_pos->as7,tmod_lt_of_pos->as8
open Nat renaming le_trans->as9
theorem alQ(k:Int):∃J:Nat,J<12/\(k.tmod 12+12).tmod 12=(J:Int):=by
 have h1:=as7 k (show(0:Int)<12 by omega);have h3:0<=(k.tmod 12+12).tmod 12:=Int.tmod_nonneg _ (by omega);have h4:=as8 (k.tmod 12+12) (show(0:Int)<12 by omega);exact⟨((k.tmod 12+12).tmod 12).toNat,by omega,by omega⟩
theorem flw{a:Int}(h:a.natAbs<=6):Iw (fl a) a:=⟨⟨(ad8 (by omega)).1,(ad8 (by omega)).2.1⟩,(ad8 (by omega)).2.2⟩
theorem tmb(k:Int)(n:Nat)(h:0<n):(k.tmod (n:Int)).natAbs<=n-1:=by
 have h1:=as7 k (show(0:Int)<(n:Int) by omega);have h2:=as8 k (show(0:Int)<(n:Int) by omega);omega
theorem rY{a:Int}{J:Nat}(k:Int)(hJ:J<12)(e:k.tmod 7=a):Iw (fl a) a/\a.natAbs<=6/\(∃p,Op2 .add (fl a) (kX J) p/\Iw p (a+kXi J)/\(a+kXi J).natAbs<=12)/\∃p,Op2 .add (fl a) (kY J) p/\Iw p (a+kYi J)/\(a+kYi J).natAbs<=12:=by
 have h1:=as7 k (show(0:Int)<7 by omega);have h2:=as8 k (show(0:Int)<7 by omega);obtain⟨i1,i2⟩:=anH hJ;obtain⟨b1,b2⟩:=anI hJ;have h0:Iw (fl a) a:=flw (by omega);obtain⟨p,o1,p1⟩:=alC h0 i1 (by omega);obtain⟨q,o2,q1⟩:=alC h0 i2 (by omega);exact⟨h0,by omega,⟨p,o1,p1,by omega⟩,q,o2,q1,by omega⟩
theorem arS:Iw 4627730092099895296 25:=afO
def Pv(x y:Int)(E:Ex×Ex)(j:Nat):Prop:=Iv w25 E.1 (x+kXi j)/\Iv w25 E.2 (y+kYi j)
def Cen(wx wy:Nat)(x y:Int):Prop:=Iw wx x/\Iw wy y/\x.natAbs<=6/\y.natAbs<=6
section
variable{x y:Int}{wx wy:Nat}{A B X:Ex×Ex}{a b m:Nat}{K:List (Ex×Nat)}
theorem alR(J L:Nat):((x+kXi J==x+kXi L)&&(y+kYi J==y+kYi L))=eqB J L:=by
 have e:∀u p q:Int,(u+p==u+q)=(p==q):=fun u p q=>by rw[Bool.eq_iff_iff,beq_iff_eq,beq_iff_eq];omega
 unfold eqB;rw[e,e]
theorem alS(h:Pv x y A a)(g:Pv x y B b)(k:Pv x y X m):tC A.1 A.2 B.1 B.2 X.1 X.2 (onR a b m):=by
 have:=aaR h.1 h.2 g.1 g.2 k.1 k.2;rw[acV]at this;exact this
theorem an2(h:Pv x y A a)(g:Pv x y B b)(k:Pv x y X m):InH A.1 A.2 B.1 B.2 X.1 X.2 (innB a b m):=by
 have:=alJ h.1 h.2 g.1 g.2 k.1 k.2;rw[acV,alR,alR]at this;exact this
theorem jD(hC:Cen wx wy x y)(h:Pv x y X m)(hm:m<12):dQ PT (fQ wx wy w25 X.1 X.2) 0:=by
 refine alI hC.1 hC.2.1 afO (as9 hC.2.2.1 (by decide)) (as9 hC.2.2.2 (by decide)) (by decide) h.1 h.2 ?_;have:=apA ⟨m,hm⟩;rw[show x+kXi m-x=kXi m by omega,show y+kYi m-y=kYi m by omega];exact this
theorem xH(hC:Cen wx wy x y):lK wx wy w25/\(FloatKind.f64.format.order w25 0==some Ordering.eq)=false:=⟨⟨hC.1.1,hC.2.1.1,afO.1,apZ afO (by decide)⟩,by decide⟩
theorem afR(hC:Cen wx wy x y):Pv x y (lfE wx wy w25) 6/\Pv x y (rtE wx wy w25) 0:=by
 obtain⟨h1,h2⟩:=afQ (c:=w25) (r:=5) hC.1 (as9 hC.2.2.1 (by decide)) afO (by decide) (by decide) (by decide);have h3:=oQ (c:=w25) hC.2.1 (as9 hC.2.2.2 (by decide));refine⟨⟨?_,?_⟩,⟨?_,?_⟩⟩
 . rw[show x+kXi 6=x-5 by rw[show kXi 6=-5 by rfl];rfl];exact h1
 . rw[show y+kYi 6=y by rw[show kYi 6=0 by rfl];omega];exact h3
 . exact h2
 . rw[show y+kYi 0=y by rw[show kYi 0=0 by rfl];omega];exact h3
theorem aaS{p q:Nat}(h1:Iw p (x+kXi m))(h2:Iw q (y+kYi m))(b1:(x+kXi m).natAbs<=12)(b2:(y+kYi m).natAbs<=12):Pv x y (.leaf p,.leaf q) m:=⟨oQ h1 b1,oQ h2 b2⟩
theorem anL(hC:Cen wx wy x y)(h:Pv x y A a)(g:Pv x y B b)(ha:a<12)(hb:b<12):ad9 wx wy w25 A.1 A.2 B.1 B.2 (innB a b 6) (innB a b 0) (onR a 0 6):=by
 obtain⟨e1,e2⟩:=afR hC;exact⟨xH hC,⟨jD hC h ha,jD hC g hb,jD hC e1 (by decide),jD hC e2 (by decide)⟩,an2 h g e1,an2 h g e2,alS h e2 e1⟩
end
theorem alT(J L:Nat):∀j∈tF J L,j=6\/j=0:=by
 intro j hj;unfold tF cutB at hj
 split at hj
 . split at hj
   . split at hj<;>simp at hj<;>omega
   . simp at hj;omega
 . split at hj<;>simp at hj;omega
theorem ac0(J L:Nat):(tF J L).length<=2:=by
 unfold tF cutB
 split
 . split
   . split<;>simp
   . simp
 . split<;>simp
end
section
open Go.RowKit Go.Maps Go.Stop Go.Extern
open Go.Value renaming ownBlock->atC,oneCell'->atD
open Option.some renaming inj->atA,injEq->atE
variable{b:Nat}{w:World}
abbrev arcW(g:Nat)(kd:Int)(wa wb wc i j k l:Nat):Value:=.agg #[.int .i64 kd,.float .f64 wa,.float .f64 wb,.float .f64 wc,.pointer (some ⟨g,0,none⟩),.int .i64 (i:Int),.pointer (some ⟨g,0,none⟩),.int .i64 (j:Int),.pointer (some ⟨g,0,none⟩),.int .i64 (k:Int),.pointer (some ⟨g,0,none⟩),.int .i64 (l:Int)]
theorem aqL:Calls Tryz.prog 28 #[] w (fun e w'=>e=.returned (.iface 99 (.int .i64 4))/\w=w'):=by
 go_enter Tryz.func28,Tryz.ntmps28
 go_wp2;go_ret;exact⟨rfl,rfl⟩
theorem ap3:Calls Tryz.prog 28 #[] w (RetV w (.iface 99 (.int .i64 4))):=by
 go_enter Tryz.func28,Tryz.ntmps28
 go_wp2;go_ret;exact⟨rfl,Below.refl _ _⟩
theorem aqF{a c:Nat}(ha:a<18446744073709551616)(hb:b<18446744073709551616)(hc:c<18446744073709551616)(h:¬ap7 a b c):Calls Tryz.prog 25 #[curV 1 a b c] w (RetEr w 5):=by
 obtain⟨w1,hw1,hb1,hs1,b1⟩:=pro1 w (curO 1 a b c);obtain⟨c0,c1,c2,c3⟩:=aW b1;have HB:=hdd hb1;have HL:=hdd (aq4 (w:=w1) ha hb hc h);clear h hb1 hs1 b1 ha hb hc;go_enter Tryz.func25,Tryz.ntmps25
 go_wp2_with fail
 refine HL.out.mono ?_;rintro e w2 hr;obtain⟨er,n,rfl,-⟩:=id hr;have HR:=hdd hr;clear hr;go_wp2;go_ret;exact HR.out.up HB.out
theorem aqM{T:TypeId}{cs:Array Value}(h:w.heap[b]? =some (.cells cs T (0,0)))(k:Nat):w.frozen? ⟨b,k,none⟩=false:=by simp[World.frozen?,h]
def arO(w:World)(e:Ending)(w':World):Prop:=∃t x,e=.returned (.iface t x)/\Below w.heap.size w w'
theorem aqC:Tryz.prog.underlying 120=some (.slice 48):=by kernel_rfl
theorem aq7:(Tryz.prog.info? 48).map (fun i=>(i.zero,i.size,i.bytes))=some (some (.nilIface),1,16):=by kernel_rfl
theorem aq8{t1 t2:TypeId}{x1 x2:Value}(c0:w.cell? ⟨b,0,none⟩=some (.iface t1 x1))(c1:w.cell? ⟨b,1,none⟩=some (.iface t2 x2)):
 Calls Tryz.prog 46 #[.slice (some ⟨b,0,none⟩) 2 2] w (arO w):=by
 have hbl:b<w.heap.size:=World.block_lt_of_cell? w _ c0;obtain⟨i0,hi0,hz0,hz1,hz2⟩:=info_parts aq7;obtain⟨w2,hrun,hown,hgr⟩:=run_make_own (P:=Tryz.prog) w w.heap.size 120 48 i0 .nilIface 1 aqC hi0 hz0 hz1 .i64 .i64 2 (by rw[hz2];omega) (by unfold maxLen;omega) nlr;have hb2:Below w.heap.size w w2:=⟨hgr.os,hgr.tape,hgr.output,hgr.size,fun b hb=>hgr.block b hb (by simp)⟩;have hrun':(Instr.makeSlice 120 (.int .i64 0) (.int .i64 2)).run Tryz.prog w=.ok (.slice (some ⟨w.heap.size,0,none⟩) 0 2) w2:=by simpa using hrun
 have hs2:w.heap.size<w2.heap.size:=by
  rcases hown.2 with ⟨h,-⟩|⟨g,_,_,h,-,h2,-⟩
  . simp at h
  . simp only[Value.slice.injEq,atE,Addr.mk.injEq]at h
    obtain⟨⟨rfl,-⟩,-⟩:=h;exact aG h2
 obtain⟨w3,hw3,hb3,hs3,b3⟩:=pro1 w2 (.cells #[.slice (some ⟨w.heap.size,0,none⟩) 0 2] 123);obtain⟨w4,hw4,hb4,hs4,b4⟩:=pro1 w3 (.cells #[.iface t1 x1] 48);have e0:=aB (k:=0) (v:=.slice (some ⟨w.heap.size,0,none⟩) 0 2) b3 rfl;have d0:=cell_below (cbl c0 hb2) hb3 nlr;have d1:=cell_below (cbl c1 hb2) hb3 nlr;have f0:=cbl e0 hb4;have F1:=hdd (cbl d1 hb4);have HO4:=hdd ((hown.kept (bQ (row:=none) hb3) (Or.inr (by simp[atC]))).kept (bQ (row:=none) hb4) (Or.inr (by simp[atC])));have HC4:=hdd (jR b4);have HI0:=hdd hi0;have HZ0:=hdd hz0;have HZ1:=hdd hz1;have HZ2:=hdd hz2;have HB4:=hdd (aC (aC hb2 hb3) hb4);have HS4:Hid (w.heap.size<=w4.heap.size):=hdd HB4.out.size;have G4:=hdd (aH b3 hb4 (aG b3));have zz:=aqM G4.out;have HL2:Hid (w.heap.size<w2.heap.size/\w2.heap.size<w4.heap.size/\b<w.heap.size):=hdd ⟨hs2,by have:=aG b3;have:=hb4.size;omega,hbl⟩;clear hown hgr hb2 hrun hs2 hb3 hs3 b3 hb4 hs4 b4 hi0 hz0 hz1 hz2 f0 zz hbl
 go_enter Tryz.func46,Tryz.ntmps46
 go_wp2_with fail
 refine wp_loop_rounds 3 ?_;rw[rounds_succ];go_wp2_with fail
 rw[rounds_succ];go_wp2_with fail
 rw[rounds_succ];go_wp2_with fail
 refine wp_loop_rounds 3 ?_;rw[rounds_succ];go_wp2_with (first
  |(at_builtin
    go_loud (
    refine wpList_append_lies _ rfl _ _ 120 rfl w.heap.size 48 i0 .nilIface 1 16 aqC HI0.out HZ0.out HZ1.out HZ2.out rfl (by decide) _ 0 [] rfl HO4.out ⟨w3.heap.size,0,none⟩ 1 1 [.iface t1 x1] rfl rfl HC4.out (by simp[atD]) (by decide) (by unfold maxLen;omega) (by omega) HS4.out w4.heap.size rfl ?_;intro r cap w5 hown5 hgrow5 hat5 hlt5;have HO5:=hdd hown5;have HG5:=hdd hgrow5;have HA5:=hdd hat5;have G5:=hdd ((hgrow5.block w2.heap.size HL2.out.2.1 (fun e=>absurd (show some w2.heap.size=some w.heap.size from e) (fun k=>by have h1:=HL2.out.1;have h2:=atA k;omega))).trans G4.out);have zz:=aqM G5.out;have g0:=aB (k:=0) (v:=.slice (some ⟨w.heap.size,0,none⟩) 0 2) G5.out rfl;clear hown5 hgrow5 hat5 hlt5)))
 have HB5:=hdd (HB4.out.trans (Below.of_grown HG5.out HS4.out (by simp[atC])));have D5:Hid (w5.cell? ⟨b,1,none⟩=some (.iface t2 x2)):=hdd (cbl c1 HB5.out);have hr:r≠w2.heap.size:=by
  have h1:=HL2.out;rcases HA5.out with h|h
  . have h2:w.heap.size=r:=atA h;omega
  . omega
 obtain⟨w6,hw6⟩:∃v,w5.setCell ⟨w2.heap.size,0,none⟩ (.slice (some ⟨r,0,none⟩) 1 cap)=v:=⟨_,rfl⟩;have g6:=grownBy_set (mH w5 (some w2.heap.size)) (i:=0) (.slice (some ⟨r,0,none⟩) 1 cap);have s6:=kC (cs:=[.slice (some ⟨w.heap.size,0,none⟩) 0 2]) (k:=0) (v:=.slice (some ⟨r,0,none⟩) 1 cap) G5.out;rw[hw6]at g6 s6;have HR:Hid (w.heap.size<=r):=hdd (by
  rcases HA5.out with h|h
  . have h2:w.heap.size=r:=atA h;omega
  . have:=HL2.out;omega)
 have HO6:=hdd (HO5.out.kept g6 (Or.inr (fun e=>hr (atA e))));have HB6:=hdd (HB5.out.trans (Below.of_grown g6 HB5.out.size (Nat.le_of_lt HL2.out.1)));have G6:=hdd s6;simp only[hw6];have c6:=cbl c1 HB6.out;have g0:=aB (k:=0) (v:=.slice (some ⟨r,0,none⟩) 1 cap) G6.out rfl;obtain⟨w7,hw7,hb7,hs7,b7⟩:=pro1 w6 (.cells #[.iface t2 x2] 48);have HO7:=hdd (HO6.out.kept (bQ (row:=none) hb7) (Or.inr (by simp[atC])));have HC7:=hdd (jR b7);have HS7:Hid (w.heap.size<=w7.heap.size):=hdd (aC HB6.out hb7).size;have G7:=hdd (aH G6.out hb7 (aG G6.out));have HB7:=hdd (aC HB6.out hb7);have HL7:Hid (w2.heap.size<w7.heap.size):=hdd (aG G7.out);clear g6 s6 hw6 hb7 hs7 b7 HG5 HA5 G5 HB5 D5 HB4 G4 HC4 HO4 F1 d0 d1 hrun' c0 c1 HO5 HO6 zz;rw[rounds_succ];go_wp2_with (first
  |(at_builtin
    go_loud (
    refine wpList_append_lies _ rfl _ _ 120 rfl w.heap.size 48 i0 .nilIface 1 16 aqC HI0.out HZ0.out HZ1.out HZ2.out rfl (by decide) _ 1 [.iface t1 x1] rfl HO7.out ⟨w6.heap.size,0,none⟩ 1 1 [.iface t2 x2] rfl rfl HC7.out (by simp[atD]) (by decide) (by unfold maxLen;omega) (by omega) HS7.out w7.heap.size rfl ?_;intro r2 cap2 w8 hown8 hgrow8 hat8 hlt8;have HG8:=hdd hgrow8;have G8:=hdd ((hgrow8.block w2.heap.size HL7.out (fun e=>hr (atA (show some w2.heap.size=some r from e)).symm)).trans G7.out);have zz:=aqM G8.out;have g8:=aB (k:=0) (v:=.slice (some ⟨r,0,none⟩) 1 cap) G8.out rfl;clear hown8 hgrow8 hat8 hlt8)))
 have HB8:=hdd (HB7.out.trans (Below.of_grown HG8.out HS7.out (HR.out)));obtain⟨w9,hw9⟩:∃v,w8.setCell ⟨w2.heap.size,0,none⟩ (.slice (some ⟨r2,0,none⟩) 2 cap2)=v:=⟨_,rfl⟩;have g9:=grownBy_set (mH w8 (some w2.heap.size)) (i:=0) (.slice (some ⟨r2,0,none⟩) 2 cap2);rw[hw9]at g9;have HB9:=hdd (HB8.out.trans (Below.of_grown g9 HB8.out.size (Nat.le_of_lt HL2.out.1)));simp only[hw9];clear hw9 g9 HB8 HG8 G8 zz g8;rw[rounds_succ];go_wp2;go_ret;exact⟨_,_,rfl,HB9.out⟩
theorem aqN{t:TypeId}{x:Value}:Calls Tryz.prog 26 #[.iface t x] w (arO w):=by
 obtain⟨w1,hw1,hb1,hs1,b1⟩:=pro1 w (.cells #[.iface 99 (.int .i64 4),.iface t x] 48);have HJ:=hdd (aq8 (w:=w1) (aB (k:=0) (v:=.iface 99 (.int .i64 4)) b1 rfl) (aB (k:=1) (v:=.iface t x) b1 rfl));have HB:=hdd hb1;have HI:Hid (∀w',Calls Tryz.prog 28 #[] w' (fun e w2=>e=.returned (.iface 99 (.int .i64 4))/\w'=w2)):=hdd fun w'=>aqL;clear hb1 hs1 b1;go_enter Tryz.func26,Tryz.ntmps26
 go_wp2_with fail
 refine(HI.out _).mono ?_;rintro e w2⟨rfl,rfl⟩;go_wp2_with fail
 refine HJ.out.mono ?_;rintro e w3⟨t2,x2,rfl,hb3⟩;have HB3:=hdd (aC HB.out hb3);clear hb3;go_wp2;go_ret;exact⟨_,_,rfl,HB3.out⟩
end
end Go.Proofs.YtaojpfcboainmaaGreatDoor
