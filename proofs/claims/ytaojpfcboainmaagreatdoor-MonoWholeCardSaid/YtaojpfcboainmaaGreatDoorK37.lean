/- A part of the proof: contracts of functions and plain laws (MnD, MoA, QlV, MnE, AlvM). -/
import Derived.Test.YtaojpfcboainmaaGreatDoorK36
import Derived.Test.YtaojpfcboainmaaGreatDoorK34
import Derived.Test.YtaojpfcboainmaaGreatDoorK33
set_option linter.unusedVariables false
set_option linter.unusedSimpArgs false
set_option maxHeartbeats 25600000
set_option maxRecDepth 100000
namespace Go.Proofs.YtaojpfcboainmaaGreatDoor
open Go.RowKit Go.Maps Go.Stop Go.Extern
open List renaming mem_append_right->bi2,length_cons->bi3,mem_cons_of_mem->bi4,sublist_append_right->bi6,append_assoc->bi7,getElem?_cons_succ->bi9,sublist_cons_self->bjA,length_nil->bjB
open List.Sublist renaming append->bi5,refl->bi8
abbrev alM(g:Nat)(kd:Int)(ca cb cc i j k l:Nat):Value:=.agg #[.int .i64 kd,.float .f64 ca,.float .f64 cb,.float .f64 cc,.pointer (some ⟨g,0,none⟩),.int .i64 (i:Int),.pointer (some ⟨g,0,none⟩),.int .i64 (j:Int),.pointer (some ⟨g,0,none⟩),.int .i64 (k:Int),.pointer (some ⟨g,0,none⟩),.int .i64 (l:Int)]
abbrev jM(g:Nat)(kd:Int)(ca cb cc i j k l:Nat):Obj:=(.cells #[.int .i64 kd,.float .f64 ca,.float .f64 cb,.float .f64 cc,.pointer (some ⟨g,0,none⟩),.int .i64 (i:Int),.pointer (some ⟨g,0,none⟩),.int .i64 (j:Int),.pointer (some ⟨g,0,none⟩),.int .i64 (k:Int),.pointer (some ⟨g,0,none⟩),.int .i64 (l:Int)] 39)
def arL(g:Nat)(kd:Int)(ca cb cc:Nat):List ((Nat×Nat)×(Nat×Nat))->List Value
 |[]=>[]
 |p::ps=>[.int .i64 kd,.float .f64 ca,.float .f64 cb,.float .f64 cc,.pointer (some ⟨g,0,none⟩),.int .i64 (p.1.1:Int),.pointer (some ⟨g,0,none⟩),.int .i64 (p.1.2:Int),.pointer (some ⟨g,0,none⟩),.int .i64 (p.2.1:Int),.pointer (some ⟨g,0,none⟩),.int .i64 (p.2.2:Int)]++arL g kd ca cb cc ps
section
variable{g ca cb cc:Nat}{kd:Int}
theorem acX(q:(Nat×Nat)×(Nat×Nat)):∀ps:List ((Nat×Nat)×(Nat×Nat)),arL g kd ca cb cc (ps++[q])=arL g kd ca cb cc ps++[.int .i64 kd,.float .f64 ca,.float .f64 cb,.float .f64 cc,.pointer (some ⟨g,0,none⟩),.int .i64 (q.1.1:Int),.pointer (some ⟨g,0,none⟩),.int .i64 (q.1.2:Int),.pointer (some ⟨g,0,none⟩),.int .i64 (q.2.1:Int),.pointer (some ⟨g,0,none⟩),.int .i64 (q.2.2:Int)]
 |[]=>rfl
 |p::ps=>by rw[List.cons_append,arL,acX q ps,arL,bi7]
theorem xG{q:(Nat×Nat)×(Nat×Nat)}:∀{ps:List ((Nat×Nat)×(Nat×Nat))} {j:Nat},ps[j]? =some q->∀k u,[.int .i64 kd,.float .f64 ca,.float .f64 cb,.float .f64 cc,.pointer (some ⟨g,0,none⟩),.int .i64 (q.1.1:Int),.pointer (some ⟨g,0,none⟩),.int .i64 (q.1.2:Int),.pointer (some ⟨g,0,none⟩),.int .i64 (q.2.1:Int),.pointer (some ⟨g,0,none⟩),.int .i64 (q.2.2:Int)][k]? =some u->(arL g kd ca cb cc ps)[j*12+k]? =some u
 |[],_,h,_,_,_=>by simp at h
 |p::ps,0,h,k,u,hu=>by
  obtain rfl:p=q:=by simpa using h
  rw[arL,List.getElem?_append_left (by have:=(List.getElem?_eq_some_iff.1 hu).1;simp only[bi3,bjB]at this|-;omega),Nat.zero_mul,Nat.zero_add];exact hu
 |p::ps,j+1,h,k,u,hu=>by
  have:=xG (show ps[j]? =some q by simpa using h) k u hu;rw[arL,List.getElem?_append_right (by simp only[bi3,bjB];omega),<-this]
  congr 1
  simp only[bi3,bjB];omega
end
section
variable{α:Type}
theorem lV:∀(p:α) (qs:List α),(chain p qs).length=qs.length
 |_,[]=>rfl
 |_,q::qs=>by rw[chain,bi3,bi3,lV q qs]
theorem acY{f q:α}:∀{p:α} {qs:List α} {m:Nat},(p::qs)[m]? =some f->qs[m]? =some q->(chain p qs)[m]? =some (f,q)
 |_,[],_,_,h=>by simp at h
 |p,x::qs,0,h1,h2=>by
  obtain rfl:p=f:=by simpa using h1
  obtain rfl:x=q:=by simpa using h2
  rfl
 |p,x::qs,m+1,h1,h2=>by
  rw[chain,bi9];exact acY (by simpa using h1) (by simpa using h2)
theorem nU(a b c:List α)(x:α):(x::(a++(b++c))).Perm (a++(b++x::c)):=by
 rw[<-bi7,<-bi7];exact List.perm_middle.symm
end
def alN(g:Nat)(kd:Int)(ca cb cc i j k l:Nat)(es:List (Ex×Ex))(K1:List (Ex×Nat))(l1:List (Nat×Obj))(e:Ending):Prop:=∃v ps,e=.returned (.tuple #[v,.nilIface])/\OwnR 39 12 v (ps.length+1) (arL g kd ca cb cc (chain (i,j) (ps++[(k,l)]))) l1/\KnP K1 es ps
theorem alO:Tryz.prog.underlying 46=some (.slice 39):=by kernel_rfl
theorem alP:(Tryz.prog.info? 39).map (fun i=>(i.zero,i.size,i.bytes))=some (some (.agg #[.int .i64 0,.float .f64 0,.float .f64 0,.float .f64 0,.pointer none,.int .i64 0,.pointer none,.int .i64 0,.pointer none,.int .i64 0,.pointer none,.int .i64 0]),12,96):=by kernel_rfl
theorem acZ{g dc dt ca cb cc i j k l:Nat}{kd:Int}{A1 A2 B1 B2:Ex}{es:List (Ex×Ex)}(hes:es.length<=2)(HC:FnOk 13 g dc #[.pointer (some ⟨g,0,none⟩),alM g kd ca cb cc i j k l] [(A1,i),(A2,j),(B1,k),(B2,l)] (fun _=>.nilIface) [])(HT:FnAny 23 g dt #[.pointer (some ⟨g,0,none⟩),alM g kd ca cb cc i j k l] [(A1,i),(A2,j),(B1,k),(B2,l)] (pO g es)):
 FnAny 11 g (dc+dt) #[.pointer (some ⟨g,0,none⟩),alM g kd ca cb cc i j k l] [(A1,i),(A2,j),(B1,k),(B2,l)] (alN g kd ca cb cc i j k l es):=FnAny.of fun w B ns N hR hN=>by
 obtain⟨w1,hw1,hb1,hs1,b1⟩:=pro1 w (jM g kd ca cb cc i j k l);have R1:Run ⟨w,B,ns⟩ g N [(A1,i),(A2,j),(B1,k),(B2,l)] [(w.heap.size,jM g kd ca cb cc i j k l)] w1:=hw1▸hR.alloc _;have x0:=aB (k:=0) (v:=.int .i64 kd) b1 rfl;have x1:=aB (k:=1) (v:=.float .f64 ca) b1 rfl;have x2:=aB (k:=2) (v:=.float .f64 cb) b1 rfl;have x3:=aB (k:=3) (v:=.float .f64 cc) b1 rfl;have x4:=aB (k:=4) (v:=.pointer (some ⟨g,0,none⟩)) b1 rfl;have x5:=aB (k:=5) (v:=.int .i64 (i:Int)) b1 rfl;have x6:=aB (k:=6) (v:=.pointer (some ⟨g,0,none⟩)) b1 rfl;have x7:=aB (k:=7) (v:=.int .i64 (j:Int)) b1 rfl;have x8:=aB (k:=8) (v:=.pointer (some ⟨g,0,none⟩)) b1 rfl;have x9:=aB (k:=9) (v:=.int .i64 (k:Int)) b1 rfl;have x10:=aB (k:=10) (v:=.pointer (some ⟨g,0,none⟩)) b1 rfl;have x11:=aB (k:=11) (v:=.int .i64 (l:Int)) b1 rfl;have HC1:=hdd (HC _ _ _ _ w1 R1 (by omega) (fun p hp=>hp));have HT1:=hdd HT;have HN:=hdd hN;have hst:=aY;clear hR hb1 hs1 b1 R1 HC HT hN
 go_enter Tryz.func11,Tryz.ntmps11
 go_wp2_with fail
 refine HC1.out.mono ?_;rintro e w2⟨ks,-,rfl,hR2⟩;generalize w.heap.size=ba at*;have R2:Run ⟨w,B,ns⟩ g (N+dc) [(A1,i),(A2,j),(B1,k),(B2,l)] [(ba,jM g kd ca cb cc i j k l)] w2:=by simpa using hR2
 clear x0 x1 x2 x3 x4 x5 x6 x7 x8 x9 x10 x11 HC1 hR2;have x0:=aB (k:=0) (v:=.int .i64 kd) (R2.at m0) rfl;have x1:=aB (k:=1) (v:=.float .f64 ca) (R2.at m0) rfl;have x2:=aB (k:=2) (v:=.float .f64 cb) (R2.at m0) rfl;have x3:=aB (k:=3) (v:=.float .f64 cc) (R2.at m0) rfl;have x4:=aB (k:=4) (v:=.pointer (some ⟨g,0,none⟩)) (R2.at m0) rfl;have x5:=aB (k:=5) (v:=.int .i64 (i:Int)) (R2.at m0) rfl;have x6:=aB (k:=6) (v:=.pointer (some ⟨g,0,none⟩)) (R2.at m0) rfl;have x7:=aB (k:=7) (v:=.int .i64 (j:Int)) (R2.at m0) rfl;have x8:=aB (k:=8) (v:=.pointer (some ⟨g,0,none⟩)) (R2.at m0) rfl;have x9:=aB (k:=9) (v:=.int .i64 (k:Int)) (R2.at m0) rfl;have x10:=aB (k:=10) (v:=.pointer (some ⟨g,0,none⟩)) (R2.at m0) rfl;have x11:=aB (k:=11) (v:=.int .i64 (l:Int)) (R2.at m0) rfl;have HT2:=hdd (HT1.out _ _ _ _ w2 R2 (by have:=HN.out;omega) (fun p hp=>hp));clear R2 HT1;go_wp2_with fail
 refine HT2.out.mono ?_;rintro e w3⟨K1,l1,⟨v,ps,rfl,ho,hk⟩,hR3⟩;obtain⟨p0,c0,rfl⟩:=ho.slice;have HPS:=hdd (show ps.length<=2 from by have:=hk.len;omega);have HK:=hdd hk;have HO:=hdd ho;have R3:=hdd hR3;clear x0 x1 x2 x3 x4 x5 x6 x7 x8 x9 x10 x11 HT2 hR3 ho hk;have hq:=R3.out.at (bi2 l1 m0);have x0:=aB (k:=0) (v:=.int .i64 kd) hq rfl;have x1:=aB (k:=1) (v:=.float .f64 ca) hq rfl;have x2:=aB (k:=2) (v:=.float .f64 cb) hq rfl;have x3:=aB (k:=3) (v:=.float .f64 cc) hq rfl;have x4:=aB (k:=4) (v:=.pointer (some ⟨g,0,none⟩)) hq rfl;have x5:=aB (k:=5) (v:=.int .i64 (i:Int)) hq rfl;have x6:=aB (k:=6) (v:=.pointer (some ⟨g,0,none⟩)) hq rfl;have x7:=aB (k:=7) (v:=.int .i64 (j:Int)) hq rfl;have x8:=aB (k:=8) (v:=.pointer (some ⟨g,0,none⟩)) hq rfl;have x9:=aB (k:=9) (v:=.int .i64 (k:Int)) hq rfl;have x10:=aB (k:=10) (v:=.pointer (some ⟨g,0,none⟩)) hq rfl;have x11:=aB (k:=11) (v:=.int .i64 (l:Int)) hq rfl;clear hq;obtain⟨w4,hw4,hb4,hs4,b4⟩:=pro1 w3 (aQ g i j)
 have R4:=hdd (hw4▸R3.out.alloc _:Run ⟨w,B,ns⟩ g (N+dc+dt) (K1++[(A1,i),(A2,j),(B1,k),(B2,l)]) ((w3.heap.size,aQ g i j)::(l1++[(ba,jM g kd ca cb cc i j k l)])) w4);clear hb4 hs4 b4 R3
 go_upto_region 9 with fail
 clear x0 x1 x2 x3 x4 x5 x6 x7 x8 x9 x10 x11;have hq:=R4.out.at (bi4 _ (bi2 l1 m0));have x8:=aB (k:=8) (v:=.pointer (some ⟨g,0,none⟩)) hq rfl;have x9:=aB (k:=9) (v:=.int .i64 (k:Int)) hq rfl;have x10:=aB (k:=10) (v:=.pointer (some ⟨g,0,none⟩)) hq rfl;have x11:=aB (k:=11) (v:=.int .i64 (l:Int)) hq rfl;obtain⟨w5,hw5,hb5,hs5,b5⟩:=pro1 w4 (aQ g k l);have R5:=hdd ((hw5▸R4.out.alloc _:Run ⟨w,B,ns⟩ g (N+dc+dt) (K1++[(A1,i),(A2,j),(B1,k),(B2,l)]) ((w4.heap.size,aQ g k l)::((w3.heap.size,aQ g i j)::(l1++[(ba,jM g kd ca cb cc i j k l)]))) w5).perm (l':=l1++([(w4.heap.size,aQ g k l)]++[(w3.heap.size,aQ g i j),(ba,jM g kd ca cb cc i j k l)])) (by
  rw[show∀a b c:Nat×Obj,l1++([a]++[b,c])=l1++([]++a::[b,c]) from fun _ _ _=>rfl];exact(nU l1 [] _ _).symm.trans (List.Perm.cons _ (nU l1 [] _ _).symm)))
 have B5:=hdd b5;clear hq hb5 hs5 b5 R4;go_wp2_with (first
  |(at_builtin
    go_loud (
    refine aaQ afP acU rfl (by decide) HO.out R5.out B5.out rfl (by simp[Value.oneCell']) (by have:=HPS.out;omega) (by decide) rfl _ _ rfl rfl 1 rfl ?_;intro rq cq lq w6 ho6 hR6;have HQ0:=hdd ho6;have R6:=hdd (hR6.subl (l':=lq++[(w3.heap.size,aQ g i j),(ba,jM g kd ca cb cc i j k l)]) (bi5 (bi8 _) (bi6 _ _)));clear ho6 hR6)))
 have HQ:Hid (OwnR 37 4 (.slice (some ⟨rq,0,none⟩) (ps.length+1) cq) (ps.length+1) (spL g (ps++[(k,l)])) lq):=hdd (by rw[vX];exact HQ0.out);obtain⟨qs,hqs⟩:∃qs,ps++[(k,l)]=qs:=⟨_,rfl⟩;have HQL:=hdd (show qs.length=ps.length+1 from by rw[<-hqs];simp);have HF:Hid (∀v l1' e,e=.returned (.tuple #[v,.nilIface])->OwnR 39 12 v (ps.length+1) (arL g kd ca cb cc (chain (i,j) qs)) l1'->alN g kd ca cb cc i j k l es (K1++[(A1,i),(A2,j),(B1,k),(B2,l)]) l1' e):=hdd (fun v l1' e h1 h2=>⟨v,ps,h1,by rw[hqs];exact h2,HK.out.mono (fun p hp=>List.mem_append_left _ hp)⟩);rw[hqs]at HQ;have hqI:(ps.length:Int)+1<=3:=by have:=HPS.out;omega
 clear HQ0 HK HO R5 B5 x8 x9 x10 x11 hqs hes;generalize w3.heap.size=bf at*;go_wp2_with fail
 go_loopw [9,36] (fun v i' wr=>∃(m:Nat) (f:Nat×Nat) (lp:List (Nat×Obj)),m<=ps.length+1/\i'=.int .i64 (m:Int)/\((i,j)::qs)[m]? =some f/\OwnR 39 12 v m (arL g kd ca cb cc ((chain (i,j) qs).take m)) lp/\Hid (Run ⟨w,B,ns⟩ g (N+dc+dt) (K1++[(A1,i),(A2,j),(B1,k),(B2,l)]) (lp++(lq++[(bf,aQ g f.1 f.2),(ba,jM g kd ca cb cc i j k l)])) wr)) (fun _ i' _=>((ps.length:Int)+1-intOf i').toNat)
 case atStart=>exact⟨0,(i,j),[],Nat.zero_le _,rfl,rfl,OwnR.nil _ _,R6⟩
 case round=>
  clear R6;obtain⟨m,f,lp,hm,rfl,hf,ho,HR⟩:=hrel;obtain⟨pp,cp,rfl⟩:=ho.slice;rcases Nat.lt_or_ge m (ps.length+1)with hlt|hge
  . obtain⟨q,hq⟩:∃q,qs[m]? =some q:=⟨_,List.getElem?_eq_getElem (by rw[HQL.out];exact hlt)⟩
    obtain⟨rz,erz,x0,x1,x2,x3⟩:=HQ.out.spot (HR.out.subl (bi6 _ _)) hq;obtain rfl:rq=rz:=by simpa using erz
    have HCH:=hdd (acY hf hq);have HNX:=hdd (show((i,j)::qs)[m+1]? =some q by rw[bi9];exact hq);obtain⟨w7,hw7,hb7,hs7,b7⟩:=pro1 wr (aQ g q.1 q.2);have R7:=hdd (hw7▸HR.out.alloc _:Run ⟨w,B,ns⟩ g (N+dc+dt) (K1++[(A1,i),(A2,j),(B1,k),(B2,l)]) ((wr.heap.size,aQ g q.1 q.2)::(lp++(lq++[(bf,aQ g f.1 f.2),(ba,jM g kd ca cb cc i j k l)]))) w7);have HO:=hdd ho;have HLT:=hdd hlt;have hm0:(0:Int)<=(m:Int):=by omega
    have hmI:(m:Int)<(ps.length:Int)+1:=by omega
    obtain⟨q1,q2⟩:=q;obtain⟨f1,f2⟩:=f;dsimp only at*;clear hf ho hq HR hb7 hs7 b7 hlt hm erz
    go_upto_region 12 with fail
    clear x0 x1 x2 x3;have hA:=R7.out.at (bi4 _ (bi2 lp (bi2 lq m1)));have hB:=R7.out.at (bi4 _ (bi2 lp (bi2 lq m0)));have hD:=R7.out.at m0;have x0:=aB (k:=0) (v:=.int .i64 kd) hA rfl;have x1:=aB (k:=1) (v:=.float .f64 ca) hA rfl;have x2:=aB (k:=2) (v:=.float .f64 cb) hA rfl;have x3:=aB (k:=3) (v:=.float .f64 cc) hA rfl;have y0:=aB (k:=0) (v:=.pointer (some ⟨g,0,none⟩)) hB rfl;have y1:=aB (k:=1) (v:=.int .i64 (f1:Int)) hB rfl;have y2:=aB (k:=2) (v:=.pointer (some ⟨g,0,none⟩)) hB rfl;have y3:=aB (k:=3) (v:=.int .i64 (f2:Int)) hB rfl;have z0:=aB (k:=0) (v:=.pointer (some ⟨g,0,none⟩)) hD rfl;have z1:=aB (k:=1) (v:=.int .i64 (q1:Int)) hD rfl;have z2:=aB (k:=2) (v:=.pointer (some ⟨g,0,none⟩)) hD rfl;have z3:=aB (k:=3) (v:=.int .i64 (q2:Int)) hD rfl;obtain⟨w8,hw8,hb8,hs8,b8⟩:=pro1 w7 (jM g kd ca cb cc f1 f2 q1 q2);have B8:=hdd b8
    have R8:=hdd ((hw8▸R7.out.alloc _:Run ⟨w,B,ns⟩ g (N+dc+dt) (K1++[(A1,i),(A2,j),(B1,k),(B2,l)]) ((w7.heap.size,jM g kd ca cb cc f1 f2 q1 q2)::((wr.heap.size,aQ g q1 q2)::(lp++(lq++[(bf,aQ g f1 f2),(ba,jM g kd ca cb cc i j k l)])))) w8).subl (bjA _ _));have R9:=hdd (R8.out.perm (nU lp lq _ _).symm);clear hA hB hD R7 hb8 hs8 b8 R8
    go_upto_region 13 with (first
     |(at_builtin
       go_loud (
       refine aaQ alO alP rfl (by decide) HO.out R9.out B8.out rfl (by simp[Value.oneCell']) (by have:=HPS.out;have:=HLT.out;omega) (by decide) rfl _ _ rfl rfl 1 rfl ?_;intro r2 cap2 lp2 wa hoa hRa;have HO2:=hdd hoa;have R10:=hdd hRa;clear hoa hRa)))
    clear x0 x1 x2 x3 y0 y1 y2 y3 z0 z1 z2 z3 R9 B8 HO;have hD:=R10.out.at (bi2 lp2 (bi2 lq m0));have z0:=aB (k:=0) (v:=.pointer (some ⟨g,0,none⟩)) hD rfl;have z1:=aB (k:=1) (v:=.int .i64 (q1:Int)) hD rfl;have z2:=aB (k:=2) (v:=.pointer (some ⟨g,0,none⟩)) hD rfl;have z3:=aB (k:=3) (v:=.int .i64 (q2:Int)) hD rfl;have hB:=R10.out.at (bi2 lp2 (bi2 lq m1));have hz:=frzI hB;have y0:=aB (k:=0) (v:=.pointer (some ⟨g,0,none⟩)) hB rfl;have y1:=aB (k:=1) (v:=.int .i64 (f1:Int)) hB rfl;have y2:=aB (k:=2) (v:=.pointer (some ⟨g,0,none⟩)) hB rfl;have y3:=aB (k:=3) (v:=.int .i64 (f2:Int)) hB rfl;have R11:=(R10.out.perm (l':=(bf,aQ g f1 f2)::(lp2++(lq++[(wr.heap.size,aQ g q1 q2),(ba,jM g kd ca cb cc i j k l)]))) (by simpa using nU lp2 (lq++[(wr.heap.size,aQ g q1 q2)]) [(ba,jM g kd ca cb cc i j k l)] (bf,aQ g f1 f2))).write (dU [.pointer (some ⟨g,0,none⟩),.int .i64 (q1:Int),.pointer (some ⟨g,0,none⟩),.int .i64 (q2:Int)] 0 _) (jK (vs:=[.pointer (some ⟨g,0,none⟩),.int .i64 (q1:Int),.pointer (some ⟨g,0,none⟩),.int .i64 (q2:Int)]) hB rfl)
    have HW:Hid (Run ⟨w,B,ns⟩ g (N+dc+dt) (K1++[(A1,i),(A2,j),(B1,k),(B2,l)]) (lp2++(lq++[(bf,aQ g q1 q2),(ba,jM g kd ca cb cc i j k l)])) (gG wa bf 0 [.pointer (some ⟨g,0,none⟩),.int .i64 (q1:Int),.pointer (some ⟨g,0,none⟩),.int .i64 (q2:Int)])):=hdd ((R11.subl (l':=(bf,aQ g q1 q2)::(lp2++(lq++[(ba,jM g kd ca cb cc i j k l)]))) (List.Sublist.cons_cons _ (bi5 (bi8 _) (bi5 (bi8 _) (bjA _ _))))).perm (nU lp2 lq _ _).symm);simp only[gG]at HW;clear hD hB R10 R11;go_wp2_with fail
    go_roundw
    case rel=>exact⟨m+1,(q1,q2),lp2,by have:=HLT.out;omega,by go_num,HNX.out,by rw[List.take_add_one,HCH.out];exact(acX ((f1,f2),(q1,q2)) _).symm▸HO2.out,HW⟩
    case measure=>have:=HLT.out;simp[intOf];omega
  . obtain rfl:m=ps.length+1:=by omega
    have e:(chain (i,j) qs).take (ps.length+1)=chain (i,j) qs:=by rw[<-HQL.out,<-lV (i,j) qs,List.take_length]
    rw[e]at ho;have HE:=hdd (show pK w B ns g (N+(dc+dt)) (alN g kd ca cb cc i j k l es) (.returned (.tuple #[.slice pp (ps.length+1) cp,.nilIface])) wr from⟨_,lp,HF.out _ _ _ rfl ho,(HR.out.subl (List.sublist_append_left _ _)).more (by omega)⟩);clear ho HR hm hge hf;go_wp2
    go_ret2
    exact HE.out
end Go.Proofs.YtaojpfcboainmaaGreatDoor
namespace Go.Proofs.YtaojpfcboainmaaGreatDoor
open Go.RowKit Go.Maps
open Nat renaming le_trans->bjC
theorem alQ(k:Int):∃J:Nat,J<12/\(k.tmod 12+12).tmod 12=(J:Int):=by
 have h1:=Int.lt_tmod_of_pos k (show(0:Int)<12 by omega);have h3:0<=(k.tmod 12+12).tmod 12:=Int.tmod_nonneg _ (by omega);have h4:=Int.tmod_lt_of_pos (k.tmod 12+12) (show(0:Int)<12 by omega);exact⟨((k.tmod 12+12).tmod 12).toNat,by omega,by omega⟩
theorem flw{a:Int}(h:a.natAbs<=6):Iw (fl a) a:=⟨⟨(ad8 (by omega)).1,(ad8 (by omega)).2.1⟩,(ad8 (by omega)).2.2⟩
theorem rY{a:Int}{J:Nat}(k:Int)(hJ:J<12)(e:k.tmod 7=a):Iw (fl a) a/\a.natAbs<=6/\(∃p,Op2 .add (fl a) (kX J) p/\Iw p (a+kXi J)/\(a+kXi J).natAbs<=12)/\∃p,Op2 .add (fl a) (kY J) p/\Iw p (a+kYi J)/\(a+kYi J).natAbs<=12:=by
 have h1:=Int.lt_tmod_of_pos k (show(0:Int)<7 by omega);have h2:=Int.tmod_lt_of_pos k (show(0:Int)<7 by omega);obtain⟨i1,i2⟩:=anH hJ;obtain⟨b1,b2⟩:=anI hJ;have h0:Iw (fl a) a:=flw (by omega);obtain⟨p,o1,p1⟩:=alC h0 i1 (by omega);obtain⟨q,o2,q1⟩:=alC h0 i2 (by omega);exact⟨h0,by omega,⟨p,o1,p1,by omega⟩,q,o2,q1,by omega⟩
def Pv(x y:Int)(E:Ex×Ex)(j:Nat):Prop:=Iv w25 E.1 (x+kXi j)/\Iv w25 E.2 (y+kYi j)
def Cen(wx wy:Nat)(x y:Int):Prop:=Iw wx x/\Iw wy y/\x.natAbs<=6/\y.natAbs<=6
def PtK(K:List (Ex×Nat))(x y:Int)(p:Nat×Nat)(j:Nat):Prop:=j<12/\∃E:Ex×Ex,(E.1,p.1)∈K/\(E.2,p.2)∈K/\Pv x y E j
def PtL(K:List (Ex×Nat))(x y:Int):List (Nat×Nat)->List Nat->Prop
 |[],[]=>True
 |p::ps,j::js=>PtK K x y p j/\PtL K x y ps js
 |_,_=>False
section
variable{x y:Int}{wx wy:Nat}{A B X:Ex×Ex}{a b m:Nat}{K:List (Ex×Nat)}
theorem alR(J L:Nat):((x+kXi J==x+kXi L)&&(y+kYi J==y+kYi L))=eqB J L:=by
 have e:∀u p q:Int,(u+p==u+q)=(p==q):=fun u p q=>by rw[Bool.eq_iff_iff,beq_iff_eq,beq_iff_eq];omega
 unfold eqB;rw[e,e]
theorem alS(h:Pv x y A a)(g:Pv x y B b)(k:Pv x y X m):tC A.1 A.2 B.1 B.2 X.1 X.2 (onR a b m):=by
 have:=aaR h.1 h.2 g.1 g.2 k.1 k.2;rw[acV]at this;exact this
theorem an2(h:Pv x y A a)(g:Pv x y B b)(k:Pv x y X m):InH A.1 A.2 B.1 B.2 X.1 X.2 (innB a b m):=by
 have:=alJ h.1 h.2 g.1 g.2 k.1 k.2;rw[acV,alR,alR]at this;exact this
theorem jD(hC:Cen wx wy x y)(h:Pv x y X m)(hm:m<12):dQ PT (fQ wx wy w25 X.1 X.2) 0:=by
 refine alI hC.1 hC.2.1 afO (bjC hC.2.2.1 (by decide)) (bjC hC.2.2.2 (by decide)) (by decide) h.1 h.2 ?_;have:=apA ⟨m,hm⟩;rw[show x+kXi m-x=kXi m by omega,show y+kYi m-y=kYi m by omega];exact this
theorem xH(hC:Cen wx wy x y):lK wx wy w25/\(FloatKind.f64.format.order w25 0==some Ordering.eq)=false:=⟨⟨hC.1.1,hC.2.1.1,afO.1,apZ afO (by decide)⟩,by decide⟩
theorem afR(hC:Cen wx wy x y):Pv x y (lfE wx wy w25) 6/\Pv x y (rtE wx wy w25) 0:=by
 obtain⟨h1,h2⟩:=afQ (c:=w25) (r:=5) hC.1 (bjC hC.2.2.1 (by decide)) afO (by decide) (by decide) (by decide);have h3:=oQ (c:=w25) hC.2.1 (bjC hC.2.2.2 (by decide));refine⟨⟨?_,?_⟩,⟨?_,?_⟩⟩
 . rw[show x+kXi 6=x-5 by rw[show kXi 6=-5 by rfl];rfl];exact h1
 . rw[show y+kYi 6=y by rw[show kYi 6=0 by rfl];omega];exact h3
 . exact h2
 . rw[show y+kYi 0=y by rw[show kYi 0=0 by rfl];omega];exact h3
theorem aaS{p q:Nat}(h1:Iw p (x+kXi m))(h2:Iw q (y+kYi m))(b1:(x+kXi m).natAbs<=12)(b2:(y+kYi m).natAbs<=12):Pv x y (.leaf p,.leaf q) m:=⟨oQ h1 b1,oQ h2 b2⟩
theorem anL(hC:Cen wx wy x y)(h:Pv x y A a)(g:Pv x y B b)(ha:a<12)(hb:b<12):ad9 wx wy w25 A.1 A.2 B.1 B.2 (innB a b 6) (innB a b 0) (onR a 0 6):=by
 obtain⟨e1,e2⟩:=afR hC;exact⟨xH hC,⟨jD hC h ha,jD hC g hb,jD hC e1 (by decide),jD hC e2 (by decide)⟩,an2 h g e1,an2 h g e2,alS h e2 e1⟩
theorem PtK.mono {K':List (Ex×Nat)}(h:∀p∈K,p∈K'){p:Nat×Nat}:PtK K x y p m->PtK K' x y p m:=fun⟨h0,E,h1,h2,h3⟩=>⟨h0,E,h _ h1,h _ h2,h3⟩
theorem PtL.mono {K':List (Ex×Nat)}(h:∀p∈K,p∈K'):∀{ps:List (Nat×Nat)} {l:List Nat},PtL K x y ps l->PtL K' x y ps l
 |[],[],_=>trivial
 |[],_::_,h=>h.elim
 |_::_,[],h=>h.elim
 |_::_,_::_,h1=>⟨h1.1.mono h,PtL.mono h h1.2⟩
theorem PtL.of (hC:Cen wx wy x y):∀{l:List Nat} {ps:List (Nat×Nat)},(∀j∈l,j=6\/j=0)->KnP K (mR wx wy w25 l) ps->PtL K x y ps l
 |[],[],_,_=>trivial
 |[],_::_,_,h=>h.elim
 |_::_,[],_,h=>h.elim
 |j::l,p::ps,hl,h=>by
  refine⟨?_,PtL.of hC (fun i hi=>hl i (List.mem_cons_of_mem _ hi)) h.2⟩;obtain⟨e1,e2⟩:=afR hC;rcases hl j (List.mem_cons_self ..)with rfl|rfl
  . exact⟨by decide,_,h.1.1,h.1.2,e1⟩
  . exact⟨by decide,_,h.1.1,h.1.2,e2⟩
theorem PtL.snoc {p:Nat×Nat}(h:PtK K x y p m):∀{ps:List (Nat×Nat)} {l:List Nat},PtL K x y ps l->PtL K x y (ps++[p]) (l++[m])
 |[],[],_=>⟨h,trivial⟩
 |[],_::_,h=>h.elim
 |_::_,[],h=>h.elim
 |_::_,_::_,h1=>⟨h1.1,PtL.snoc h h1.2⟩
theorem PtL.len:∀{ps:List (Nat×Nat)} {l:List Nat},PtL K x y ps l->ps.length=l.length
 |[],[],_=>rfl
 |[],_::_,h=>h.elim
 |_::_,[],h=>h.elim
 |_::_,_::_,h1=>by rw[List.length_cons,List.length_cons,h1.2.len]
theorem PtL.at {f q:Nat×Nat}:∀{p:Nat×Nat} {j k:Nat} {ps:List (Nat×Nat)} {js:List Nat},PtK K x y p j->PtL K x y ps js->(chain p ps)[k]? =some (f,q)->∃a b,(chain j js)[k]? =some (a,b)/\PtK K x y f a/\PtK K x y q b
 |_,_,_,[],_,_,_,h=>by simp[chain]at h
 |_,_,_,_::_,[],_,h,_=>h.elim
 |p,j,0,r::ps,i::js,h1,h2,h3=>by
  simp only[chain,List.getElem?_cons_zero,Option.some.injEq,Prod.mk.injEq]at h3;obtain⟨rfl,rfl⟩:=h3;exact⟨j,i,rfl,h1,h2.1⟩
 |p,j,k+1,r::ps,i::js,h1,h2,h3=>by
  rw[chain,List.getElem?_cons_succ];exact PtL.at h2.1 h2.2 (by rwa[chain,List.getElem?_cons_succ]at h3)
end
theorem alT(J L:Nat):∀j∈tF J L,j=6\/j=0:=by
 intro j hj;unfold tF cutB at hj
 split at hj
 . split at hj
   . split at hj<;>simp at hj<;>omega
   . simp at hj;omega
 . split at hj<;>simp at hj;omega
theorem ac0(J L:Nat):(tF J L).length<=2:=by
 unfold tF cutB
 split
 . split
   . split<;>simp
   . simp
 . split<;>simp
end Go.Proofs.YtaojpfcboainmaaGreatDoor
namespace Go.Proofs.YtaojpfcboainmaaGreatDoor
open Go.RowKit Go.Maps Go.Stop Go.Extern
open List renaming mem_cons_of_mem->bjD,mem_append_left->bjE
theorem KnP.two {K:List (Ex×Nat)}{e1 e2:Ex×Ex}:∀{ps:List (Nat×Nat)},KnP K [e1,e2] ps->∃p q:Nat×Nat,ps=[p,q]/\((e1.1,p.1)∈K/\(e1.2,p.2)∈K)/\(e2.1,q.1)∈K/\(e2.2,q.2)∈K
 |[p,q],⟨h1,h2,_⟩=>⟨p,q,rfl,h1,h2⟩
 |[],h=>h.elim
 |[_],h=>h.2.elim
 |_::_::_::_,h=>h.2.2.elim
theorem afS:Iw 0 0:=⟨ak8,apX⟩
theorem ap0:Iw 13830554455654793216 (-1):=⟨⟨by decide,by decide⟩,by kernel_rfl⟩
theorem xI:ad9 0 0 4607182418800017408 (.leaf 0) (.leaf 4607182418800017408) (.leaf 0) (.leaf 4607182418800017408) true true true/\iK PT (lfE 0 0 4607182418800017408).1 (lfE 0 0 4607182418800017408).2 (.leaf 13830554455654793216) (.leaf 0) 0/\iK PT (rtE 0 0 4607182418800017408).1 (rtE 0 0 4607182418800017408).2 (.leaf 4607182418800017408) (.leaf 0) 0:=by
 have z0:=oQ (c:=4607182418800017408) afS (by decide);have z1:=oQ (c:=4607182418800017408) iw_1 (by decide);have zm:=oQ (c:=4607182418800017408) ap0 (by decide);obtain⟨e1,e2⟩:=afQ (c:=4607182418800017408) (r:=1) afS (by decide) iw_1 (by decide) (by decide) (by decide);have C:∀{X Y:Ex} {a b:Int},Iv 4607182418800017408 X a->Iv 4607182418800017408 Y b->a*a+b*b=1->dQ PT (fQ 0 0 4607182418800017408 X Y) 0:=fun hx hy e=>alI afS afS iw_1 (by decide) (by decide) (by decide) hx hy (by simpa using e);refine⟨⟨⟨⟨ak8,ak8,iw_1.1,by rw[anZ];exact Int.mul_nonneg (by decide) (Int.natCast_nonneg _)⟩,by decide⟩,⟨C z0 z1 (by decide),C z0 z1 (by decide),C e1 z0 (by decide),C e2 z0 (by decide)⟩,alJ z0 z1 z0 z1 e1 z0,alJ z0 z1 z0 z1 e2 z0,aaR z0 z1 e2 z0 e1 z0⟩,?_,?_⟩
 . obtain⟨z,h1,h2⟩:=pM e1 z0 zm z0
   obtain rfl:z=0:=by simpa using h2
   exact h1
 . obtain⟨z,h1,h2⟩:=pM e2 z0 z1 z0
   obtain rfl:z=0:=by simpa using h2
   exact h1
theorem anM{w:World}(hT:Tab w)(htb:1<w.heap.size):
 Calls Tryz.prog 8 #[] w (RetV w (.bool true)):=by
 have HN:=hdd (aeV (l:=[]) (Below.refl w.heap.size w) (fun p hp=>by cases hp) (by simp) hT htb);clear hT htb;have HX:=hdd xI.2;go_enter Tryz.func8,Tryz.ntmps8
 go_wp2_with fail
 refine HN.out.mono ?_;rintro e W1⟨g,rfl,hR⟩;have HA:=hdd (hR.spot (by omega) (v:=0) (u:=4607182418800017408) (by decide) (by decide) (by decide) (by decide));clear hR HN;dsimp only;go_wp2_with fail
 refine HA.out.mono ?_;rintro e W2⟨i,j,rfl,hR2⟩;obtain⟨w3,hw3,hb3,hs3,b3⟩:=pro1 W2 (aQ g i j);have R3:=hw3▸hR2.alloc (aQ g i j);have x0:=aB (k:=0) (v:=.pointer (some ⟨g,0,none⟩)) b3 rfl;have x1:=aB (k:=1) (v:=.int .i64 (i:Int)) b3 rfl;have x2:=aB (k:=2) (v:=.pointer (some ⟨g,0,none⟩)) b3 rfl;have x3:=aB (k:=3) (v:=.int .i64 (j:Int)) b3 rfl;have hH:=xI.1;have HC:=hdd (acZ (kd:=2) (i:=i) (j:=j) (k:=i) (l:=j) (by decide) (xD hH.1.1 hH.1.2 hH.2.1.1 hH.2.1.2.1) (xF hH) _ _ _ _ w3 R3 (by omega) (by
  intro p hp;simp only[List.mem_cons,List.not_mem_nil,or_false]at hp|-;rcases hp with rfl|rfl|rfl|rfl<;>simp))
 clear hR2 hb3 hs3 b3 R3 hH HA;go_wp2_with fail
 refine HC.out.mono ?_;rintro e W4⟨K1,l1,⟨v,ps,rfl,ho,hk⟩,hR4⟩;obtain⟨p6,p0,rfl,h6,h0⟩:=KnP.two (show KnP K1 [lfE 0 0 4607182418800017408,rtE 0 0 4607182418800017408] ps from hk);obtain⟨pp,cp,rfl⟩:=ho.slice;have R4:=hdd hR4;have HK:=hdd (And.intro h6 h0);have HO:Hid (OwnR 39 12 (.slice pp 3 cp) 3 (arL g 2 0 0 4607182418800017408 [((i,j),p6),(p6,p0),(p0,(i,j))]) l1):=hdd ho;clear hR4 ho hk HC x0 x1 x2 x3 h6 h0;obtain⟨p6a,p6b⟩:=p6;obtain⟨p0a,p0b⟩:=p0;have HU:Hid (∃r,pp=some ⟨r,0,none⟩/\∀(M:Nat) (K:List (Ex×Nat)) (W:World) (L:List (Nat×Obj)),Run (bs w) g M K (l1++L) W->∀k u,[.int .i64 2,.float .f64 0,.float .f64 0,.float .f64 4607182418800017408,.pointer (some ⟨g,0,none⟩),.int .i64 (p6a:Int),.pointer (some ⟨g,0,none⟩),.int .i64 (p6b:Int),.pointer (some ⟨g,0,none⟩),.int .i64 (p0a:Int),.pointer (some ⟨g,0,none⟩),.int .i64 (p0b:Int)][k]? =some u->W.cell? ⟨r,12+k,none⟩=some u):=hdd (by
  obtain⟨r,e,-⟩:=HO.out.cellW R4.out (xG (j:=1) (q:=((p6a,p6b),(p0a,p0b))) rfl 0 _ rfl);refine⟨r,e,fun M K W L hR k u hu=> ?_⟩;obtain⟨r2,e2,h⟩:=HO.out.cellW hR (xG (j:=1) (q:=((p6a,p6b),(p0a,p0b))) rfl k u hu);rw[e]at e2;obtain rfl:r=r2:=by simpa using e2
  exact h)
 clear HO;obtain⟨r,rfl,HU2⟩:=HU.out;have HU:=hdd HU2;clear HU2
 go_upto_region 8 with fail
 have RD:=hdd R4.out.drew;have d0:=HU.out _ _ _ _ RD.out 4 _ rfl;have d1:=HU.out _ _ _ _ RD.out 5 _ rfl;have d2:=HU.out _ _ _ _ RD.out 6 _ rfl;have d3:=HU.out _ _ _ _ RD.out 7 _ rfl;have HA:=hdd (RD.out.spot (by omega) (v:=13830554455654793216) (u:=0) (by decide) (by decide) (by decide) (by decide));clear R4
 go_region_held3 (fun w'=>w'.cell? ⟨r,16,none⟩=some (.pointer (some ⟨g,0,none⟩))/\w'.cell? ⟨r,17,none⟩=some (.int .i64 (p6a:Int))/\w'.cell? ⟨r,18,none⟩=some (.pointer (some ⟨g,0,none⟩))/\w'.cell? ⟨r,19,none⟩=some (.int .i64 (p6b:Int))) (go_keep)
  (first
  |(go_at_call 17
    with_reducible refine HA.out.mono ?_
    rintro e wm⟨k1,k2,rfl,hR5⟩;have RS:=hdd hR5;have d0:=HU.out _ _ _ _ RS.out 4 _ rfl;have d1:=HU.out _ _ _ _ RS.out 5 _ rfl;have d2:=HU.out _ _ _ _ RS.out 6 _ rfl;have d3:=HU.out _ _ _ _ RS.out 7 _ rfl;clear hR5)
  |(go_at_call 14
    with_reducible refine(RS.out.same (by omega) (bjD _ (bjD _ (bjE _ HK.out.1.1))) (bjD _ (bjD _ (bjE _ HK.out.1.2))) m0 m1 HX.out.1).mono ?_
    rintro e wm2⟨rfl,hR6⟩;have R6:=hdd (hR6.few (fun p hp=>bjD _ (bjD _ hp)));have d0:=HU.out _ _ _ _ R6.out 4 _ rfl;have d1:=HU.out _ _ _ _ R6.out 5 _ rfl;have d2:=HU.out _ _ _ _ R6.out 6 _ rfl;have d3:=HU.out _ _ _ _ R6.out 7 _ rfl;clear hR6 RS))
 clear d0 d1 d2 d3 HA RD
 go_upto_region 9 with fail
 have RD:=hdd R6.out.drew;have d0:=HU.out _ _ _ _ RD.out 8 _ rfl;have d1:=HU.out _ _ _ _ RD.out 9 _ rfl;have d2:=HU.out _ _ _ _ RD.out 10 _ rfl;have d3:=HU.out _ _ _ _ RD.out 11 _ rfl;have HA:=hdd (RD.out.spot (by omega) (v:=4607182418800017408) (u:=0) (by decide) (by decide) (by decide) (by decide));clear R6
 go_region_held3 (fun w'=>w'.cell? ⟨r,20,none⟩=some (.pointer (some ⟨g,0,none⟩))/\w'.cell? ⟨r,21,none⟩=some (.int .i64 (p0a:Int))/\w'.cell? ⟨r,22,none⟩=some (.pointer (some ⟨g,0,none⟩))/\w'.cell? ⟨r,23,none⟩=some (.int .i64 (p0b:Int))) (go_keep)
  (first
  |(go_at_call 17
    with_reducible refine HA.out.mono ?_
    rintro e wm⟨k1,k2,rfl,hR5⟩;have RS:=hdd hR5;have d0:=HU.out _ _ _ _ RS.out 8 _ rfl;have d1:=HU.out _ _ _ _ RS.out 9 _ rfl;have d2:=HU.out _ _ _ _ RS.out 10 _ rfl;have d3:=HU.out _ _ _ _ RS.out 11 _ rfl;clear hR5)
  |(go_at_call 14
    with_reducible refine(RS.out.same (by omega) (bjD _ (bjD _ (bjE _ HK.out.2.1))) (bjD _ (bjD _ (bjE _ HK.out.2.2))) m0 m1 HX.out.2).mono ?_
    rintro e wm2⟨rfl,hR6⟩;have R7:=hdd (hR6.few (fun p hp=>bjD _ (bjD _ hp)));have d0:=HU.out _ _ _ _ R7.out 8 _ rfl;have d1:=HU.out _ _ _ _ R7.out 9 _ rfl;have d2:=HU.out _ _ _ _ R7.out 10 _ rfl;have d3:=HU.out _ _ _ _ R7.out 11 _ rfl;clear hR6 RS))
 clear d0 d1 d2 d3 HA RD;have HB:=hdd R7.out.below;clear R7 HX HK HU;go_wp2;go_ret;exact⟨rfl,HB.out⟩
end Go.Proofs.YtaojpfcboainmaaGreatDoor
