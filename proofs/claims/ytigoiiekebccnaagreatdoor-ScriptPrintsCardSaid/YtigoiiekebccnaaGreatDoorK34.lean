/- A part of the proof: contracts of functions and plain laws (ScN, ScO, FlA, FlB, FlC). -/
import Derived.Test.YtigoiiekebccnaaGreatDoorK33
import Derived.Test.YtigoiiekebccnaaGreatDoorK14
import Derived.LaidEql
import Derived.Lib.IfaceEq
import Derived.Stop.Asserts
import Derived.Recover
import Derived.Defers
set_option linter.unusedVariables false
set_option linter.unusedSimpArgs false
set_option linter.unnecessarySimpa false
set_option maxHeartbeats 25600000
set_option maxRecDepth 100000
namespace Go.Proofs.YtigoiiekebccnaaGreatDoor
section
open Go.RowKit Go.Maps
open Go.Lib renaming itoa->bi2
open Go.Value.slice renaming injEq->biW
open List renaming getElem?_eq_some_iff->biG,getElem?_eq_getElem->biH,setIfInBounds_toArray->biI,mem_cons_of_mem->biJ,getD_eq_getElem?_getD->biK,mem_append_right->biL,set_cons_zero->biM,set_cons_succ->biN,perm_middle->biO,mem_cons_self->biP,all_cons->biQ,mem_append_left->biR,sublist_append_right->biU,getElem?_append_left->biV,getElem?_cons_zero->biX,getElem?_cons_succ->biY,not_mem_nil->biZ,getElem?_toArray->bi1,mem_cons->bi5,length_map->bi6
open Nat renaming zero_add->biS,lt_of_le_of_lt->biT,zero_mul->bi0,zero_le->bi3,one_mul->bi4
variable{z:Int}{l l':List (Nat×Obj)}{ks:List Nat}{i:Nat}{W':World}
def nmC(g:Nat):List Nat->List Value
 |[]=>[]
 |k::ks=>.pointer (some ⟨g,0,none⟩)::.int .i64 (k:Int)::nmC g ks
theorem ad9{g k:Nat}:∀{ks:List Nat} {j:Nat},ks[j]? =some k->(nmC g ks)[j*2]? =some (.pointer (some ⟨g,0,none⟩))/\(nmC g ks)[j*2+1]? =some (.int .i64 (k:Int))
 |[],j,h=>by simp at h
 |a::ks,0,h=>by
  obtain rfl:a=k:=by simpa using h
  exact⟨rfl,rfl⟩
 |a::ks,j+1,h=>by
  have:=ad9 (g:=g) (ks:=ks) (j:=j) (by simpa using h);rw[show(j+1)*2=j*2+1+1 by omega];exact this
theorem aaH(g k:Nat):∀ks:List Nat,nmC g (ks++[k])=nmC g ks++[.pointer (some ⟨g,0,none⟩),.int .i64 (k:Int)]
 |[]=>rfl
 |a::ks=>by show _::_::nmC g (ks++[k])=_;rw[aaH];rfl
def NumS(W:World)(g:Nat)(v:Value)(ks:List Nat):Prop:=∃r c,v=.slice (some ⟨r,0,none⟩) ks.length c/\∀(j k:Nat),ks[j]? =some k->W.cell? ⟨r,j*2,none⟩=some (.pointer (some ⟨g,0,none⟩))/\W.cell? ⟨r,j*2+1,none⟩=some (.int .i64 (k:Int))
theorem oL{W:World}{B g n:Nat}{v:Value}(h:W.ownsRow B 107 2 v n (nmC g ks))(hn:ks.length=n)(h1:0<n):NumS W g v ks:=by
 obtain⟨hl,hr⟩:=id h;rcases hr with ⟨-,e⟩|⟨r,c,cur,rfl,-⟩
 . omega
 . subst hn
   refine⟨r,c,rfl,fun j k hj=> ?_⟩;obtain⟨h0,h1⟩:=ad9 (g:=g) hj;have q0:=h.cells (g:=r) rfl _ _ h0;have q1:=h.cells (g:=r) rfl _ _ h1;rw[Addr.add_lit,biS]at q0 q1;exact⟨q0,q1⟩
def NumK(g:Nat)(v:Value)(ks:List Nat)(l:List (Nat×Obj)):Prop:=∃r c cur,v=.slice (some ⟨r,0,none⟩) ks.length c/\(r,Obj.cells cur 107)∈l/\∀(j k:Nat),ks[j]? =some k->cur[j*2]? =some (.pointer (some ⟨g,0,none⟩))/\cur[j*2+1]? =some (.int .i64 (k:Int))
theorem NumK.num {s:Bs}{g g0 N:Nat}{v:Value}{K:List (Ex×Nat)}{W:World}(h:NumK g v ks l)(hR:Run s g0 N K l' W)(hs:∀p∈l,p∈l'):NumS W g v ks:=by
 obtain⟨r,c,cur,rfl,hm,hc⟩:=h;have hr:=hR.at (hs _ hm);refine⟨r,c,rfl,fun j k hj=> ?_⟩;obtain⟨h0,h1⟩:=hc j k hj;exact⟨by simp[World.cell?,hr,h0],by simp[World.cell?,hr,h1]⟩
theorem Run.rowK {s:Bs}{g g0 N n:Nat}{v:Value}{K:List (Ex×Nat)}{W:World}(hR:Run s g0 N K l W)(h:W'.ownsRow W.heap.size 107 2 v n (nmC g ks))(hb:Below W.heap.size W W')(hn:ks.length=n)(h1:0<n):∃x,Run s g0 N K (x::l) W'/\NumK g v ks [x]:=by
 obtain⟨hl,hr⟩:=id h;rcases hr with ⟨-,e⟩|⟨r,c,cur,rfl,hr1,hr2,-,-,-,ht⟩
 . omega
 . subst hn
   refine⟨(r,.cells cur 107),hR.keep hb hr2 hr1,r,c,cur,rfl,by simp,fun j k hj=> ?_⟩;obtain⟨h0,h1⟩:=ad9 (g:=g) hj;rw[<-ht,List.getElem?_take]at h0 h1
   split at h0
   . split at h1
     . exact⟨by simpa using h0,by simpa using h1⟩
     . cases h1
   . cases h0
theorem aeA{w:World}{n:Int}(h:T10 w)(hn:-9223372036854775808<=n/\n<=9223372036854775807):Calls Tryz.prog 98 #[.int .i64 n,.nilIface] w (RetV w (.string ⟨(bi2 n).toArray⟩)):=by
 have HI:=hdd (p9 h hn);clear h hn;go_enter Tryz.func98,Tryz.ntmps98
 go_wp2_with fail
 refine HI.out.mono ?_;rintro e w1⟨rfl,hb⟩;go_wp2;go_ret;exact⟨rfl,hb⟩
theorem wT{W:World}{b g:Nat}{v a:Value}{is:List Nat}(hb:W.heap[b]? =some (conO g v))(hv:NumS W g v ks)(ha:IntS W a (is.map fun i:Nat=>(i:Int)))(hin:∀i∈is,i<ks.length)(hl:is.length<=1000):
 Calls Tryz.prog 72 #[.pointer (some ⟨b,0,none⟩),a] W (fun e W'=>∃v',e=.returned (.tuple #[v',.bool true])/\W'.ownsRow W.heap.size 107 2 v' is.length (nmC g (is.map fun i=>ks.getD i 0))/\Below W.heap.size W W'):=by
 obtain⟨i0,hi0,hz0,hz1,hz2⟩:=info_parts yM;obtain⟨pa,ca,rfl,ha1,ha2,hca⟩:=id ha;obtain⟨r,c,rfl,hcv⟩:=id hv;obtain⟨w2,hrun,hown,hgr⟩:=run_make_own (P:=Tryz.prog) W W.heap.size 101 107 i0 (.agg #[.pointer none,.int .i64 0]) 2 rJ hi0 hz0 hz1 .i64 .i64 is.length (by rw[hz2];omega) (by unfold maxLen;omega) nlr;have hb2:Below W.heap.size W w2:=⟨hgr.os,hgr.tape,hgr.output,hgr.size,fun b hb=>hgr.block b hb (by simp)⟩;have hrun':(Instr.makeSlice 101 (.int .i64 0) (.int .i64 (is.length:Int))).run Tryz.prog W=.ok (.slice (some ⟨W.heap.size,0,none⟩) 0 is.length) w2:=by simpa using hrun
 obtain⟨n,hn⟩:∃n,is.length=n:=⟨_,rfl⟩;obtain⟨m,hm⟩:∃m,ks.length=m:=⟨_,rfl⟩;rw[bi6,hn]at ha1;rw[hn]at hrun' hown hl|-;rw[bi6,hn];rw[hm]at hin;have hlI:(n:Int)<=1000:=by omega
 have HI0:=hdd hi0;have HZ0:=hdd hz0;have HZ1:=hdd hz1;have HZ2:=hdd hz2;have HO2:=hdd (And.intro hown hb2);have HB:=hdd hb;have HCV:=hdd hcv;have HA:=hdd ha;have HIN:=hdd hin;have HL:=hdd hl;have HN:=hdd hn;have HM:=hdd hm;clear hi0 hz0 hz1 hz2 ha hv hb hcv hca hgr hrun hown hb2 hin hl hn hm ha1 ha2;go_enter Tryz.func72,Tryz.ntmps72
 go_wp2_with fail
 go_loopw [6,14] (fun l i wr=>∃q r1 cap:Nat,q<=n/\i=.int .i64 (q:Int)/\l=.slice (some ⟨r1,0,none⟩) q cap/\Hid (wr.ownsRow W.heap.size 107 2 (.slice (some ⟨r1,0,none⟩) q cap) q (nmC g ((is.take q).map fun i=>ks.getD i 0))/\Below W.heap.size W wr)) (fun _ i _=>((n:Int)-intOf i).toNat)
 case atStart=>exact⟨0,W.heap.size,n,bi3 _,rfl,rfl,HO2⟩
 case round=>
  obtain⟨q,r1,cap,hq,rfl,rfl,HG⟩:=hrel;rcases Nat.lt_or_ge q n with hlt|hge
  . obtain⟨x,hx⟩:∃x,is[q]? =some x:=⟨_,biH (by rw[HN.out];exact hlt)⟩
    obtain⟨hown,hbl⟩:=HG.out;obtain⟨p',c',e',-,-,hcc⟩:=HA.out.below hbl;obtain⟨b2,o2,rfl,cx⟩:=hcc q (x:Int) (by rw[List.getElem?_map,hx];rfl);simp only[biW]at e';obtain⟨rfl,-,-⟩:=e';have hqI:(q:Int)<(n:Int):=Int.ofNat_lt.2 hlt;have hq0:(0:Int)<=(q:Int):=Int.natCast_nonneg _;have hxm:=HIN.out x (List.mem_of_getElem? hx);have hx0:¬(x:Int)<0:=by omega
    have hx1:¬(m:Int)<=(x:Int):=by omega
    have hx2:(x:Int)<(m:Int):=by omega
    obtain⟨k,hk⟩:∃k,ks[x]? =some k:=⟨_,biH (by rw[HM.out];exact hxm)⟩;obtain⟨v0,v1⟩:=HCV.out x k hk;replace v0:=cbl v0 hbl;replace v1:=cbl v1 hbl;obtain⟨-,y1,-,-⟩:=lG (aC HB.out hbl (aD HB.out));rw[HM.out]at y1;obtain⟨wa,hwa,hba,hsa,ba⟩:=pro1 wr (numO g k);have HC:=hdd (yN ba);have HO:=hdd (hown.kept (aH (row:=none) hba) (Or.inr (by simp[Value.ownBlock])));have HRB:=hdd (hown.lt r1 rfl).1;have HBA:=hdd (aA hbl hba);have HSZ:Hid (W.heap.size<=wa.heap.size):=hdd HBA.out.size;have HLT:=hdd (And.intro hlt (And.intro hx hk));clear hlt hx hk hxm hown hbl hcc HG hq hba hsa ba;go_wp2_with (first
     |(at_builtin
       go_loud (
       refine wpList_append_lies _ rfl _ _ 101 rfl W.heap.size 107 i0 (.agg #[.pointer none,.int .i64 0]) 2 16 rJ HI0.out HZ0.out HZ1.out HZ2.out rfl (by decide) (.slice (some ⟨r1,0,none⟩) q cap) q (nmC g ((is.take q).map fun i=>ks.getD i 0)) rfl HO.out ⟨wr.heap.size,0,none⟩ 1 1 [.pointer (some ⟨g,0,none⟩),.int .i64 (k:Int)] rfl rfl HC.out (by simp[Value.oneCell']) (by decide) (by have:=HLT.out.1;have:=HL.out;unfold maxLen;omega) (by have:=HLT.out.1;have:=HL.out;omega) HSZ.out wa.heap.size rfl ?_;intro r2 cap2 w8 hown8 hgrow8 hat8 hlt8;have HO8:Hid (w8.ownsRow W.heap.size 107 2 (.slice (some ⟨r2,0,none⟩) (q+1) cap2) (q+1) (nmC g ((is.take (q+1)).map fun i=>ks.getD i 0))/\Below W.heap.size W w8):=hdd ⟨by
        rw[List.take_add_one,HLT.out.2.1];simp only[Option.toList_some,List.map_append,List.map_cons,List.map_nil];rw[aaH,biK,HLT.out.2.2];exact hown8,HBA.out.trans (below_grown hgrow8 HSZ.out (fun b hb=>by have:r1=b:=Option.some.inj hb;have:=HRB.out;omega))⟩
       clear hown8 hgrow8 hat8 hlt8)))
    clear hwa HO HC v0 v1 y1 cx
    go_roundw
    case rel=>exact⟨q+1,r2,cap2,HLT.out.1,by go_num,rfl,HO8⟩
    case measure=>exact fE HLT.out.1
  . obtain rfl:q=n:=Nat.le_antisymm hq hge
    have HF:=hdd HG.out;clear HG hq hge;go_wp2
    go_ret2
    obtain⟨h1,h2⟩:=HF.out;rw[List.take_of_length_le (by rw[HN.out];exact Nat.le_refl _)]at h1;exact⟨_,rfl,h1,h2⟩
section
variable{w0 W:World}{g N b n k j:Nat}{K:List (Ex×Nat)}{L lr:List (Nat×Obj)}{v u:Value}{xs:List Value}{x y:Ex}{q:Int}
theorem ahU(hT:T10 w0)(ho:OwnR 107 2 v n xs lr)(h:Run (bs w0) g N K ((b,conO g v)::(lr++L)) W)(hn:n<=1000)(hN:N<20000)(hx:(x,k)∈K)(hu:NumS W g u [k]):
 Calls Tryz.prog 73 #[.pointer (some ⟨b,0,none⟩),.string ⟨#[114,111,111,116]⟩,u] W (fun e W'=>∃k',aaG w0 g (N+1) ((.root x,k')::K) b n k' xs L e W'):=by
 obtain⟨r,c,rfl,hc⟩:=hu;obtain⟨c0,c1⟩:=hc 0 k rfl;have HQ:=hdd (h.sqrt hN hx);have HT:=hdd hT;have HO:=hdd ho;have HN:=hdd hn;clear hT ho h hn hN hx hc;go_enter Tryz.func73,Tryz.ntmps73
 go_wp2_with fail
 refine HQ.out.mono ?_;rintro e w1⟨k',rfl,hR⟩;have HA:=hdd (Run.cadd (k:=k') HT.out HO.out hR HN.out);clear hR;unfold numV at HA|-;go_wp2_with fail
 refine HA.out.mono ?_;rintro e w2⟨rfl,hF⟩;have HF:=hdd hF;clear hF;go_wp2;go_ret;exact⟨k',rfl,HF.out⟩
theorem alL(hT:T10 w0)(h:Run (bs w0) g N K L W)(hN:N<20000)(hx:(x,k)∈K)(hy:(y,j)∈K)(hu:NumK g u [k,j] L)(hS:rY PT (.sub x y) q)(hq:-9223372036854775808<=q/\q<=9223372036854775807):
 Calls Tryz.prog 73 #[.pointer (some ⟨b,0,none⟩),.string ⟨#[99,109,112]⟩,u] W (fun e W'=>e=.returned (.string ⟨(bi2 q).toArray⟩)/\Run (bs w0) g (N+1) K L W'):=by
 have HU:=hdd hu;obtain⟨r,c,rfl,hc⟩:=hu.num h (fun _ hp=>hp);have HC:Hid (∀N' K' W' l',(∀p∈L,p∈l')->Run (bs w0) g N' K' l' W'->(W'.cell? ⟨r,0,none⟩=some (.pointer (some ⟨g,0,none⟩))/\W'.cell? ⟨r,1,none⟩=some (.int .i64 (k:Int))/\W'.cell? ⟨r,2,none⟩=some (.pointer (some ⟨g,0,none⟩))/\W'.cell? ⟨r,3,none⟩=some (.int .i64 (j:Int)))):=hdd fun N' K' W' l' hs hR=>by
  obtain⟨r',c',e,hc'⟩:=HU.out.num hR hs;simp only[biW,Option.some.injEq,Addr.mk.injEq,and_true]at e;obtain⟨rfl,-,-⟩:=e;obtain⟨q0,q1⟩:=hc' 0 k rfl;obtain⟨q2,q3⟩:=hc' 1 j rfl;simp only[bi0,biS,bi4]at q0 q1 q2 q3;exact⟨q0,q1,q2,q3⟩
 obtain⟨c0,c1⟩:=hc 0 k rfl;obtain⟨d0,d1⟩:=hc 1 j rfl;simp only[bi0,biS,bi4]at c0 c1 d0 d1;have HR:=hdd h.drew;have HT:=hdd hT;have HN:=hdd hN;have HX:=hdd hx;have HY:=hdd hy;have HS:=hdd hS;have HQ:=hdd hq;replace c0:W.drew.cell? ⟨r,0,none⟩=some (.pointer (some ⟨g,0,none⟩)):=c0;replace c1:W.drew.cell? ⟨r,1,none⟩=some (.int .i64 (k:Int)):=c1;replace d0:W.drew.cell? ⟨r,2,none⟩=some (.pointer (some ⟨g,0,none⟩)):=d0;replace d1:W.drew.cell? ⟨r,3,none⟩=some (.int .i64 (j:Int)):=d1;clear hT h hN hx hy hS hq hc;go_enter Tryz.func73,Tryz.ntmps73
 go_wp2_with fail
 go_region_held3 (fun w'=>w'.cell? ⟨r,0,none⟩=some (.pointer (some ⟨g,0,none⟩))/\w'.cell? ⟨r,1,none⟩=some (.int .i64 (k:Int))/\w'.cell? ⟨r,2,none⟩=some (.pointer (some ⟨g,0,none⟩))/\w'.cell? ⟨r,3,none⟩=some (.int .i64 (j:Int))) (go_keep)
  (first
  |(go_at_call 105
    refine(HR.out.cmp HN.out HX.out HY.out HS.out).mono ?_;rintro e w6⟨rfl,hR6⟩;have R6:=hdd hR6;obtain⟨c0,c1,d0,d1⟩:=HC.out _ _ _ _ (fun _ hp=>hp) hR6;clear hR6))
 have HNB:=hdd (aeA (w:=w6) (HT.out.low R6.out.below) HQ.out);clear c0 c1 d0 d1;go_wp2_with fail
 refine HNB.out.mono ?_;rintro e w7⟨rfl,hb7⟩;have HF:=hdd (R6.out.step hb7);clear hb7;go_wp2;go_ret;exact⟨rfl,HF.out⟩
theorem alM(hT:T10 w0)(ho:OwnR 107 2 v n xs lr)(h:Run (bs w0) g N K ((b,conO g v)::(lr++L)) W)(hn:n<=1000)(hN:N<20000)(hx:(x,k)∈K)(hy:(y,j)∈K)(hu:NumK g u [k,j] L):
 Calls Tryz.prog 73 #[.pointer (some ⟨b,0,none⟩),.string ⟨#[109,117,108]⟩,u] W (fun e W'=>∃k',aaG w0 g (N+1) ((.mul x y,k')::K) b n k' xs L e W'):=by
 have HU:=hdd hu;obtain⟨r,c,rfl,hc⟩:=hu.num h (fun _ hp=>biJ _ (biL _ hp));have HC:Hid (∀N' K' W' l',(∀p∈L,p∈l')->Run (bs w0) g N' K' l' W'->(W'.cell? ⟨r,0,none⟩=some (.pointer (some ⟨g,0,none⟩))/\W'.cell? ⟨r,1,none⟩=some (.int .i64 (k:Int))/\W'.cell? ⟨r,2,none⟩=some (.pointer (some ⟨g,0,none⟩))/\W'.cell? ⟨r,3,none⟩=some (.int .i64 (j:Int)))):=hdd fun N' K' W' l' hs hR=>by
  obtain⟨r',c',e,hc'⟩:=HU.out.num hR hs;simp only[biW,Option.some.injEq,Addr.mk.injEq,and_true]at e;obtain⟨rfl,-,-⟩:=e;obtain⟨q0,q1⟩:=hc' 0 k rfl;obtain⟨q2,q3⟩:=hc' 1 j rfl;simp only[bi0,biS,bi4]at q0 q1 q2 q3;exact⟨q0,q1,q2,q3⟩
 obtain⟨c0,c1⟩:=hc 0 k rfl;obtain⟨d0,d1⟩:=hc 1 j rfl;simp only[bi0,biS,bi4]at c0 c1 d0 d1;obtain⟨w5,hw5,hb5,hs5,b5⟩:=pro1 W.drew (numO g j);have HQ:=hdd ((h.drew.step hb5).mul2 hN hx hy b5);have HT:=hdd hT;have HO:=hdd ho;have HN:=hdd hn;have HB5:=hdd hb5;have HS:(fun w':World=>w'.cell? ⟨r,0,none⟩=some (.pointer (some ⟨g,0,none⟩))/\w'.cell? ⟨r,1,none⟩=some (.int .i64 (k:Int))/\w'.cell? ⟨r,2,none⟩=some (.pointer (some ⟨g,0,none⟩))/\w'.cell? ⟨r,3,none⟩=some (.int .i64 (j:Int))) W.drew:=⟨c0,c1,d0,d1⟩;clear hT ho h hn hN hx hy hc hb5 hs5 b5 c0 c1 d0 d1;go_enter Tryz.func73,Tryz.ntmps73
 go_wp2_with fail
 refine wp_region_noPanic ?_;refine gQ (fun w'=>w'.cell? ⟨r,0,none⟩=some (.pointer (some ⟨g,0,none⟩))/\w'.cell? ⟨r,1,none⟩=some (.int .i64 (k:Int))/\w'.cell? ⟨r,2,none⟩=some (.pointer (some ⟨g,0,none⟩))/\w'.cell? ⟨r,3,none⟩=some (.int .i64 (j:Int))) 10 (by kernel_rfl) ?_;refine vR [(0,.pointer (some ⟨b,0,none⟩)),(1,.slice (some ⟨r,0,none⟩) [k,j].length c),(2,.pointer (some ⟨r,0,none⟩)),(3,.agg #[.pointer (some ⟨g,0,none⟩),.int .i64 (k:Int)]),(4,.slice (some ⟨r,0,none⟩) [k,j].length c),(5,.pointer (some ⟨r,2,none⟩)),(6,.agg #[.pointer (some ⟨g,0,none⟩),.int .i64 (j:Int)])] (by kernel_rfl) (by kernel_rfl) (by kernel_rfl) ?_ HS ?_
 . intro w' hSw
   (try dsimp only at hSw)
   obtain⟨hS1,hS2,hS3,hS4⟩:=hSw;simp only[vQ,bi1,biX,biY,Option.bind_some,Act.put,biI,biM,biN];refine⟨?_,?_,?_,?_,?_,?_,?_,trivial⟩<;>(go_simp;all_goals rfl)
 simp only[vO,vP,bi1,biX,biY,Option.bind_some,Act.put,biI,biM,biN];have hsd:W.drew.heap.size=W.heap.size:=rfl;have HT5:(fun w'=>w'.cell? ⟨r,0,none⟩=some (.pointer (some ⟨g,0,none⟩))/\w'.cell? ⟨r,1,none⟩=some (.int .i64 (k:Int))/\w'.cell? ⟨r,2,none⟩=some (.pointer (some ⟨g,0,none⟩))/\w'.cell? ⟨r,3,none⟩=some (.int .i64 (j:Int))) w5:=⟨cell_below HS.1 HB5.out nlr,cell_below HS.2.1 HB5.out nlr,cell_below HS.2.2.1 HB5.out nlr,cell_below HS.2.2.2 HB5.out nlr⟩;refine bG 7 (by kernel_rfl) rfl fun K' hK=> ?_;go_simp;refine hK.out _ _ (fun _=>HT5) ?_;clear hK
 try simp only[Act.put,biI,biM,biN]
 refine bG 8 (by kernel_rfl) rfl fun K' hK=> ?_;go_simp;refine HQ.out.mono ?_;rintro e w6⟨k',rfl,hR6⟩;have HR6:=hdd hR6;have HA:=hdd (Run.cadd (k:=k') HT.out HO.out hR6 HN.out);have hc6:=HC.out _ _ _ _ (fun _ hp=>biJ _ (biL _ hp)) hR6;clear hR6;unfold numV at HA|-;refine hK.out _ _ (fun _=>hc6) ?_;clear hK
 try simp only[Act.put,biI,biM,biN]
 refine bG 9 (by kernel_rfl) rfl fun K' hK=> ?_;go_simp;refine HA.out.mono ?_;rintro e w7⟨rfl,hF⟩;have HF:=hdd hF;have hc7:(fun w'=>w'.cell? ⟨r,0,none⟩=some (.pointer (some ⟨g,0,none⟩))/\w'.cell? ⟨r,1,none⟩=some (.int .i64 (k:Int))/\w'.cell? ⟨r,2,none⟩=some (.pointer (some ⟨g,0,none⟩))/\w'.cell? ⟨r,3,none⟩=some (.int .i64 (j:Int))) w7:=by
  obtain⟨v',lr',-,hR7⟩:=hF;exact HC.out _ _ _ _ (fun _ hp=>biJ _ (biL _ hp)) hR7
 clear hF;refine hK.out _ _ (fun _=>hc7) ?_;clear hK
 try simp only[Act.put,biI,biM,biN]
 refine bG 10 (by kernel_rfl) rfl fun K' hK=> ?_;go_simp;refine hK.out _ _ (fun h=>absurd rfl h) ?_;clear hK;refine iZ (by kernel_rfl) ?_;refine NoPanic.normal ?_
 try simp only[Act.put,biI,biM,biN]
 clear HQ HA hc6 hc7 HS HT5 HC hw5;go_wp2;go_ret;exact⟨k',rfl,HF.out⟩
end
def ConP(w0:World)(g b:Nat)(es:List Ex)(L:List (Nat×Obj))(N:Nat)(W:World):Prop:=∃v lr ks K,ks.length=es.length/\OwnR 107 2 v es.length (nmC g ks) lr/\Run (bs w0) g N K ((b,conO g v)::(lr++L)) W/\∀(j:Nat) e k,es[j]? =some e->ks[j]? =some k->(e,k)∈K
section
variable{w0 W:World}{g N b:Nat}{L:List (Nat×Obj)}{es:List Ex}{x:Ex}{u:Value}
theorem ConP.new (h:Run (bs w0) g N [] ((b,conO g (.slice none 0 0))::L) W):ConP w0 g b [] L N W:=⟨_,[],[],[],rfl,OwnR.nil _ _,h,fun j e k h=>by simp at h⟩
theorem ConP.addd {K:List (Ex×Nat)}{k:Nat}(hl:ks.length=es.length)(hK:∀(j:Nat) e k,es[j]? =some e->ks[j]? =some k->(e,k)∈K){e:Ending}(h:aaG w0 g N ((x,k)::K) b es.length k (nmC g ks) (l'++L) e W'):e=.returned (.string ⟨(bi2 (es.length:Int)).toArray⟩)/\ConP w0 g b (es++[x]) L N W':=by
 obtain⟨rfl,v',lr',ho,hR⟩:=h;refine⟨rfl,v',lr',ks++[k],_,by simp[hl],by rw[List.length_append,aaH];exact ho,hR.subl (List.Sublist.cons_cons _ (List.Sublist.append_left (biU _ _) _)),fun j e q h1 h2=> ?_⟩;rcases Nat.lt_trichotomy j es.length with hj|hj|hj
 . rw[biV hj]at h1
   rw[biV (by rw[hl];exact hj)]at h2;exact biJ _ (hK j e q h1 h2)
 . subst hj
   simp at h1;rw[<-hl]at h2;simp at h2;subst h1 h2;exact biP ..
 . rw[List.getElem?_eq_none (by simp;omega)]at h1;cases h1
theorem alN{W:World}(h:IntS W u [z]):∃b o c,u=.slice (some ⟨b,o,none⟩) 1 c/\W.cell? ⟨b,o,none⟩=some (.int .i64 z):=by
 obtain⟨p,c,rfl,-,-,hc⟩:=h;obtain⟨b,o,rfl,h⟩:=hc 0 z rfl;exact⟨b,o,c,rfl,by simpa using h⟩
theorem alO(hT:T10 w0)(h:ConP w0 g b es L N W)(hn:es.length<=1000)(hN:N<20000)(hz:0<=z/\z<=1000)(hI:IntS W u [z]):
 Calls Tryz.prog 40 #[.pointer (some ⟨b,0,none⟩),.agg #[.string ⟨#[105,110,116]⟩,u]] W (fun e W'=>e=.returned (.string ⟨(bi2 (es.length:Int)).toArray⟩)/\ConP w0 g b (es++[li z]) L (N+1) W'):=by
 obtain⟨v,lr,ks,K,hl,ho,hR,hK⟩:=h;obtain⟨wa,hwa,hba,hsa,ba⟩:=pro1 W (.cells #[.string ⟨#[105,110,116]⟩,u] 27);obtain⟨y0,y1,-,-⟩:=aB ba;have HFT:=hdd (jH (s:=⟨#[105,110,116]⟩) (w:=wa) (hI.below hba) (by simp));rw[show dE ⟨#[105,110,116]⟩ [z]=true by
  have h1:inR z=true:=by unfold inR;rw[decide_eq_true (by omega),decide_eq_true (by omega)];rfl
  show([z].all inR&&decide (shpW ⟨#[105,110,116]⟩=([z].length:Int)))=true;rw[biQ,h1];rfl]at HFT
 obtain⟨ib,io,ic,rfl,hc⟩:=alN (hI.below hba);have HRa:=hdd (hR.step hba);have HB:=hdd hba;have HT:=hdd hT;have HN:=hdd (And.intro hn (And.intro hN hz));have HK:=hdd (And.intro hl hK);have HO:=hdd ho;clear hT hn hN hz hI hR hba hsa ba hl hK ho;go_enter Tryz.func40,Tryz.ntmps40
 go_wp2_with fail
 refine HFT.out.mono ?_;rintro e wb⟨rfl,hbb⟩;replace y0:=cbl y0 hbb;replace y1:=cbl y1 hbb;replace hc:=cbl hc hbb;have HW:=hdd (Run.cwhole (HRa.out.step hbb) HN.out.2.1 HN.out.2.2);clear hbb HFT;go_wp2_with fail
 refine HW.out.mono ?_;rintro e wc⟨k,rfl,hR⟩;have HA:=hdd (Run.cadd (k:=k) HT.out HO.out hR HN.out.1);clear hR;unfold numV at HA|-;go_wp2_with fail
 refine HA.out.mono ?_;rintro e wd hF;obtain⟨rfl,hG⟩:=ConP.addd (l':=[]) HK.out.1 HK.out.2 hF;have HF:=hdd hG;clear hF hG;go_wp2;go_ret;exact⟨rfl,HF.out⟩
theorem ahV(hT:T10 w0)(h:ConP w0 g b es L N W)(hn:es.length<=1000)(hN:N<20000)(h0:es[i]? =some x)(hI:IntS W u ([i].map fun i:Nat=>(i:Int))):
 Calls Tryz.prog 40 #[.pointer (some ⟨b,0,none⟩),.agg #[.string ⟨#[114,111,111,116]⟩,u]] W (fun e W'=>e=.returned (.string ⟨(bi2 (es.length:Int)).toArray⟩)/\ConP w0 g b (es++[.root x]) L (N+1) W'):=by
 obtain⟨v,lr,ks,K,hl,ho,hR,hK⟩:=h;obtain⟨wa,hwa,hba,hsa,ba⟩:=pro1 W (.cells #[.string ⟨#[114,111,111,116]⟩,u] 27);obtain⟨y0,y1,-,-⟩:=aB ba;have hIa:=hI.below hba;have HFT:=hdd (jH (s:=⟨#[114,111,111,116]⟩) (w:=wa) hIa (by simp));rw[show dE ⟨#[114,111,111,116]⟩ ([i].map fun i:Nat=>(i:Int))=true by
  have q0:inR (i:Int)=true:=by unfold inR;rw[decide_eq_true (by have:=(biG.1 h0).1;omega),decide_eq_true (by have:=(biG.1 h0).1;omega)];rfl
  show([(i:Int)].all inR&&decide (shpW ⟨#[114,111,111,116]⟩=(1:Int)))=true;rw[biQ,q0];rfl]at HFT
 obtain⟨k0,hk0⟩:∃k,ks[i]? =some k:=⟨_,biH (by rw[hl];exact(biG.1 h0).1)⟩;have m0:=hK _ _ _ h0 hk0;have HIN:Hid (∀a∈[i],a<ks.length):=hdd fun a ha=>by
  rw[hl];simp only[bi5,biZ,or_false]at ha;rcases ha with rfl
  . exact(biG.1 h0).1
 have hpos:0<es.length:=biT (bi3 _) (biG.1 h0).1;have HE:Hid ([i].map (fun i=>ks.getD i 0)=[k0]):=hdd (by simp[biK,hk0]);obtain⟨pu,cu,hu,-⟩:=id hI;replace hu:u=.slice pu 1 cu:=hu;subst hu;have HRa:=hdd (hR.step hba);have HIA:=hdd hIa;have HT:=hdd hT;have HN:=hdd (And.intro hn (And.intro hN hpos));have HK:=hdd (And.intro hl hK);have HO:=hdd ho;have HM:=hdd (m0);clear hT hn hN hI hIa hR hba hsa ba hl hK ho hk0 m0 h0 hpos;go_enter Tryz.func40,Tryz.ntmps40
 go_wp2_with fail
 refine HFT.out.mono ?_;rintro e wb⟨rfl,hbb⟩;replace y0:=cbl y0 hbb;replace y1:=cbl y1 hbb;have hRb:=HRa.out.step hbb;have hown:=HO.out.own (hRb.perm (l':=lr++((b,conO g v)::L)) biO);have HPK:=hdd (wT (hRb.at (biP ..)) (oL hown HK.out.1 HN.out.2.2) (HIA.out.below hbb) HIN.out (by simp));have HRb:=hdd hRb;clear hbb HFT hRb hown;go_wp2_with fail
 refine HPK.out.mono ?_;rintro e wc⟨v',rfl,hov,hbc⟩;rw[HE.out]at hov;replace y0:=cbl y0 hbc;replace y1:=cbl y1 hbc;obtain⟨xk,hRc,hnk⟩:=HRb.out.rowK hov hbc rfl (by simp);have hRd:=hRc.perm (l':=(b,conO g v)::(lr++([xk]++L))) (by
  refine List.Perm.trans (List.Perm.cons _ ?_) (List.Perm.swap _ _ _);exact biO)
 have HCO:=hdd (ahU HT.out HO.out hRd HN.out.1 HN.out.2.1 HM.out (hnk.num hRd (fun p hp=>biJ _ (biL _ (biR _ hp)))));clear hbc hov hRc hnk hRd;go_wp2_with fail
 refine HCO.out.mono ?_;rintro e wd hF;obtain⟨k',hF⟩:=hF;obtain⟨rfl,hG⟩:=ConP.addd (l':=[xk]) HK.out.1 HK.out.2 hF;have HF:=hdd hG;clear hF hG;go_wp2;go_ret;exact⟨rfl,HF.out⟩
theorem alP{j:Nat}{y:Ex}(hT:T10 w0)(h:ConP w0 g b es L N W)(hn:es.length<=1000)(hN:N<20000)(h0:es[i]? =some x)(h1:es[j]? =some y)(hI:IntS W u ([i,j].map fun i:Nat=>(i:Int))):
 Calls Tryz.prog 40 #[.pointer (some ⟨b,0,none⟩),.agg #[.string ⟨#[109,117,108]⟩,u]] W (fun e W'=>e=.returned (.string ⟨(bi2 (es.length:Int)).toArray⟩)/\ConP w0 g b (es++[.mul x y]) L (N+1) W'):=by
 obtain⟨v,lr,ks,K,hl,ho,hR,hK⟩:=h;obtain⟨wa,hwa,hba,hsa,ba⟩:=pro1 W (.cells #[.string ⟨#[109,117,108]⟩,u] 27);obtain⟨y0,y1,-,-⟩:=aB ba;have hIa:=hI.below hba;have HFT:=hdd (jH (s:=⟨#[109,117,108]⟩) (w:=wa) hIa (by simp));rw[show dE ⟨#[109,117,108]⟩ ([i,j].map fun i:Nat=>(i:Int))=true by
  have q0:inR (i:Int)=true:=by unfold inR;rw[decide_eq_true (by have:=(biG.1 h0).1;omega),decide_eq_true (by have:=(biG.1 h0).1;omega)];rfl
  have q1:inR (j:Int)=true:=by unfold inR;rw[decide_eq_true (by have:=(biG.1 h1).1;omega),decide_eq_true (by have:=(biG.1 h1).1;omega)];rfl
  show([(i:Int),(j:Int)].all inR&&decide (shpW ⟨#[109,117,108]⟩=(2:Int)))=true;rw[biQ,q0,biQ,q1];rfl]at HFT
 obtain⟨k0,hk0⟩:∃k,ks[i]? =some k:=⟨_,biH (by rw[hl];exact(biG.1 h0).1)⟩;have m0:=hK _ _ _ h0 hk0;obtain⟨k1,hk1⟩:∃k,ks[j]? =some k:=⟨_,biH (by rw[hl];exact(biG.1 h1).1)⟩;have m1:=hK _ _ _ h1 hk1;have HIN:Hid (∀a∈[i,j],a<ks.length):=hdd fun a ha=>by
  rw[hl];simp only[bi5,biZ,or_false]at ha;rcases ha with rfl|rfl
  . exact(biG.1 h0).1
  . exact(biG.1 h1).1
 have hpos:0<es.length:=biT (bi3 _) (biG.1 h0).1;have HE:Hid ([i,j].map (fun i=>ks.getD i 0)=[k0,k1]):=hdd (by simp[biK,hk0,hk1]);obtain⟨pu,cu,hu,-⟩:=id hI;replace hu:u=.slice pu 2 cu:=hu;subst hu;have HRa:=hdd (hR.step hba);have HIA:=hdd hIa;have HT:=hdd hT;have HN:=hdd (And.intro hn (And.intro hN hpos));have HK:=hdd (And.intro hl hK);have HO:=hdd ho;have HM:=hdd (And.intro m0 m1);clear hT hn hN hI hIa hR hba hsa ba hl hK ho hk0 m0 h0 hk1 m1 h1 hpos;go_enter Tryz.func40,Tryz.ntmps40
 go_wp2_with fail
 refine HFT.out.mono ?_;rintro e wb⟨rfl,hbb⟩;replace y0:=cbl y0 hbb;replace y1:=cbl y1 hbb;have hRb:=HRa.out.step hbb;have hown:=HO.out.own (hRb.perm (l':=lr++((b,conO g v)::L)) biO);have HPK:=hdd (wT (hRb.at (biP ..)) (oL hown HK.out.1 HN.out.2.2) (HIA.out.below hbb) HIN.out (by simp));have HRb:=hdd hRb;clear hbb HFT hRb hown;go_wp2_with fail
 refine HPK.out.mono ?_;rintro e wc⟨v',rfl,hov,hbc⟩;rw[HE.out]at hov;replace y0:=cbl y0 hbc;replace y1:=cbl y1 hbc;obtain⟨xk,hRc,hnk⟩:=HRb.out.rowK hov hbc rfl (by simp);have hRd:=hRc.perm (l':=(b,conO g v)::(lr++([xk]++L))) (by
  refine List.Perm.trans (List.Perm.cons _ ?_) (List.Perm.swap _ _ _);exact biO)
 have HCO:=hdd (alM HT.out HO.out hRd HN.out.1 HN.out.2.1 HM.out.1 HM.out.2 (by obtain⟨r,c,cur,e1,e2,e3⟩:=hnk;exact⟨r,c,cur,e1,biR _ e2,e3⟩));clear hbc hov hRc hnk hRd;go_wp2_with fail
 refine HCO.out.mono ?_;rintro e wd hF;obtain⟨k',hF⟩:=hF;obtain⟨rfl,hG⟩:=ConP.addd (l':=[xk]) HK.out.1 HK.out.2 hF;have HF:=hdd hG;clear hF hG;go_wp2;go_ret;exact⟨rfl,HF.out⟩
theorem alQ{j:Nat}{y:Ex}{q:Int}(hT:T10 w0)(h:ConP w0 g b es L N W)(hn:es.length<=1000)(hN:N<20000)(h0:es[i]? =some x)(h1:es[j]? =some y)(hS:rY PT (.sub x y) q)(hq:-9223372036854775808<=q/\q<=9223372036854775807)(hI:IntS W u ([i,j].map fun i:Nat=>(i:Int))):
 Calls Tryz.prog 40 #[.pointer (some ⟨b,0,none⟩),.agg #[.string ⟨#[99,109,112]⟩,u]] W (fun e W'=>e=.returned (.string ⟨(bi2 q).toArray⟩)/\ConP w0 g b es L (N+1) W'):=by
 obtain⟨v,lr,ks,K,hl,ho,hR,hK⟩:=h;obtain⟨wa,hwa,hba,hsa,ba⟩:=pro1 W (.cells #[.string ⟨#[99,109,112]⟩,u] 27);obtain⟨y0,y1,-,-⟩:=aB ba;have hIa:=hI.below hba;have HFT:=hdd (jH (s:=⟨#[99,109,112]⟩) (w:=wa) hIa (by simp));rw[show dE ⟨#[99,109,112]⟩ ([i,j].map fun i:Nat=>(i:Int))=true by
  have q0:inR (i:Int)=true:=by unfold inR;rw[decide_eq_true (by have:=(biG.1 h0).1;omega),decide_eq_true (by have:=(biG.1 h0).1;omega)];rfl
  have q1:inR (j:Int)=true:=by unfold inR;rw[decide_eq_true (by have:=(biG.1 h1).1;omega),decide_eq_true (by have:=(biG.1 h1).1;omega)];rfl
  show([(i:Int),(j:Int)].all inR&&decide (shpW ⟨#[99,109,112]⟩=(2:Int)))=true;rw[biQ,q0,biQ,q1];rfl]at HFT
 obtain⟨k0,hk0⟩:∃k,ks[i]? =some k:=⟨_,biH (by rw[hl];exact(biG.1 h0).1)⟩;have m0:=hK _ _ _ h0 hk0;obtain⟨k1,hk1⟩:∃k,ks[j]? =some k:=⟨_,biH (by rw[hl];exact(biG.1 h1).1)⟩;have m1:=hK _ _ _ h1 hk1;have HIN:Hid (∀a∈[i,j],a<ks.length):=hdd fun a ha=>by
  rw[hl];simp only[bi5,biZ,or_false]at ha;rcases ha with rfl|rfl
  . exact(biG.1 h0).1
  . exact(biG.1 h1).1
 have hpos:0<es.length:=biT (bi3 _) (biG.1 h0).1;have HE:Hid ([i,j].map (fun i=>ks.getD i 0)=[k0,k1]):=hdd (by simp[biK,hk0,hk1]);obtain⟨pu,cu,hu,-⟩:=id hI;replace hu:u=.slice pu 2 cu:=hu;subst hu;have HRa:=hdd (hR.step hba);have HIA:=hdd hIa;have HT:=hdd hT;have HN:=hdd (And.intro hn (And.intro hN hpos));have HK:=hdd (And.intro hl hK);have HO:=hdd ho;have HM:=hdd (And.intro m0 m1);clear hT hn hN hI hIa hR hba hsa ba hl hK ho hk0 m0 h0 hk1 m1 h1 hpos;go_enter Tryz.func40,Tryz.ntmps40
 go_wp2_with fail
 refine HFT.out.mono ?_;rintro e wb⟨rfl,hbb⟩;replace y0:=cbl y0 hbb;replace y1:=cbl y1 hbb;have hRb:=HRa.out.step hbb;have hown:=HO.out.own (hRb.perm (l':=lr++((b,conO g v)::L)) biO);have HPK:=hdd (wT (hRb.at (biP ..)) (oL hown HK.out.1 HN.out.2.2) (HIA.out.below hbb) HIN.out (by simp));have HRb:=hdd hRb;clear hbb HFT hRb hown;go_wp2_with fail
 refine HPK.out.mono ?_;rintro e wc⟨v',rfl,hov,hbc⟩;rw[HE.out]at hov;replace y0:=cbl y0 hbc;replace y1:=cbl y1 hbc;obtain⟨xk,hRc,hnk⟩:=HRb.out.rowK hov hbc rfl (by simp);have hRd:=hRc.perm (l':=(b,conO g v)::(lr++([xk]++L))) (by
  refine List.Perm.trans (List.Perm.cons _ ?_) (List.Perm.swap _ _ _);exact biO)
 have HCO:=hdd (alL (b:=b) HT.out hRd HN.out.2.1 HM.out.1 HM.out.2 (by obtain⟨r,c,cur,e1,e2,e3⟩:=hnk;exact⟨r,c,cur,e1,biJ _ (biL _ (biR _ e2)),e3⟩) hS hq);clear hbc hov hRc hnk hRd;go_wp2_with fail
 refine HCO.out.mono ?_;rintro e wd hF;obtain⟨rfl,hF⟩:=hF;have HF:Hid (ConP w0 g b es L (N+1) wd):=hdd ⟨v,lr,ks,K,HK.out.1,HO.out,hF.subl (List.Sublist.cons_cons _ (List.Sublist.append_left (biU _ _) _)),HK.out.2⟩;clear hF;go_wp2;go_ret;exact⟨rfl,HF.out⟩
end
end
section
open Go.RowKit Go.Maps Go.Stop Go.Extern
open Go.Instr renaming typeAssert->bi7
open Go.World renaming cell?_of_block->bi8,cell?_setCell_same->bi9
variable{j k:Int}{b n:Nat}{S T:Nat->Prop}{v:Value}{w w':World}
inductive ErK(S:Nat->Prop)(w:World):Nat->Value->Int->Prop
 |kind {k:Int}:1<=k->k<=7->ErK S w 0 (.iface 57 (.int .i64 k)) k
 |inn {n b:Nat} {v:Value} {k:Int}:S b->w.cell? ⟨b,1,none⟩=some v->ErK S w n v k->ErK S w (n+1) (.iface 273 (.pointer (some ⟨b,0,none⟩))) k
 |att {n b:Nat} {v:Value} {k:Int}:S b->w.cell? ⟨b,1,none⟩=some v->ErK S w n v k->ErK S w (n+1) (.iface 93 (.pointer (some ⟨b,0,none⟩))) k
theorem ErK.block (h:w.cell? ⟨b,1,none⟩=some v):b<w.heap.size:=World.block_lt_of_cell? w _ h
theorem ErK.keep (h:ErK S w n v k)(hb:∀b,S b->b<w.heap.size->w'.cell? ⟨b,1,none⟩=w.cell? ⟨b,1,none⟩):ErK S w' n v k:=by
 induction h with
 |kind h1 h2=>exact .kind h1 h2
 |inn h0 h1 _ ih=>exact .inn h0 ((hb _ h0 (ErK.block h1)).trans h1) ih
 |att h0 h1 _ ih=>exact .att h0 ((hb _ h0 (ErK.block h1)).trans h1) ih
theorem ErK.mono (h:ErK S w n v k)(hb:∀b,S b->b<w.heap.size->T b):ErK T w n v k:=by
 induction h with
 |kind h1 h2=>exact .kind h1 h2
 |inn h0 h1 _ ih=>exact .inn (hb _ h0 (ErK.block h1)) h1 ih
 |att h0 h1 _ ih=>exact .att (hb _ h0 (ErK.block h1)) h1 ih
theorem ErK.low (h:ErK S w n v k)(hb:Below w.heap.size w w'):ErK S w' n v k:=
 h.keep fun _ _ hl=>bi8 (hb.block _ hl)
theorem ErK.bound (h:ErK S w n v k):1<=k/\k<=7:=by
 induction h with
 |kind h1 h2=>exact⟨h1,h2⟩
 |inn _ _ _ ih=>exact ih
 |att _ _ _ ih=>exact ih
theorem ErK.det (h:ErK S w n v k):∀{m:Nat} {j:Int},ErK T w m v j->n=m:=by
 induction h with
 |kind h1 h2=>intro m j h;cases h;rfl
 |inn _ h1 _ ih=>
  intro m j h;cases h with
  |inn _ g1 g2=>rw[h1]at g1;cases g1;rw[ih g2]
 |att _ h1 _ ih=>
  intro m j h;cases h with
  |att _ g1 g2=>rw[h1]at g1;cases g1;rw[ih g2]
noncomputable def edep(w:World)(v:Value):Nat:=by
 classical
 exact if h:∃n k,ErK (fun _=>True) w n v k then Classical.choose h else 0
theorem ErK.edep (h:ErK S w n v k):edep w v=n:=by
 unfold Go.Proofs.YtigoiiekebccnaaGreatDoor.edep;have hx:∃n k,ErK (fun _=>True) w n v k:=⟨n,k,h.mono fun _ _ _=>trivial⟩;rw[dif_pos hx];obtain⟨j,hj⟩:=Classical.choose_spec hx;exact hj.det h
theorem acU(h:w.cell? ⟨b,1,none⟩=some v):
 Calls Tryz.prog 421 #[.pointer (some ⟨b,0,none⟩)] w (fun e w'=>e=.returned v/\w'=w):=by
 go_enter Tryz.func421,Tryz.ntmps421
 go_wp2;go_ret;exact⟨rfl,rfl⟩
theorem acV(h:w.cell? ⟨b,1,none⟩=some v):
 Calls Tryz.prog 403 #[.pointer (some ⟨b,0,none⟩)] w (fun e w'=>e=.returned v/\w'=w):=by
 go_enter Tryz.func403,Tryz.ntmps403
 go_wp2;go_ret;exact⟨rfl,rfl⟩
theorem qL(v:Value)(xT:TypeId)(w:World):(bi7 (.iface 57 v) xT 118 true).run Tryz.prog w=.ok (.tuple #[.nilIface,.bool false]) w:=run_typeAssert_lacksB Tryz.underlying118 (by kernel_rfl) (by kernel_rfl) v xT w
theorem nY(v:Value)(xT:TypeId)(w:World):(bi7 (.iface 57 v) xT 119 true).run Tryz.prog w=.ok (.tuple #[.nilIface,.bool false]) w:=run_typeAssert_lacksB Tryz.underlying119 (by kernel_rfl) (by kernel_rfl) v xT w
theorem alR(v:Value)(xT:TypeId)(w:World):(bi7 (.iface 57 v) xT 125 true).run Tryz.prog w=.ok (.tuple #[.nilIface,.bool false]) w:=run_typeAssert_lacksB Tryz.underlying125 (by kernel_rfl) (by kernel_rfl) v xT w
theorem sJ(v:Value)(xT:TypeId)(w:World):(bi7 (.iface 273 v) xT 118 true).run Tryz.prog w=.ok (.tuple #[.iface 273 v,.bool true]) w:=run_typeAssert_hasB Tryz.underlying118 (by kernel_rfl) v xT w
theorem ao2(v:Value)(xT:TypeId)(w:World):(bi7 (.iface 273 v) xT 125 true).run Tryz.prog w=.ok (.tuple #[.nilIface,.bool false]) w:=run_typeAssert_lacksB Tryz.underlying125 (by kernel_rfl) (by kernel_rfl) v xT w
theorem sK(v:Value)(xT:TypeId)(w:World):(bi7 (.iface 93 v) xT 118 true).run Tryz.prog w=.ok (.tuple #[.iface 93 v,.bool true]) w:=run_typeAssert_hasB Tryz.underlying118 (by kernel_rfl) v xT w
theorem ao3(v:Value)(xT:TypeId)(w:World):(bi7 (.iface 93 v) xT 125 true).run Tryz.prog w=.ok (.tuple #[.nilIface,.bool false]) w:=run_typeAssert_lacksB Tryz.underlying125 (by kernel_rfl) (by kernel_rfl) v xT w
theorem mU (v : Value) (w : World) : (Go.method 493 273 v "Unwrap").run Tryz.prog w = .ok (421, v) w := by kernel_rfl
theorem mV (v : Value) (w : World) : (Go.method 493 93 v "Unwrap").run Tryz.prog w = .ok (403, v) w := by kernel_rfl
theorem ahW{s:Nat}{c:Int}(h:ErK S w n v k)(hc:w.cell? ⟨s,0,none⟩=some (.int .i64 c))(hz:w.frozen? ⟨s,0,none⟩=false)(hc0:0<=c)(hcn:c+n<16777216)(hs:∀b,(∃v,w.cell? ⟨b,1,none⟩=some v)->b≠s):
 Calls Tryz.prog 45 #[v,.int .i64 0,.pointer (some ⟨s,0,none⟩)] w (fun e w'=>e=.returned (.bool false)/\Fr (fun b=>b=s) w w'):=by
 have HS:=hdd hs;have nK:=qL;have nKs:=nY;have uI:=sJ;have uA:=sK;have mI:=mU;have mA:=mV;have HH:=hdd h;have HC:=hdd hc;have HZ:=hdd hz;clear hs h hc hz;go_enter Tryz.func45,Tryz.ntmps45
 go_wp2_with fail
 go_loopw [0] (fun v' wr=>∃n':Nat,n'<=n/\Hid (ErK S w n' v' k)/\Hid (Fr (fun b=>b=s) w wr)/\Hid (wr.cell? ⟨s,0,none⟩=some (.int .i64 (c+(n-n':Nat))))/\Hid (wr.frozen? ⟨s,0,none⟩=false)) (fun v' _=>edep w v')
 case atStart=>exact⟨n,Nat.le_refl _,HH,hdd (Fr.of_below (Below.refl _ _)),hdd (by rw[Nat.sub_self];simpa using HC.out),HZ⟩
 case round=>
  obtain⟨n',hn',HE,HF,HCC,HZZ⟩:=hrel;have cs:=HCC.out;have fs:=HZZ.out;have hle:¬(c+((n-n':Nat):Int)+1>16777216):=by omega
  have hE:=HE.out;clear HE
  cases hE with
  |kind h1 h2=>
   go_wp2_with fail
   go_ret;exact⟨rfl,Fr.setCell HF.out rfl _⟩
  |@inn n1 b v1 k h0 h1 h2=>
   have HE2:=hdd h2;have HED:Hid (edep w (.iface 273 (.pointer (some ⟨b,0,none⟩)))=n1+1/\edep w v1=n1):=hdd ⟨(ErK.inn h0 h1 h2).edep,h2.edep⟩;have hbs:b≠s:=HS.out b ⟨_,h1⟩;have h1r:wr.cell? ⟨b,1,none⟩=some v1:=(bi8 (HF.out.block b (ErK.block h1) (fun h=>hbs h))).trans h1;have HU:Hid (∀u,Calls Tryz.prog 421 #[.pointer (some ⟨b,0,none⟩)] (wr.setCell ⟨s,0,none⟩ u) (fun e w''=>e=.returned v1/\w''=wr.setCell ⟨s,0,none⟩ u)):=hdd fun u=>acU ((bi8 (Below.heap_setCell wr _ u b hbs)).trans h1r);clear h0 h1 h2 h1r hbs;go_wp2_with fail
   refine(HU.out _).mono ?_;rintro e w2⟨rfl,rfl⟩;go_wp2_with fail
   go_roundw
   case rel=>
    refine⟨n1,by omega,HE2,hdd (Fr.setCell HF.out rfl _),hdd ?_,hdd (by simp[fs])⟩;have:((n-n1:Nat):Int)=((n-(n1+1):Nat):Int)+1:=by omega
    rw[this,<-Int.add_assoc];exact bi9 _ _ _ cs
   case measure=>have:=HED.out;simp[this]
  |@att n1 b v1 k h0 h1 h2=>
   have HE2:=hdd h2;have HED:Hid (edep w (.iface 93 (.pointer (some ⟨b,0,none⟩)))=n1+1/\edep w v1=n1):=hdd ⟨(ErK.att h0 h1 h2).edep,h2.edep⟩;have hbs:b≠s:=HS.out b ⟨_,h1⟩;have h1r:wr.cell? ⟨b,1,none⟩=some v1:=(bi8 (HF.out.block b (ErK.block h1) (fun h=>hbs h))).trans h1;have HU:Hid (∀u,Calls Tryz.prog 403 #[.pointer (some ⟨b,0,none⟩)] (wr.setCell ⟨s,0,none⟩ u) (fun e w''=>e=.returned v1/\w''=wr.setCell ⟨s,0,none⟩ u)):=hdd fun u=>acV ((bi8 (Below.heap_setCell wr _ u b hbs)).trans h1r);clear h0 h1 h2 h1r hbs;go_wp2_with fail
   refine(HU.out _).mono ?_;rintro e w2⟨rfl,rfl⟩;go_wp2_with fail
   go_roundw
   case rel=>
    refine⟨n1,by omega,HE2,hdd (Fr.setCell HF.out rfl _),hdd ?_,hdd (by simp[fs])⟩;have:((n-n1:Nat):Int)=((n-(n1+1):Nat):Int)+1:=by omega
    rw[this,<-Int.add_assoc];exact bi9 _ _ _ cs
   case measure=>have:=HED.out;simp[this]
theorem sM(h:ErK S w n v k)(hn:n<16777216):
 Calls Tryz.prog 27 #[v] w (fun e w'=>e=.returned (.bool false)/\Below w.heap.size w w'):=by
 have hb1:Below w.heap.size w (w.alloc (.cells #[.int .i64 0] 3)):=Below.alloc (Below.refl _ _) nlr _;have h1:=h.low hb1;have HL:=hdd (ahW (s:=w.heap.size) (c:=0) h1 (by simp) (by simp) (by omega) (by omega) (fun b hb=>by
  obtain⟨v',hv'⟩:=hb;intro hbs;subst hbs;simp at hv'))
 have HB:=hdd hb1;clear h h1 hb1;go_enter Tryz.func27,Tryz.ntmps27
 go_wp2_with fail
 refine HL.out.mono ?_;rintro e w2⟨rfl,hf⟩;have HB2:Hid (Below w.heap.size w w2):=hdd (HB.out.trans (hf.below HB.out.size (fun i hi=>by omega)));go_wp2_with fail
 go_ret;exact⟨rfl,HB2.out⟩
theorem alS(v:Value)(w:World):(Extern.ReflectliteType.typeOf #[.iface 57 v]).run Tryz.prog w=.ok (.iface 123 (.agg #[.pointer (some ⟨10,57,none⟩)])) w:=by kernel_rfl
def cmpX (args : Array Value) : Sem Value := Extern.ReflectliteType.method (fun t => do Extern.Rtype.noPackHeld "Comparable" t; pure (.bool (← typeInfo t).comparable)) args
theorem aaI(w:World):(cmpX #[.agg #[.pointer (some ⟨10,57,none⟩)]]).run Tryz.prog w=.ok (.bool true) w:=by kernel_rfl
theorem oM (v : Value) (w : World) : (Go.method 493 123 v "Comparable").run Tryz.prog w = .ok (407, v) w := by kernel_rfl
theorem anM(a b:Int)(w:World):(binOp .eql 30 (.iface 57 (.int .i64 a)) (.iface 57 (.int .i64 b))).run Tryz.prog w=.ok (.bool (a==b)) w:=
 Lib.run_eql_iface_int w a b Tryz.underlying30 (by kernel_rfl) Tryz.underlying57
theorem alT(h:ErK S w n v k):
 Calls Tryz.prog 47 #[v,.iface 57 (.int .i64 j),.bool true] w (fun e w'=>e=.returned (.bool (k==j))/\w'=w):=by
 have nK:=qL;have nKs:=nY;have iK:=alR;have iI:=ao2;have iA:=ao3;have uI:=sJ;have uA:=sK;have mI:=mU;have mA:=mV;have eq:=anM;have eI:∀(p x:Value) (w:World),(binOp .eql 30 (.iface 273 p) (.iface 57 x)).run Tryz.prog w=.ok (.bool false) w:=fun p x w=>run_eql_iface_types (P:=Tryz.prog) _ _ p x Tryz.underlying30 (by decide) w;have eA:∀(p x:Value) (w:World),(binOp .eql 30 (.iface 93 p) (.iface 57 x)).run Tryz.prog w=.ok (.bool false) w:=fun p x w=>run_eql_iface_types (P:=Tryz.prog) _ _ p x Tryz.underlying30 (by decide) w;have HH:=hdd h;clear h;go_enter Tryz.func47,Tryz.ntmps47
 go_wp2_with fail
 go_loopw [0] (fun v' wr=>∃n':Nat,n'<=n/\Hid (ErK S w n' v' k)/\wr=w) (fun v' _=>edep w v')
 case atStart=>exact⟨n,Nat.le_refl _,HH,rfl⟩
 case round=>
  obtain⟨n',hn',HE,rfl⟩:=hrel;have hE:=HE.out;clear HE
  cases hE with
  |kind h1 h2=>
   go_wp2_with fail
   all_goals go_ret
   all_goals exact⟨by simp_all,rfl⟩
  |@inn n1 b v1 k h0 h1 h2=>
   have HE2:=hdd h2;have HED:Hid (edep wr (.iface 273 (.pointer (some ⟨b,0,none⟩)))=n1+1/\edep wr v1=n1):=hdd ⟨(ErK.inn h0 h1 h2).edep,h2.edep⟩;have HU:=hdd (acU h1);have hnn:∃t x,v1=.iface t x:=by cases h2<;>exact⟨_,_,rfl⟩
   obtain⟨vt,vx,hvv⟩:=hnn;subst hvv;clear h0 h1 h2;go_wp2_with fail
   refine HU.out.mono ?_;rintro e w2⟨rfl,rfl⟩;go_wp2_with fail
   go_roundw
   case rel=>exact⟨n1,by omega,HE2,trivial⟩
   case measure=>have:=HED.out;simp[this]
  |@att n1 b v1 k h0 h1 h2=>
   have HE2:=hdd h2;have HED:Hid (edep wr (.iface 93 (.pointer (some ⟨b,0,none⟩)))=n1+1/\edep wr v1=n1):=hdd ⟨(ErK.att h0 h1 h2).edep,h2.edep⟩;have HU:=hdd (acV h1);have hnn:∃t x,v1=.iface t x:=by cases h2<;>exact⟨_,_,rfl⟩
   obtain⟨vt,vx,hvv⟩:=hnn;subst hvv;clear h0 h1 h2;go_wp2_with fail
   refine HU.out.mono ?_;rintro e w2⟨rfl,rfl⟩;go_wp2_with fail
   go_roundw
   case rel=>exact⟨n1,by omega,HE2,trivial⟩
   case measure=>have:=HED.out;simp[this]
theorem ao4(h:ErK S w n v k):
 Calls Tryz.prog 28 #[v,.iface 57 (.int .i64 j)] w (fun e w'=>e=.returned (.bool (k==j))/\w'=w):=by
 have hnn:∃t x,v=.iface t x:=by cases h<;>exact⟨_,_,rfl⟩
 obtain⟨vt,vx,rfl⟩:=hnn;have h8:=@run_callFunc_extern Tryz.prog 46 _ Extern.ReflectliteType.typeOf Tryz.func46 (by kernel_rfl) (by kernel_rfl) (by kernel_rfl) (by kernel_rfl);have h32:=@run_callFunc_extern Tryz.prog 407 _ cmpX Tryz.func407 (by kernel_rfl) (by kernel_rfl) (by kernel_rfl) (by kernel_rfl);have tT:=alS;have cT:=aaI;have mR:=oM;have HH:=hdd (alT (j:=j) h);clear h;go_enter Tryz.func28,Tryz.ntmps28
 go_wp2_with fail
 refine HH.out.mono ?_;rintro e w2⟨rfl,rfl⟩;go_wp2_with fail
 go_ret;exact⟨rfl,rfl⟩
end
end Go.Proofs.YtigoiiekebccnaaGreatDoor
