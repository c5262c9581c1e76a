/- A part of the proof: contracts of functions and plain laws (ScU, ScV, ScVA, ScZ, ScPW). -/
import Derived.Test.YtigoiiekebccnaaGreatDoorK51
import Derived.Deep.Upon
import Derived.Test.YtigoiiekebccnaaGreatDoorK35
set_option linter.unusedVariables false
set_option linter.unusedSimpArgs false
set_option linter.unnecessarySimpa false
set_option maxHeartbeats 25600000
set_option maxRecDepth 100000
namespace Go.Proofs.YtigoiiekebccnaaGreatDoor
section
open Go.RowKit
open Int renaming natCast_nonneg->as7,ofNat_lt->atA
open List renaming getElem?_eq_getElem->as6
open Nat renaming lt_or_ge->as5,le_antisymm->as8,zero_le->as9
variable{v v':Value}{w:World}
theorem aqM{xs:List Int}(hv:IntS w v xs)(hv':IntS w v' xs)(hl:xs.length<=1000000):Calls Tryz.prog 29 #[v,v'] w (RetV w (.bool true)):=by
 obtain⟨p,c,rfl,h1,h2,hc⟩:=id hv;obtain⟨p',c',rfl,h1',h2',hc'⟩:=id hv';have HV:=hdd hv;have HV':=hdd hv';obtain⟨n,hn⟩:∃n,xs.length=n:=⟨_,rfl⟩;have HN:=hdd hn;rw[hn]at hl HV HV'|-;have hlI:(n:Int)<=1000000:=by omega
 clear hv hv' hc hc' h1 h2 h1' h2' hn hl;go_enter Tryz.func29,Tryz.ntmps29
 go_wp2_with fail
 go_loopw [5] (fun i wr=>∃m:Nat,m<=n/\i=.int .i64 (m:Int)/\Hid (Below w.heap.size w wr)) (fun i _=>((n:Int)-intOf i).toNat)
 case atStart=>exact⟨0,as9 _,rfl,hdd (Below.refl _ _)⟩
 case round=>
  obtain⟨m,hm,rfl,HG⟩:=hrel;rcases as5 m n with hlt|hge
  . obtain⟨y,hy⟩:∃y,xs[m]? =some y:=⟨_,as6 (by rw[HN.out];exact hlt)⟩
    obtain⟨q,k,e,-,-,hcc⟩:=HV.out.below HG.out;obtain⟨b,o,rfl,ca⟩:=hcc m y hy;simp only[Value.slice.injEq]at e;obtain⟨rfl,-,-⟩:=e;obtain⟨q',k',e,-,-,hcc'⟩:=HV'.out.below HG.out;obtain⟨b',o',rfl,ca'⟩:=hcc' m y hy;simp only[Value.slice.injEq]at e;obtain⟨rfl,-,-⟩:=e;have hmI:(m:Int)<(n:Int):=atA.2 hlt;have hm0:(0:Int)<=(m:Int):=as7 _;have HLT:=hdd hlt;clear hcc hcc' hlt hm hy;go_wp2_with fail
    go_quiet (fail)
    have HNX:=hdd (aA HG.out (below_drewN wr nq));clear HG ca ca';go_wp2_with fail
    go_roundw
    case rel=>exact⟨m+1,HLT.out,by go_num,HNX⟩
    case measure=>exact fE HLT.out
  . obtain rfl:m=n:=as8 hm hge
    have HF:=hdd HG.out;clear HG hm hge;go_wp2;go_ret;exact⟨rfl,HF.out⟩
theorem apT{l:List Stp}(hv:StepsO w v l)(hv':StepsO w v' l)(hl:l.length<=1000)(hx:∀x∈l,x.2.length<=1000):Calls Tryz.prog 11 #[v,v'] w (RetV w (.bool true)):=by
 obtain⟨p,c,rfl,hc⟩:=id hv;obtain⟨p',c',rfl,hc'⟩:=id hv';have HC:=hdd hc;have HC':=hdd hc';have HX:=hdd hx;obtain⟨n,hn⟩:∃n,l.length=n:=⟨_,rfl⟩;have HN:=hdd hn;rw[hn]at hl|-;have hlI:(n:Int)<=1000:=by omega
 clear hv hv' hc hc' hn hl hx;go_enter Tryz.func11,Tryz.ntmps11
 go_wp2_with fail
 go_loopw [5] (fun i wr=>∃m:Nat,m<=n/\i=.int .i64 (m:Int)/\Hid (Below w.heap.size w wr)) (fun i _=>((n:Int)-intOf i).toNat)
 case atStart=>exact⟨0,as9 _,rfl,hdd (Below.refl _ _)⟩
 case round=>
  obtain⟨m,hm,rfl,HG⟩:=hrel;rcases as5 m n with hlt|hge
  . obtain⟨y,hy⟩:∃y,l[m]? =some y:=⟨_,as6 (by rw[HN.out];exact hlt)⟩
    obtain⟨b,o,u,rfl,ca,cb,hI⟩:=HC.out m y hy;obtain⟨b',o',u',rfl,ca',cb',hI'⟩:=HC'.out m y hy;have hbd:=aA HG.out (Below.refl _ _).drew;replace ca:wr.drew.cell? ⟨b,o+m*2,none⟩=some (.string y.1):=cbl ca hbd;replace cb:wr.drew.cell? ⟨b,o+m*2+1,none⟩=some u:=cbl cb hbd;replace ca':wr.drew.cell? ⟨b',o'+m*2,none⟩=some (.string y.1):=cell_below ca' hbd nlr;replace cb':wr.drew.cell? ⟨b',o'+m*2+1,none⟩=some u':=cell_below cb' hbd nlr;have HSI:=hdd (aqM (w:=wr.drew) (hI.below hbd) (hI'.below hbd) (by have:=HX.out y (List.mem_of_getElem? hy);omega));have HBD:=hdd hbd;have hmI:(m:Int)<(n:Int):=atA.2 hlt;have hm0:(0:Int)<=(m:Int):=as7 _;have HLT:=hdd hlt;clear hlt hm hy hI hI' hbd HG;go_wp2_with fail
    go_region_held3 (fun w'=>w'.cell? ⟨b,o+m*2,none⟩=some (.string y.1)/\w'.cell? ⟨b,o+m*2+1,none⟩=some u/\w'.cell? ⟨b',o'+m*2,none⟩=some (.string y.1)/\w'.cell? ⟨b',o'+m*2+1,none⟩=some u') (go_keep)
     (first
     |(go_at_call 29
       refine HSI.out.mono ?_;rintro e wl⟨rfl,hbl⟩;have HNX:=hdd (aA HBD.out hbl);replace ca:=cbl ca hbl;replace cb:=cbl cb hbl;replace ca':=cell_below ca' hbl nlr;replace cb':=cell_below cb' hbl nlr;clear hbl))
    clear ca cb ca' cb';go_wp2_with fail
    go_roundw
    case rel=>exact⟨m+1,HLT.out,by go_num,HNX⟩
    case measure=>exact fE HLT.out
  . obtain rfl:m=n:=as8 hm hge
    have HF:=hdd HG.out;clear HG hm hge;go_wp2;go_ret;exact⟨rfl,HF.out⟩
def ar0(w:World)(l:List Stp)(e:Ending)(w':World):Prop:=w'=w/\∃B,e=.returned (.bool B)/\(B=true->l.length<=250/\∀x∈l,x.2.length<=20)
theorem aq8{l:List Stp}(hv:StepsO w v l):Calls Tryz.prog 5 #[v] w (ar0 w l):=by
 obtain⟨p,c,rfl,hc⟩:=id hv;have HC:=hdd hc;obtain⟨n,hn⟩:∃n,l.length=n:=⟨_,rfl⟩;have HN:=hdd hn;rw[hn];clear hv hc hn;go_enter Tryz.func5,Tryz.ntmps5
 go_wp2_with fail
 go_loopw [3] (fun i wr=>∃m:Nat,m<=n/\m<=300/\i=.int .i64 (m:Int)/\Hid (wr=w/\∀x∈l.take m,x.2.length<=20)) (fun i _=>((300:Int)-intOf i).toNat)
 case atStart=>exact⟨0,as9 _,as9 _,rfl,hdd ⟨rfl,fun x hx=>by simp at hx⟩⟩
 case round=>
  obtain⟨m,hm,hm3,rfl,HG⟩:=hrel;obtain⟨rfl,hall⟩:=HG.out;have hm0:(0:Int)<=(m:Int):=as7 _;have hm1:(m:Int)<=300:=by omega
  have HA:=hdd (And.intro hall hm3);clear hall HG;rcases as5 m n with hlt|hge
  . have hmI:(m:Int)<(n:Int):=atA.2 hlt
    rcases as5 m 300 with h3|h3
    . have h3I:(m:Int)<300:=by omega
      obtain⟨x,hx⟩:∃x,l[m]? =some x:=⟨_,as6 (by rw[HN.out];exact hlt)⟩;obtain⟨b,o,u,rfl,ca,cb,hI⟩:=HC.out m x hx;obtain⟨p',c',rfl,-⟩:=id hI;have HX:=hdd (And.intro hx (And.intro hlt h3));obtain⟨q,hq⟩:∃q,x.2.length=q:=⟨_,rfl⟩;have HQ:=hdd hq;rw[hq]at cb;clear hI hx hlt h3 hm hq hm3;rcases as5 40 x.1.size with h4|h4
      . have h4I:(40:Int)<(x.1.size:Int):=by omega
        go_wp2;go_ret;exact⟨rfl,false,rfl,fun h=>by cases h⟩
      . have h4I:¬(40:Int)<(x.1.size:Int):=by omega
        rcases as5 20 q with h5|h5
        . have h5I:(20:Int)<(q:Int):=by omega
          go_wp2;go_ret;exact⟨rfl,false,rfl,fun h=>by cases h⟩
        . have h5I:¬(20:Int)<(q:Int):=by omega
          have HNX:Hid (wr=wr/\∀x∈l.take (m+1),x.2.length<=20):=hdd ⟨rfl,fun z hz=>by
           rw[List.take_add_one,HX.out.1]at hz;rcases List.mem_append.1 hz with hz|hz
           . exact HA.out.1 z hz
           . obtain rfl:z=x:=by simpa using hz
             rw[HQ.out];exact h5⟩
          go_wp2_with fail
          go_roundw
          case rel=>exact⟨m+1,HX.out.2.1,HX.out.2.2,by go_num,hdd ⟨trivial,HNX.out.2⟩⟩
          case measure=>exact fE HX.out.2.2
    . have h3I:¬(m:Int)<300:=by omega
      have h2:¬(n:Int)<=250:=by omega
      clear hlt hm hm3 h3;go_wp2;go_ret;exact⟨rfl,false,by first|rfl|simp[h2],fun h=>by cases h⟩
  . obtain rfl:m=n:=as8 hm hge
    rcases as5 250 m with h2|h2
    . have h2I:¬(m:Int)<=250:=by omega
      clear hm hm3 hge h2;go_wp2;go_ret;exact⟨rfl,false,by first|rfl|simp[h2I],fun h=>by cases h⟩
    . have h2I:(m:Int)<=250:=by omega
      have H2:=hdd h2;clear hm hm3 hge h2;go_wp2;go_ret;refine⟨rfl,true,by first|rfl|simp[h2I],fun _=>⟨by have:=HN.out;have:=H2.out;omega,?_⟩⟩;have:=HA.out.1;rwa[List.take_of_length_le (by rw[HN.out];exact Nat.le_refl _)]at this
end
section
open Go.RowKit Go.Deep
open Go.Addr.mk renaming injEq->atJ
open Go.Value.slice renaming injEq->atI
open List renaming getElem?_eq_some_iff->atC,set_cons_succ->atD,getElem?_append_left->atF,getElem?_map->atG,length_map->atK,map_cons->atL
open Nat renaming zero_add->atE
open Option.some renaming injEq->atH,inj->atM
variable{xs:List Int}{q:Nat}{u v:Value}
theorem apV{P:Program}{w:World}{ops:Array Oper}{rest:List Oper}{o:Oper}{a:Act}{Q:Exit->Act->World->Prop}(hgd:o.guard=none)(s x:Operand)(t:TypeId)
 (ho:o.op=.call {callee:=.builtin .append,args:=#[s,x],argTypes:=#[t,t]}) (e:TypeId) (i:TypeInfo) (ht:P.underlying t=some (.slice e)) (hi:P.info? e=some i) (p:Option Addr) (c:Nat)
 (hs:a.eval s=.slice none 0 0) (hx:a.eval x=.slice p 0 c) (h:wpList P ops Q rest (a.put o.dst (.slice none 0 0)) w):wpList P ops Q (o::rest) a w:=by
 refine wpList_plain hgd fun K hK=> ?_;have hrun:(Builtin.append_ #[t,t] o.type #[.slice none 0 0,.slice p 0 c]).run P w=.ok (.slice none 0 0) w:=by
  cases p<;>simp[Builtin.append_,run_underlying ht,sizeOf,typeInfo,hi,Builtin.lenOf,Builtin.firstCells,loadCells,loadCellsFrom,storeCells]
 unfold Oper.wp;simp only[execOp,ho,resolve,invoke,builtin,Sem.run_bind,Sem.run_pure,Result.andThen_ok,List.map_toArray,atL,List.map_nil,hs,hx,hrun];exact hK _ _ h
def arI(w:World)(xs:List Int)(e:Ending)(w':World):Prop:=∃p c,e=.returned (.slice p xs.length c)/\w'.ownsRow w.heap.size 3 1 (.slice p xs.length c) xs.length (xs.map (Value.int .i64))/\Below w.heap.size w w'
theorem arJ{w:World}(hv:IntS w v xs)(hl:xs.length<=1000):Calls Tryz.prog 16 #[v] w (arI w xs):=by
 obtain⟨i0,hi0,hz0,hz1,hz2⟩:=info_parts pM;obtain⟨p,c,rfl,h1,h2,hc⟩:=id hv;rcases Nat.eq_zero_or_pos xs.length with h0|h0
 . have hx:xs=[]:=List.eq_nil_of_length_eq_zero h0
   subst hx;simp only[List.length_nil];clear hv hc h1 h2 hl h0 hz0 hz1 hz2;go_enter Tryz.func16,Tryz.ntmps16
   go_wp2_with (at_builtin;refine apV rfl _ _ 25 rfl 3 i0 kK hi0 p c rfl rfl ?_)
   go_wp2;go_ret;exact⟨none,0,rfl,World.ownsRow_nil _ _ _ _,Below.refl _ _⟩
 . obtain⟨x0,hx0⟩:∃x,xs[0]? =some x:=⟨_,List.getElem?_eq_getElem h0⟩
   obtain⟨b,o,rfl,-⟩:=hc 0 x0 hx0;have hcells:∀j u,(xs.map (Value.int .i64))[j]? =some u->w.cell? ((⟨b,o,none⟩:Addr).add j)=some u:=fun j u hj=>by
    rw[atG,Option.map_eq_some_iff]at hj;obtain⟨x,hx,rfl⟩:=hj;obtain⟨b',o',e,h⟩:=hc j x hx;simp only[atH,atJ,and_true]at e;obtain⟨rfl,rfl⟩:=e;rw[Go.WideShapes.add_plain];exact h
   obtain⟨n,hn⟩:∃n,xs.length=n:=⟨_,rfl⟩;have HC:=hdd hcells;have HN:=hdd hn;unfold arI;rw[hn]at h0 hl|-;have HL:=hdd (And.intro h0 hl);clear hv hc h1 h2 hl hx0 hcells hn h0;go_enter Tryz.func16,Tryz.ntmps16
   go_wp2_with (at_builtin;refine wpList_append_lies _ rfl _ _ 25 rfl w.heap.size 3 i0 (.int .i64 0) 1 8 kK hi0 hz0 hz1 hz2 rfl (by decide) (.slice none 0 0) 0 [] rfl (World.ownsRow_nil _ _ _ _) ⟨b,o,none⟩ n c (xs.map (Value.int .i64)) rfl (by rw[atK,HN.out,Nat.mul_one]) HC.out (by intro u hu;obtain⟨z,-,rfl⟩:=List.mem_map.1 hu;rfl) HL.out.1 (by have:=HL.out.2;unfold maxLen;omega) (by have:=HL.out.2;omega) nlr w.heap.size rfl ?_)
   intro r cap w4 hown4 hgrow4 hat4 hlt4;have HO:Hid (w4.ownsRow w.heap.size 3 1 (.slice (some ⟨r,0,none⟩) n cap) n (xs.map (Value.int .i64))/\Below w.heap.size w w4):=hdd ⟨by simpa using hown4,below_grown hgrow4 nlr (fun b hb=>by cases hb)⟩;clear hown4 hgrow4 hat4 hlt4;go_wp2;go_ret;refine⟨some ⟨r,0,none⟩,cap,?_,HO.out⟩;simp
def arV(w:World)(xs:List Int)(e:Ending)(w':World):Prop:=∃r c,e=.returned (.slice (some ⟨r,0,none⟩) xs.length c)/\w.heap.size<=r/\IntS w' (.slice (some ⟨r,0,none⟩) xs.length c) xs/\Below w.heap.size w w'
theorem arK{w:World}(hv:IntS w v xs)(hl:xs.length<=1000):Calls Tryz.prog 7 #[v] w (arV w xs):=by
 obtain⟨i0,hi0,hz0,hz1,hz2⟩:=info_parts pM;have HCP:=hdd (arJ hv hl);obtain⟨p,c,rfl,-⟩:=id hv;obtain⟨n,hn⟩:∃n,xs.length=n:=⟨_,rfl⟩;have HN:=hdd hn;unfold arV;unfold arI at HCP;rw[hn]at hl HCP|-;have HL:=hdd hl;have hlI:(n:Int)<=1000:=by omega
 have hn0:(0:Int)<=(n:Int):=Int.natCast_nonneg _;clear hv hl hn;go_enter Tryz.func7,Tryz.ntmps7
 go_wp2_with fail
 refine HCP.out.mono ?_;rintro e w1⟨q,c1,rfl,hown,hb1⟩;obtain⟨w2,hw2,hb2,hs2,b2⟩:=pro1 w1 (.cells #[.int .i64 (-77)] 3);have hown2:=hown.kept (aH (row:=none) hb2) (by
  rcases hv:(Value.slice q n c1).ownBlock with _|b
  . exact Or.inl rfl
  . exact Or.inr (by simp))
 have HC:=hdd (dM b2);have HB2:=hdd (aA hb1 hb2);clear hown hb1 hb2 hs2 b2 HCP;go_wp2_with (at_builtin;refine wpList_append_lies _ rfl _ _ 25 rfl w.heap.size 3 i0 (.int .i64 0) 1 8 kK hi0 hz0 hz1 hz2 rfl (by decide) (.slice q n c1) n (xs.map (Value.int .i64)) rfl hown2 ⟨w1.heap.size,0,none⟩ 1 1 [.int .i64 (-77)] rfl rfl HC.out (by simp[Value.oneCell']) (by decide) (by have:=HL.out;unfold maxLen;omega) (by have:=HL.out;omega) HB2.out.size w2.heap.size rfl ?_)
 intro r cap w4 hown4 hgrow4 hat4 hlt4;have hcap:n+1<=cap/\cap<=maxLen:=by
  rcases hown4.2 with ⟨e,-⟩|⟨r',c',cur,e,-,-,h1,h2,-⟩
  . simp at e
  . simp only[atI]at e
    obtain⟨-,-,rfl⟩:=e;exact⟨h1,h2⟩
 have hcells:=hown4.cells (g:=r) rfl;have HF:Hid (w.heap.size<=r/\IntS w4 (.slice (some ⟨r,0,none⟩) n cap) xs/\Below w.heap.size w w4):=hdd ⟨(hown4.lt r rfl).1,⟨some ⟨r,0,none⟩,cap,by rw[HN.out],by rw[HN.out];omega,hcap.2,fun j y hy=>⟨r,0,rfl,by
  have:=hcells j (.int .i64 y) (by
   rw[atF (by rw[atK];exact(atC.1 hy).1),atG,hy];rfl)
  rwa[Go.WideShapes.add_plain]at this⟩⟩,HB2.out.trans (below_grown hgrow4 HB2.out.size (fun b hb=>(hown2.lt b hb).1))⟩
 have hcI:(n:Int)<=(cap:Int):=by omega
 have hcI2:(cap:Int)<=9223372036854775807:=by have:=hcap.2;unfold maxLen at this;omega
 clear hown2 hown4 hgrow4 hat4 hlt4 hcells hcap hw2;go_wp2;go_ret;exact⟨r,cap,rfl,HF.out⟩
theorem aqN{w:World}{B r n cap sz:Nat}{e:TypeId}{xs:List Value}(h:w.ownsRow B e sz (.slice (some ⟨r,0,none⟩) n cap) n xs):(w.setCell ⟨r,q,none⟩ u).ownsRow B e sz (.slice (some ⟨r,0,none⟩) n cap) n (xs.set q u):=by
 obtain⟨hl,h⟩:=h;rcases h with ⟨e,-⟩|⟨r',cap',cur,e,hB,hr,h1,h2,h3,h4⟩
 . simp at e
 . simp only[atI,atH,atJ,and_true,true_and]at e
   obtain⟨rfl,rfl⟩:=e;refine⟨by rw[List.length_set];exact hl,Or.inr ⟨r,cap,(cur.toList.set q u).toArray,rfl,hB,zO (k:=q) (v:=u) (cs:=cur.toList) (by simpa using hr),h1,h2,by simpa using h3,?_⟩⟩;rw[<-h4,List.take_set]
theorem ap2:∀{tl:List (Stp×Value)} {i:Nat} {t:Stp×Value} {u:Value},tl[i]? =some t->(eQ tl).set (i*2+1) u=eQ (tl.set i (t.1,u))
 |[],i,t,u,h=>by simp at h
 |a::tl,0,t,u,h=>by
  obtain rfl:a=t:=by simpa using h
  rfl
 |a::tl,i+1,t,u,h=>by
  have:=ap2 (tl:=tl) (i:=i) (u:=u) (by simpa using h);rw[show(i+1)*2+1=(i*2+1)+1+1 by omega,atD,show eQ (a::tl)=.string a.1.1::a.2::eQ tl from rfl,atD,atD,this];rfl
theorem StepsO.row {w:World}{l:List Stp}(h:StepsO w v l):∃(tl:List (Stp×Value)) (p:Option Addr) (c:Nat),tl.map (·.1)=l/\v=.slice p l.length c/\∀(j:Nat) t,tl[j]? =some t->∃b o,p=some ⟨b,o,none⟩/\w.cell? ⟨b,o+j*2,none⟩=some (.string t.1.1)/\w.cell? ⟨b,o+j*2+1,none⟩=some t.2/\IntS w t.2 t.1.2:=by
 obtain⟨p,c,rfl,hc⟩:=h;have key:∀(l':List Stp) (k:Nat),(∀j x,l'[j]? =some x->l[k+j]? =some x)->∃tl:List (Stp×Value),tl.map (·.1)=l'/\∀(j:Nat) t,tl[j]? =some t->∃b o,p=some ⟨b,o,none⟩/\w.cell? ⟨b,o+(k+j)*2,none⟩=some (.string t.1.1)/\w.cell? ⟨b,o+(k+j)*2+1,none⟩=some t.2/\IntS w t.2 t.1.2:=by
  intro l'
  induction l' with
  |nil=>intro k _;exact⟨[],rfl,fun j t h=>by simp at h⟩
  |cons x l' ih=>
   intro k hk;obtain⟨tl,h1,h2⟩:=ih (k+1) (fun j y hy=>by rw[Nat.add_assoc,Nat.add_comm 1];exact hk (j+1) y (by simpa using hy));obtain⟨b,o,u,hp,q1,q2,q3⟩:=hc k x (hk 0 x rfl);refine⟨(x,u)::tl,by rw[atL,h1],fun j t ht=> ?_⟩
   cases j with
   |zero=>
    obtain rfl:(x,u)=t:=by simpa using ht
    exact⟨b,o,hp,q1,q2,q3⟩
   |succ j=>
    have:=h2 j t (by simpa using ht);rwa[show k+1+j=k+(j+1) by omega]at this
 obtain⟨tl,h1,h2⟩:=key l 0 (fun j x hx=>by rwa[atE]);refine⟨tl,p,c,h1,rfl,fun j t ht=> ?_⟩;have:=h2 j t ht;rwa[atE]at this
def OffI(r:Nat)(v:Value)(xs:List Int):Prop:=∀(j:Nat) x,xs[j]? =some x->∀b o n c,v=.slice (some ⟨b,o,none⟩) n c->b≠r
theorem IntS.put {w:World}{r:Nat}(h:IntS w v xs)(ho:OffI r v xs):IntS (w.setCell ⟨r,q,none⟩ u) v xs:=by
 obtain⟨p,c,rfl,h1,h2,hc⟩:=h;refine⟨p,c,rfl,h1,h2,fun j x hx=> ?_⟩;obtain⟨b,o,rfl,hv⟩:=hc j x hx;have hb:=ho j x hx b o _ _ rfl;refine⟨b,o,rfl,(World.cell?_setCell_other _ _ _ _ (fun e=>hb ?_)).trans hv⟩;simp only[atJ]at e;exact e.1.symm
abbrev markT:Stp×Value:=((⟨#[109,97,114,107]⟩,[]),.slice none 0 0)
def RowM(B:Nat)(w:World)(r n cap:Nat)(tl:List (Stp×Value)):Prop:=w.ownsRow B 27 2 (.slice (some ⟨r,0,none⟩) (n+1) cap) (n+1) (eQ (tl++[markT]))/\∀(j:Nat) t,tl[j]? =some t->IntS w t.2 t.1.2/\OffI r t.2 t.1.2
theorem apU:∀(a b:List (Stp×Value)),eQ (a++b)=eQ a++eQ b
 |[],b=>rfl
 |t::a,b=>by
  show .string t.1.1::t.2::eQ (a++b)=_;rw[apU a b];rfl
section
variable{B r n cap:Nat}{w w':World}{tl:List (Stp×Value)}{l:List Stp}
theorem RowM.below (h:RowM B w r n cap tl)(hb:Below w.heap.size w w'):RowM B w' r n cap tl:=
 ⟨h.1.kept (aH (row:=none) hb) (Or.inr (by simp[Value.ownBlock])),fun j t ht=>⟨(h.2 j t ht).1.below hb,(h.2 j t ht).2⟩⟩
theorem RowM.cells (h:RowM B w r n cap tl){j:Nat}{t:Stp×Value}(ht:(tl++[markT])[j]? =some t):w.cell? ⟨r,j*2,none⟩=some (.string t.1.1)/\w.cell? ⟨r,j*2+1,none⟩=some t.2/\∀k,w.frozen? ⟨r,k,none⟩=false:=by
 obtain⟨h0,h1⟩:=zN ht;have q0:=h.1.cells (g:=r) rfl _ _ h0;have q1:=h.1.cells (g:=r) rfl _ _ h1;rw[Addr.add_lit,atE]at q0 q1;refine⟨q0,q1,fun k=> ?_⟩;rcases h.1.2 with ⟨e,-⟩|⟨r',cap',cur,e,-,hr,-⟩
 . simp at e
 . simp only[atI,atH,atJ,and_true,true_and]at e
   obtain⟨rfl,rfl⟩:=e;exact frzI hr k
theorem RowM.set (h:RowM B w r n cap tl){i:Nat}{t:Stp×Value}{v':Value}(ht:tl[i]? =some t)(hv:IntS w v' t.1.2)(ho:OffI r v' t.1.2):RowM B (w.setCell ⟨r,i*2+1,none⟩ v') r n cap (tl.set i (t.1,v')):=by
 have hlt:=(atC.1 ht).1;refine⟨?_,fun j y hy=> ?_⟩
 . have e:eQ (tl.set i (t.1,v')++[markT])=(eQ (tl++[markT])).set (i*2+1) v':=by
    rw[apU,apU,<-ap2 ht,List.set_append_left _ _ (by rw[apW];omega)]
   rw[e];exact aqN h.1
 . rw[List.getElem?_set]at hy
   split at hy
   . rename_i e
     subst e;obtain rfl:=atM hy;exact⟨hv.put ho,ho⟩
   . exact⟨(h.2 j y hy).1.put (h.2 j y hy).2,(h.2 j y hy).2⟩
theorem RowM.steps (h:RowM B w r n cap tl)(hl:tl.map (·.1)=l)(hn:l.length=n):StepsO w (.slice (some ⟨r,0,none⟩) n cap) l:=by
 refine⟨some ⟨r,0,none⟩,cap,by rw[hn],fun j x hx=> ?_⟩;rw[<-hl,atG,Option.map_eq_some_iff]at hx;obtain⟨t,ht,rfl⟩:=hx;obtain⟨q0,q1,-⟩:=h.cells (j:=j) (t:=t) (by rw[atF (atC.1 ht).1];exact ht);exact⟨r,0,t.2,rfl,by rwa[atE],by rwa[atE],(h.2 j t ht).1⟩
end
end
section
open Go.RowKit
open List renaming mem_cons_self->atN,intercalate->atO,length_singleton->atP,length_append->atQ,mem_singleton->atS,length_cons->atT,cons_append->atU,mem_append->atV,map_cons->atW
theorem aqG{x:ByteArray}{xs:List Int}(h:dE x xs=true):(10:UInt8)∉joinL x xs/\jR ⟨(joinL x xs).toArray⟩=false/\gX ⟨(joinL x xs).toArray⟩=some (x,xs):=by
 refine⟨fun hm=> ?_,?_,ac0 (k:=0) h rfl⟩
 . rcases yO hm with e|⟨w,hw,hb⟩
   . exact absurd e (by decide)
   . exact((lI h w hw).2 _ hb).2 rfl
 . obtain⟨-,-,-,-,p,hp,rfl,-⟩:=kY h
   obtain⟨h1,h2⟩:=ah0 p hp;obtain⟨b,t,e⟩:=List.exists_cons_of_ne_nil h1;have hb:=h2 b (by rw[e];exact atN ..);obtain⟨J,hJ⟩:∃J,joinL ⟨p.1.toArray⟩ xs=b::J:=by
    unfold joinL;rw[show(⟨p.1.toArray⟩:ByteArray).data.toList=p.1 from rfl,e];rcases xs with _|⟨n,xs⟩<;>simp[atO]
   rw[hJ];show(Lib.hasPrefix (b::J) [35]||(Lib.trimB (b::J) 32).isEmpty)=false;have e1:Lib.hasPrefix (b::J) [35]=false:=by
    unfold Lib.hasPrefix List.isPrefixOf;rw[show((35:UInt8)==b)=false from beq_eq_false_iff_ne.2 (fun e=>by subst e;simp at hb)];rfl
   rw[e1,Bool.false_or];have:=agF (l:=b::J) (atN ..) (fun e=>by subst e;simp at hb);rcases ht:Lib.trimB (b::J) 32 with _|⟨c,d⟩
   . exact absurd ht this
   . rfl
theorem aqH:∀(l:List Stp) (i:Nat) (acc:List Stp),(∀x∈l,qA x=true)->acc.length+l.length<=200->runL ((l.map fun x=>(⟨(joinL x.1 x.2).toArray⟩:ByteArray))++[⟨#[]⟩]) i acc=.inl (acc++l)
 |[],i,acc,_,_=>by
  show runL [⟨#[]⟩] i acc=_;have h1:jR ⟨#[]⟩=true:=by kernel_rfl
  simp only[runL,h1,if_true,List.append_nil]
 |x::l,i,acc,h,hl=>by
  obtain⟨-,h2,h3⟩:=aqG (h x (atN ..));have hlen:acc.length≠200:=by rw[atT]at hl;omega
  have ih:=aqH l (i+1) (acc++[x]) (fun y hy=>h y (List.mem_cons_of_mem _ hy)) (by rw[atQ,atP];rw[atT]at hl;omega);rw[atW,atU];simp only[runL,h2,h3,Bool.false_eq_true,if_false,hlen];rw[ih,List.append_assoc];rfl
theorem aqC:∀l:List Stp,jI l=[10].intercalate ((l.map fun x=>joinL x.1 x.2)++[[]])
 |[]=>by simp[jI,atO]
 |x::l=>by
  have ih:=aqC l;have e:jI (x::l)=(joinL x.1 x.2++[10])++jI l:=rfl;rw[e,ih,atW,atU];rcases hl:(l.map fun x=>joinL x.1 x.2)++[[]]with _|⟨a,t⟩
  . exact absurd hl (by simp)
  . simp[atO]
theorem apZ{s:ByteArray}{l:List Stp}(h:∀x∈l,qA x=true)(hl:l.length<=200)(hs:s.data.toList=jI l):lX s=.inl l:=by
 have hlen:=akN h;have hsz:s.size=(jI l).length:=by rw[<-hs];exact(Array.length_toList ..).symm
 have e:s.data.toList=[10].intercalate ((l.map fun x=>joinL x.1 x.2)++[[]]):=by rw[hs,aqC]
 have hln:oF s=(l.map fun x=>(⟨(joinL x.1 x.2).toArray⟩:ByteArray))++[⟨#[]⟩]:=by
  have h1:=Lib.splitB_data ⟨#[10]⟩ 0 (Lib.countB s ⟨#[10]⟩) s;have h2:=rX ((l.map fun x=>joinL x.1 x.2)++[[]]) (by simp) (by
   intro y hy;rcases atV.1 hy with hy|hy
   . obtain⟨x,hx,rfl⟩:=List.mem_map.1 hy
     exact(aqG (h x hx)).1
   . rw[atS.1 hy];decide)
  rw[<-e]at h2;have:=anR (h1.trans h2);rw[List.map_append,List.map_map]at this;exact this
 unfold lX;rw[if_neg (by omega),hln,aqH l 0 [] h (by simpa using hl)];rfl
theorem ap6:∀(ls:List ByteArray) (i:Nat) (acc l:List Stp),runL ls i acc=.inl l->(∀x∈acc,qA x=true)->acc.length<=200->(∀x∈l,qA x=true)/\l.length<=200
 |[],i,acc,l,h,ha,hn=>by
  obtain rfl:acc=l:=by simpa[runL]using h
  exact⟨ha,hn⟩
 |s::t,i,acc,l,h,ha,hn=>by
  unfold runL at h
  split at h
  . exact ap6 t _ acc l h ha hn
  . split at h
    . cases h
    . rename_i x hx
      split at h
      . cases h
      . rename_i h200
        refine ap6 t _ (acc++[x]) l h (fun y hy=> ?_) (by rw[atQ,atP];omega);rcases atV.1 hy with hy|hy
        . exact ha y hy
        . obtain rfl:=atS.1 hy
          unfold gX at hx
          split at hx
          . cases hx
          . split at hx
            . cases hx
            . split at hx
              . rename_i hf
                obtain rfl:=Option.some.inj hx;exact hf
              . cases hx
theorem aqD{s:ByteArray}{l:List Stp}(h:lX s=.inl l):(∀x∈l,qA x=true)/\l.length<=200:=by
 unfold lX at h
 split at h
 . cases h
 . exact ap6 _ _ _ _ h (fun x hx=>by cases hx) (by simp)
theorem ap9{l:List Stp}(h:(∀x∈l,qA x=true)/\l.length<=200):kX l=.inl (jI l):=by
 unfold kX;rw[if_pos (List.all_eq_true.2 h.1),if_neg (by have:=h.2;omega)]
end
section
open Go.RowKit Go.Deep
open Go.Value.slice renaming injEq->auA
open List renaming getElem?_eq_some_iff->atX,getElem?_eq_getElem->atY,length_map->atZ,getElem?_append_left->at0,getElem?_map->at1,length->at6,getElem?_append_right->at7,size_toArray->auC
open Option.some renaming inj->at5,injEq->auB
variable{w:World}
theorem ap0{P:Program}{ops:Array Oper}{rest:List Oper}{o:Oper}{a:Act}{Q:Exit->Act->World->Prop}(hgd:o.guard=none)(s x:Operand)(t:TypeId)
 (ho:o.op=.call {callee:=.builtin .append,args:=#[s,x],argTypes:=#[t,t]}) (e:TypeId) (i:TypeInfo) (z:Value) (size bytes:Nat) (ht:P.underlying t=some (.slice e)) (hi:P.info? e=some i) (hz:i.zero=some z)
 (hsize:i.size=size) (hby:i.bytes=bytes) (hzs:z.cells.size=size) (hsz:0<size) (p:Option Addr) (n c:Nat) (news:List Value) (hs:a.eval s=.slice none 0 0) (hx:a.eval x=.slice p n c) (hl:news.length=n*size)
 (hnews:∀j u,news[j]? =some u->∃ad,p=some ad/\w.cell? (ad.add j)=some u) (h1:∀u∈news,u.oneCell'=true) (h63:n<=maxLen) (hbytes:n*bytes<=140737488355328)
 (h:∀A c' w',w'.ownsRow w.heap.size e size (.slice A n c') n news->Below w.heap.size w w'->wpList P ops Q rest (a.put o.dst (.slice A n c')) w'):wpList P ops Q (o::rest) a w:=by
 rcases Nat.eq_zero_or_pos n with h0|h0
 . subst h0
   have hn:news=[]:=List.eq_nil_of_length_eq_zero (by rw[hl,Nat.zero_mul]);subst hn;exact apV hgd s x t ho e i ht hi p c hs hx (h none 0 w (World.ownsRow_nil _ _ _ _) (Below.refl _ _))
 . obtain⟨u0,hu0⟩:∃u,news[0]? =some u:=⟨_,atY (by rw[hl];exact Nat.mul_pos h0 hsz)⟩
   obtain⟨ad,rfl,-⟩:=hnews 0 u0 hu0;refine wpList_append_lies _ hgd s x t ho w.heap.size e i z size bytes ht hi hz hsize hby hzs hsz (.slice none 0 0) 0 [] hs (World.ownsRow_nil _ _ _ _) ad n c news hx hl (fun j u hj=>by
    obtain⟨ad',e',hc⟩:=hnews j u hj;obtain rfl:=at5 e';exact hc) h1 h0 (by omega) (by rw[Nat.zero_add];exact hbytes) nlr w.heap.size rfl ?_
   intro r cap w4 hown4 hgrow4 hat4 hlt4;rw[Nat.zero_add]at hown4|-;exact h _ _ _ (by simpa using hown4) (below_grown hgrow4 nlr (fun b hb=>by cases hb))
theorem aqU:(Tryz.prog.info? 27).map (fun i=>(i.zero,i.size,i.bytes))=some (some (.agg #[.string ⟨#[]⟩,.slice none 0 0]),2,40):=by kernel_rfl
theorem RowM.stepsS {B r n cap:Nat}{tl:List (Stp×Value)}{l:List Stp}(h:RowM B w r n cap tl)(hl:tl.map (·.1)=l)(hn:l.length=n):zM w (.slice (some ⟨r,0,none⟩) n cap) l:=by
 refine⟨some ⟨r,0,none⟩,cap,by rw[hn],fun j x hx=> ?_⟩;rw[<-hl,at1,Option.map_eq_some_iff]at hx;obtain⟨t,ht,rfl⟩:=hx;obtain⟨q0,q1,-⟩:=h.cells (j:=j) (t:=t) (by rw[at0 (atX.1 ht).1];exact ht);exact⟨r,t.2,rfl,q0,q1,(h.2 j t ht).1⟩
theorem set_self{α:Type}{l:List α}{i:Nat}{a:α}(h:l[i]? =some a):l.set i a=l:=by
 refine List.ext_getElem? fun j=> ?_;rw[List.getElem?_set]
 split
 . rename_i e;subst e;rw[h,if_pos (atX.1 h).1]
 . rfl
theorem aqV{b:Nat}(h:w.heap[b]? =some (.cells #[.string ⟨#[109,97,114,107]⟩,.slice none 0 0] 27 (0,0))):∀j u,[Value.string ⟨#[109,97,114,107]⟩,.slice none 0 0][j]? =some u->w.cell? ((⟨b,0,none⟩:Addr).add j)=some u:=by
 intro j u hj;rw[Addr.add_lit,Nat.zero_add];exact gH (cs:=[.string ⟨#[109,97,114,107]⟩,.slice none 0 0]) h hj
theorem both{l:List Stp}:(∃t,kX l=.inl t/\t=jI l/\(∀x∈l,qA x=true)/\l.length<=200)\/∃k:Int,kX l=.inr k/\1<=k/\k<=7:=by
 unfold kX
 split
 . rename_i h
   split
   . exact Or.inr ⟨7,rfl,by decide,by decide⟩
   . exact Or.inl ⟨_,rfl,rfl,List.all_eq_true.1 h,by omega⟩
 . exact Or.inr ⟨6,rfl,by decide,by decide⟩
theorem ap5{x:ByteArray}{v:Value}{l:List Stp}(hW:ScrW w)(hv:StepsO w v l):Calls Tryz.prog 3 #[v,.string x] w (RetV w (.bool true)):=by
 have HLI:=hdd (aq8 hv);obtain⟨tl,p,c,htl,rfl,hcl⟩:=hv.row;obtain⟨i0,hi0,hz0,hz1,hz2⟩:=info_parts aqU;obtain⟨n,hn⟩:∃n,l.length=n:=⟨_,rfl⟩;have HN:=hdd hn;have HV:=hdd hv;have HTL:=hdd (And.intro htl hcl);have HAL:Hid (∀w',Below w.heap.size w w'->Calls Tryz.prog 6 #[] w' (RetV w' (.bool true))):=hdd fun w' h=>alive_28 (hW.low h);have HW:=hdd hW;rw[hn]at HLI HV|-;clear hW hv htl hcl hn;go_enter Tryz.func3,Tryz.ntmps3
 go_wp2_with fail
 refine HLI.out.mono ?_;rintro e w0⟨rfl,Bb,rfl,hB⟩;have HALw:=hdd (HAL.out _ (Below.refl _ _));rcases Bb with _|_
 . go_wp2_with fail
   refine HALw.out.mono ?_;rintro e wd⟨rfl,hbd⟩;have HF:=hdd hbd;clear hbd;go_wp2;go_ret;exact⟨rfl,HF.out⟩
 . obtain⟨hl1,hl2⟩:=hB rfl
   have HB:=hdd (And.intro hl1 hl2);clear hB hl1 hl2;rcases Decidable.em ((5000:Int)<(x.size:Int))with h5|h5
   . go_wp2_with fail
     refine HALw.out.mono ?_;rintro e wd⟨rfl,hbd⟩;have HF:=hdd hbd;clear hbd;go_wp2;go_ret;exact⟨rfl,HF.out⟩
   . go_wp2_with fail
     refine HALw.out.mono ?_;rintro e w1⟨rfl,hb1⟩;have HB1:=hdd hb1;have HN250:Hid (n<=250):=hdd (by have:=HB.out.1;have:=HN.out;omega);have hn250:(n:Int)<=250:=by have:=HN250.out;omega
     have hn0:(0:Int)<=(n:Int):=Int.natCast_nonneg _;clear hb1 HALw;have hnews:∀j u,(eQ tl)[j]? =some u->∃ad,p=some ad/\w1.cell? (ad.add j)=some u:=fun j u hj=>by
      have hj2:=(atX.1 hj).1;rw[apW]at hj2;obtain⟨t,ht⟩:∃t,tl[j/2]? =some t:=⟨_,atY (by omega)⟩;obtain⟨b,o,rfl,q0,q1,-⟩:=HTL.out.2 (j/2) t ht;obtain⟨s0,s1⟩:=zN ht;refine⟨_,rfl,?_⟩;rw[Go.WideShapes.add_plain];rcases Nat.mod_two_eq_zero_or_one j with hm|hm
      . have e:j/2*2=j:=by omega
        rw[e]at s0 q0;rw[hj]at s0;obtain rfl:=at5 s0;exact cbl q0 HB1.out
      . have e:j/2*2+1=j:=by omega
        rw[e]at s1;rw[show o+j/2*2+1=o+j by omega]at q1;rw[hj]at s1;obtain rfl:=at5 s1;exact cbl q1 HB1.out
     have hone:∀u∈eQ tl,u.oneCell'=true:=fun u hu=>by
      obtain⟨t,ht,hu⟩:=List.mem_flatMap.1 hu;simp only[List.mem_cons,List.not_mem_nil,or_false]at hu;rcases hu with rfl|rfl
      . rfl
      . obtain⟨j,hj⟩:=List.getElem?_of_mem ht
        obtain⟨-,-,-,-,-,q,k,e,-⟩:=HTL.out.2 j t hj;rw[e];rfl
     have HNW:=hdd (And.intro hnews hone);have HLT:Hid (tl.length=n):=hdd (by have:=congrArg at6 HTL.out.1;rw[atZ]at this;rw[this];exact HN.out);clear hnews hone;go_wp2_with (at_builtin;refine ap0 rfl _ _ 22 rfl 27 i0 (.agg #[.string ⟨#[]⟩,.slice none 0 0]) 2 40 agX hi0 hz0 hz1 hz2 rfl (by decide) p n c (eQ tl) rfl rfl (by rw[apW,HLT.out]) HNW.out.1 HNW.out.2 (by have:=HN250.out;unfold maxLen;omega) (by have:=HN250.out;omega) ?_)
     intro A c' w2 hown2 hb2;obtain⟨w3,hw3,hb3,hs3,b3⟩:=pro1 w2 (.cells #[.string ⟨#[109,97,114,107]⟩,.slice none 0 0] 27);have hown3:=hown2.kept (aH (row:=none) hb3) (by
      rcases hv:(Value.slice A n c').ownBlock with _|b
      . exact Or.inl rfl
      . exact Or.inr (by simp))
     have HC3:=hdd (aqV b3);have HB3:=hdd (aA hb2 hb3);clear hown2 hb2 hb3 hs3 b3 HNW;go_wp2_with (at_builtin;refine wpList_append_lies _ rfl _ _ 22 rfl w1.heap.size 27 i0 (.agg #[.string ⟨#[]⟩,.slice none 0 0]) 2 40 agX hi0 hz0 hz1 hz2 rfl (by decide) (.slice A n c') n (eQ tl) rfl hown3 ⟨w2.heap.size,0,none⟩ 1 1 [.string ⟨#[109,97,114,107]⟩,.slice none 0 0] rfl rfl HC3.out (by simp[Value.oneCell']) (by decide) (by have:=HN250.out;unfold maxLen;omega) (by have:=HN250.out;omega) HB3.out.size w3.heap.size rfl ?_)
     intro r cap w4 hown4 hgrow4 hat4 hlt4;have hcap:n+1<=cap/\cap<=maxLen:=by
      rcases hown4.2 with ⟨e,-⟩|⟨r',c'',cur,e,-,-,h1,h2,-⟩
      . simp at e
      . simp only[auA]at e
        obtain⟨-,-,rfl⟩:=e;exact⟨h1,h2⟩
     have hr1:=(hown4.lt r rfl).1;have hb14:Below w1.heap.size w1 w4:=HB3.out.trans (below_grown hgrow4 HB3.out.size (fun b hb=>(hown3.lt b hb).1));have HRM:Hid (∃tl,tl.map (·.1)=l/\RowM w1.heap.size w4 r n cap tl/\Below w0.heap.size w0 w4):=hdd ⟨tl,HTL.out.1,⟨by rw[apU];exact hown4,fun j t ht=>by
      obtain⟨b,o,hp,-,-,hI⟩:=HTL.out.2 j t ht;refine⟨hI.below (aA HB1.out hb14),fun j' y hy b' o' n' c'' e=> ?_⟩;obtain⟨q,k,e2,-,-,hc⟩:=hI;rw[e]at e2;simp only[auA]at e2;obtain⟨rfl,-,-⟩:=e2;obtain⟨b2,o2,e3,hc2⟩:=hc j' y hy;simp only[auB,Addr.mk.injEq,and_true]at e3;obtain⟨rfl,rfl⟩:=e3;have h6:=World.block_lt_of_cell? w0 _ hc2;have h7:=HB1.out.size;simp only at h6;omega⟩,aA HB1.out hb14⟩
     have HCAP:=hdd hcap;have HR1:=hdd hr1;have hcI:(n:Int)+1<=(cap:Int):=by omega
     have hcI2:(cap:Int)<=9223372036854775807:=by have:=hcap.2;unfold maxLen at this;omega
     clear hown3 hown4 hgrow4 hat4 hlt4 hcap hr1 hb14 hw3;go_wp2_with fail
     go_loopw [6] (fun i wr=>∃q:Nat,q<=n/\i=.int .i64 (q:Int)/\Hid (∃tl,tl.map (·.1)=l/\RowM w1.heap.size wr r n cap tl/\Below w0.heap.size w0 wr)) (fun i _=>((n:Int)-intOf i).toNat)
     case atStart=>exact⟨0,Nat.zero_le _,rfl,HRM⟩
     case round=>
      obtain⟨q,hq,rfl,HG⟩:=hrel;clear HRM;have hq0:(0:Int)<=(q:Int):=Int.natCast_nonneg _;rcases Nat.lt_or_ge q n with hlt|hge
      . obtain⟨tm,htm,hrm,hbl⟩:=HG.out
        have hqI:(q:Int)<(n:Int):=Int.ofNat_lt.2 hlt;obtain⟨t0,ht0⟩:∃t,tl[q]? =some t:=⟨_,atY (by rw[HLT.out];exact hlt)⟩;obtain⟨b,o,rfl,q0,q1,hI⟩:=HTL.out.2 q t0 ht0;have hlen:tm.length=n:=by have:=congrArg at6 htm;rw[atZ]at this;rw[this];exact HN.out
        obtain⟨t1,ht1⟩:∃t,tm[q]? =some t:=⟨_,atY (by rw[hlen];exact hlt)⟩;have hsame:t1.1=t0.1:=by
         have e1:l[q]? =some t1.1:=by rw[<-htm,at1,ht1];rfl
         have e0:l[q]? =some t0.1:=by rw[<-HTL.out.1,at1,ht0];rfl
         exact at5 (e1.symm.trans e0)
        obtain⟨c0,c1,hfz⟩:=hrm.cells (j:=q) (t:=t1) (by rw[at0 (by rw[hlen];exact hlt)];exact ht1);replace q1:=cbl q1 hbl;obtain⟨pu,cu,hu,-⟩:=id hI;have HXL:=HB.out.2 t0.1 (by rw[<-HTL.out.1];exact List.mem_map.2 ⟨t0,List.mem_of_getElem? ht0,rfl⟩);have HLE:=hdd (arK (w:=wr) (hI.below hbl) (by omega));rw[hu]at q1 HLE;have HK:=hdd (And.intro hlt (And.intro htm (And.intro hrm (And.intro hbl (And.intro ht1 hsame)))));have HRB:=hdd (hrm.1.lt r rfl).2;clear hlt htm hrm hbl ht0 hI hlen ht1 hsame c0 HG hq hu HXL q0 hfz c1;go_wp2_with fail
        refine HLE.out.mono ?_;rintro e wc⟨r',c',rfl,hr',hI',hbc⟩;have hrm':=HK.out.2.2.1.below hbc;obtain⟨c0,c1,hfz⟩:=hrm'.cells (j:=q) (t:=t1) (by rw[at0 (atX.1 HK.out.2.2.2.2.1).1];exact HK.out.2.2.2.2.1);have hf1:=hfz (q*2+1);have HNX:Hid (∃tl,tl.map (·.1)=l/\RowM w1.heap.size (wc.setCell ⟨r,q*2+1,none⟩ (.slice (some ⟨r',0,none⟩) t0.1.2.length c')) r n cap tl/\Below w0.heap.size w0 (wc.setCell ⟨r,q*2+1,none⟩ (.slice (some ⟨r',0,none⟩) t0.1.2.length c'))):=hdd ⟨_,?nx1,RowM.set (t:=t1) hrm' HK.out.2.2.2.2.1 (by rw[HK.out.2.2.2.2.2];exact hI') (fun j y hy b o n' c'' e=>by
         simp only[auA,auB,Addr.mk.injEq,and_true]at e;obtain⟨⟨rfl,-⟩,-⟩:=e;have:=HRB.out;omega),(aA HK.out.2.2.2.1 hbc).setCell (by have:=HR1.out;have:=HB1.out.size;show w0.heap.size<=r;omega) _⟩
        case nx1=>
         rw[List.map_set,HK.out.2.1];refine set_self ?_;rw[<-HK.out.2.1,at1,HK.out.2.2.2.2.1];rfl
        clear hr' hI' hbc hrm' c0 hfz q1;go_wp2_with fail
        go_roundw
        case rel=>exact⟨q+1,HK.out.1,by go_num,HNX⟩
        case measure=>exact fE HK.out.1
      . obtain rfl:q=n:=Nat.le_antisymm hq hge
        obtain⟨tm,htm,hrm,hbl⟩:=HG.out;have HRM:=hdd hrm;have HTM:=hdd htm;have HBL:=hdd hbl;have HLX:Hid (∀x∈l,x.2.length<=1000):=hdd fun y hy=>by have:=HB.out.2 y hy;omega
        have HSM:Hid (∀w',Below wr.heap.size wr w'->StepsO w' (.slice (some ⟨r,0,none⟩) q cap) l):=hdd fun w' h=>(HRM.out.below h).steps HTM.out HN.out;have HPR:=hdd (qZ (HW.out.low hbl).t10 (hrm.stepsS htm HN.out) (by have:=HN.out;have:=HN250.out;omega) HLX.out);have HRP:Hid (∀w',Below w0.heap.size w0 w'->Calls Tryz.prog 9 #[.slice p q c] w' (arU w' (kX l))):=hdd fun w' h=>aqT (HV.out.below h) (by have:=HN.out;have:=HN250.out;omega) HLX.out;clear htm hrm hbl HG hq hge;rcases both (l:=l)with ⟨t,hpt,htx,hall,h200⟩|⟨k,hpk,hk1,hk7⟩
        . rw[hpt]at HPR HRP
          obtain⟨T,hT⟩:∃T:ByteArray,(⟨t.toArray⟩:ByteArray)=T:=⟨_,rfl⟩;have HPS:=hdd (HPR.out.mono fun e w' h=>(⟨h.2.trans (by rw[<-hT]),h.1⟩:e=.returned (.tuple #[.string T,.nilIface])/\Below wr.heap.size wr w'));have HRS:Hid (∀w',Below w0.heap.size w0 w'->Calls Tryz.prog 9 #[.slice p q c] w' (fun e w''=>e=.returned (.tuple #[.string T,.int .i64 0])/\Below w'.heap.size w' w'')):=hdd fun w' h=>(HRP.out w' h).mono fun e w'' h=>⟨h.2.trans (by rw[<-hT]),h.1⟩;have HTE:=hdd (show T.data.toList=jI l by rw[<-hT,<-htx]);have HAL2:=hdd (And.intro hall h200);have hne:(T.toList != T.toList)=false:=by simp
          clear hT htx hall h200 hpt HPR HRP;go_wp2_with fail
          refine HPS.out.mono ?_;rintro e w5⟨rfl,hb5⟩;have HB5:=hdd hb5;have HR5:=hdd (HRS.out w5 (aA HBL.out hb5));clear hb5 HPS HRS;go_wp2_with fail
          refine HR5.out.mono ?_;rintro e w6⟨rfl,hb6⟩;have HB6:=hdd (aA HB5.out hb6);clear hb6 HR5;go_wp2_with fail
          refine code_nil.mono ?_;rintro e w7⟨rfl,hb7⟩;have HB7:=hdd (aA HB6.out hb7);have HSS:=hdd (apT (HSM.out w7 HB7.out) (HV.out.below (aA HBL.out HB7.out)) (by have:=HN.out;have:=HN250.out;omega) HLX.out);clear hb7;go_wp2_with fail
          refine HSS.out.mono ?_;rintro e w8⟨rfl,hb8⟩;have HB8:=hdd (aA HB7.out hb8);obtain⟨k0,-,-⟩:=(HRM.out.below HB8.out).cells (j:=q) (t:=markT) (by rw[at7 (by have:=congrArg at6 HTM.out;rw[atZ,HN.out]at this;omega)];have:=congrArg at6 HTM.out;rw[atZ,HN.out]at this;rw[this,Nat.sub_self];rfl);obtain⟨mx,hmx⟩:=(HW.out.low (aA HBL.out HB8.out)).mx;have HPA:=hdd (oG (s:=T) hmx);rw[apZ HAL2.out.1 HAL2.out.2 HTE.out]at HPA;clear hb8 hmx HSS;go_wp2_with fail
          refine HPA.out.mono ?_;rintro e w9⟨hb9,ln,rfl,hln⟩;obtain⟨p9,c9,e9,-⟩:=id hln;rw[HN.out]at e9;subst e9;have HB9:=hdd (aA HB8.out hb9);have HS9:=hdd (apT hln.any (HV.out.below (aA HBL.out HB9.out)) (by have:=HN.out;have:=HN250.out;omega) HLX.out);clear hb9 hln HPA k0;go_wp2_with fail
          refine HS9.out.mono ?_;rintro e wx⟨rfl,hbx⟩;have HBX:=hdd (aA HBL.out (aA HB9.out hbx));clear hbx HS9;obtain⟨my,hmy⟩:=(HW.out.low HBX.out).mx;have HPX:=hdd (oG (s:=x) hmy);obtain⟨R,hR⟩:∃R,lX x=R:=⟨_,rfl⟩;have HRE:=hdd hR;rw[hR]at HPX;clear hR hmy;rcases R with ln|⟨ie,ke⟩
          . go_wp2_with fail
            refine HPX.out.mono ?_;rintro e wy⟨hby,lv,rfl,hlv⟩;obtain⟨hlf,hl2⟩:=aqD HRE.out;have HFL:=hdd (And.intro hlf hl2);have HLZ:Hid (∀x∈ln,x.2.length<=1000):=hdd fun y hy=>by have:=(kY (HFL.out.1 y hy)).2.2.2.1;omega
            have HBY:=hdd (aA HBX.out hby);have HPY:=hdd (qZ (HW.out.low HBY.out).t10 hlv (by have:=HFL.out.2;omega) HLZ.out);rw[ap9 HFL.out]at HPY;have hsz:(jI ln).length<=14200:=by have:=akN hlf;omega
            obtain⟨U,hU⟩:∃U:ByteArray,(⟨(jI ln).toArray⟩:ByteArray)=U:=⟨_,rfl⟩;have HPU:=hdd (HPY.out.mono fun e w' h=>(⟨h.2.trans (by rw[<-hU]),h.1⟩:e=.returned (.tuple #[.string U,.nilIface])/\Below wy.heap.size wy w'));have HUE:=hdd (show U.data.toList=jI ln by rw[<-hU]);have hUs:¬(20000:Int)<(U.size:Int):=by
             have:U.size=(jI ln).length:=by rw[<-hU];show(jI ln).toArray.size=_;rw[auC]
             omega
            have HSV:=hdd hlv;obtain⟨pl,cl,e1,-⟩:=id hlv;subst e1;clear hby hlv hlf hl2 HPX HPY hU hsz;go_wp2_with fail
            refine HPU.out.mono ?_;rintro e wz⟨rfl,hbz⟩;have HBZ:=hdd (aA HBY.out hbz);have HVZ:=hdd (HSV.out.any.below hbz);obtain⟨mz,hmz⟩:=(HW.out.low HBZ.out).mx;have HPZ:=hdd (oG (s:=U) hmz);rw[apZ HFL.out.1 HFL.out.2 HUE.out]at HPZ;clear hbz hmz HPU;go_wp2_with fail
            refine HPZ.out.mono ?_;rintro e wt⟨hbt,lo,rfl,hlo⟩;obtain⟨po,co,e2,-⟩:=id hlo;subst e2;have HBT:=hdd (aA HBZ.out hbt);have HSZ:=hdd (apT hlo.any (HVZ.out.below hbt) (by have:=HFL.out.2;omega) HLZ.out);clear hbt hlo HPZ;go_wp2_with fail
            refine HSZ.out.mono ?_;rintro e wu⟨rfl,hbu⟩;have HF:=hdd (aA HBT.out hbu);clear hbu;go_wp2;go_ret;exact⟨rfl,HF.out⟩
          . go_wp2_with fail
            refine HPX.out.mono ?_;rintro e wy⟨hby,hy⟩;have HF:=hdd (aA HBX.out hby);rcases ie with _|ie
            . obtain rfl:=hy
              clear hby HPX;go_wp2;go_ret;exact⟨rfl,HF.out⟩
            . obtain⟨be,rfl,-⟩:=hy
              clear hby HPX;go_wp2;go_ret;exact⟨rfl,HF.out⟩
        . rw[hpk]at HPR HRP
          have HKK:=hdd (And.intro hk1 hk7);clear hpk hk1 hk7;go_wp2_with fail
          refine HPR.out.mono ?_;rintro e w5⟨hb5,rfl⟩;have HB5:=hdd hb5;have HR5:=hdd (HRP.out w5 (aA HBL.out hb5));clear hb5 HPR HRP;go_wp2_with fail
          refine HR5.out.mono ?_;rintro e w6⟨hb6,rfl⟩;have HB6:=hdd (aA HB5.out hb6);clear hb6 HR5;have HCD:=hdd (alU (w:=w6) (ErK.kind (S:=fun _=>False) HKK.out.1 HKK.out.2) (by decide));go_wp2_with fail
          refine HCD.out.mono ?_;rintro e w7⟨rfl,hb7⟩;have HB7:=hdd (aA HB6.out hb7);have HSS:=hdd (apT (HSM.out w7 HB7.out) (HV.out.below (aA HBL.out HB7.out)) (by have:=HN.out;have:=HN250.out;omega) HLX.out);clear hb7 HCD;go_wp2_with fail
          refine HSS.out.mono ?_;rintro e wx⟨rfl,hbx⟩;have HB8:=hdd (aA HB7.out hbx);obtain⟨k0,-,-⟩:=(HRM.out.below HB8.out).cells (j:=q) (t:=markT) (by rw[at7 (by have:=congrArg at6 HTM.out;rw[atZ,HN.out]at this;omega)];have:=congrArg at6 HTM.out;rw[atZ,HN.out]at this;rw[this,Nat.sub_self];rfl);have HBX:=hdd (aA HBL.out HB8.out);clear hbx HSS;obtain⟨my,hmy⟩:=(HW.out.low HBX.out).mx;have HPX:=hdd (oG (s:=x) hmy);obtain⟨R,hR⟩:∃R,lX x=R:=⟨_,rfl⟩;have HRE:=hdd hR;rw[hR]at HPX;clear hR hmy;rcases R with ln|⟨ie,ke⟩
          . go_wp2_with fail
            refine HPX.out.mono ?_;rintro e wy⟨hby,lv,rfl,hlv⟩;obtain⟨hlf,hl2⟩:=aqD HRE.out;have HFL:=hdd (And.intro hlf hl2);have HLZ:Hid (∀x∈ln,x.2.length<=1000):=hdd fun y hy=>by have:=(kY (HFL.out.1 y hy)).2.2.2.1;omega
            have HBY:=hdd (aA HBX.out hby);have HPY:=hdd (qZ (HW.out.low HBY.out).t10 hlv (by have:=HFL.out.2;omega) HLZ.out);rw[ap9 HFL.out]at HPY;have hsz:(jI ln).length<=14200:=by have:=akN hlf;omega
            obtain⟨U,hU⟩:∃U:ByteArray,(⟨(jI ln).toArray⟩:ByteArray)=U:=⟨_,rfl⟩;have HPU:=hdd (HPY.out.mono fun e w' h=>(⟨h.2.trans (by rw[<-hU]),h.1⟩:e=.returned (.tuple #[.string U,.nilIface])/\Below wy.heap.size wy w'));have HUE:=hdd (show U.data.toList=jI ln by rw[<-hU]);have hUs:¬(20000:Int)<(U.size:Int):=by
             have:U.size=(jI ln).length:=by rw[<-hU];show(jI ln).toArray.size=_;rw[auC]
             omega
            have HSV:=hdd hlv;obtain⟨pl,cl,e1,-⟩:=id hlv;subst e1;clear hby hlv hlf hl2 HPX HPY hU hsz;go_wp2_with fail
            refine HPU.out.mono ?_;rintro e wz⟨rfl,hbz⟩;have HBZ:=hdd (aA HBY.out hbz);have HVZ:=hdd (HSV.out.any.below hbz);obtain⟨mz,hmz⟩:=(HW.out.low HBZ.out).mx;have HPZ:=hdd (oG (s:=U) hmz);rw[apZ HFL.out.1 HFL.out.2 HUE.out]at HPZ;clear hbz hmz HPU;go_wp2_with fail
            refine HPZ.out.mono ?_;rintro e wt⟨hbt,lo,rfl,hlo⟩;obtain⟨po,co,e2,-⟩:=id hlo;subst e2;have HBT:=hdd (aA HBZ.out hbt);have HSZ:=hdd (apT hlo.any (HVZ.out.below hbt) (by have:=HFL.out.2;omega) HLZ.out);clear hbt hlo HPZ;go_wp2_with fail
            refine HSZ.out.mono ?_;rintro e wu⟨rfl,hbu⟩;have HF:=hdd (aA HBT.out hbu);clear hbu;go_wp2;go_ret;exact⟨rfl,HF.out⟩
          . go_wp2_with fail
            refine HPX.out.mono ?_;rintro e wy⟨hby,hy⟩;have HF:=hdd (aA HBX.out hby);rcases ie with _|ie
            . obtain rfl:=hy
              clear hby HPX;go_wp2;go_ret;exact⟨rfl,HF.out⟩
            . obtain⟨be,rfl,-⟩:=hy
              clear hby HPX;go_wp2;go_ret;exact⟨rfl,HF.out⟩
end
end Go.Proofs.YtigoiiekebccnaaGreatDoor
