/- A part of the proof: contracts of functions and plain laws (CnE, CnF, CnG, CnH, CnI). -/
import Derived.Test.YtebocijmegkfgaaGreatDoorK41
import Derived.Test.YtebocijmegkfgaaGreatDoorK44
import Derived.Test.YtebocijmegkfgaaGreatDoorK07
import Derived.Test.YtebocijmegkfgaaGreatDoorK30
import Derived.Test.YtebocijmegkfgaaGreatDoorK08
import Derived.IntWalk
set_option linter.unusedVariables false
set_option linter.unusedSimpArgs false
set_option linter.unnecessarySimpa false
set_option maxHeartbeats 25600000
set_option maxRecDepth 100000
namespace Go.Proofs.YtebocijmegkfgaaGreatDoor
open Go.RowKit
open List renaming getD_eq_getElem?_getD->arD,getElem?_eq_getElem->arE,length_append->arF,getElem_mem->arH,take_of_length_le->arI,length_set->arJ,getElem?_eq_none->arK,map_append->arO,getElem?_map->arQ,length_range->arR,length_map->arU,replicate->arX,length_eq_zero_iff->arY,mem_append->ar3,length_replicate->ar6,getElem_set_self->ar7,getElem?_take->ar9,map_cons->asA,range_succ->asF,range->asG,map_nil->asI,mem_map->asJ,set_set->asK
open Nat renaming lt_or_ge->arG,pow_le_pow_right->arL,add_mul->arM,mod_lt->arN,two_pow_pos->arP,mul_le_mul_right->arS,div_add_mod->arT,mul_comm->arV,eq_zero_or_pos->arW,mul_assoc->arZ,pow_add->ar0,zero_add->ar1,le_trans->ar2,mul_mod_mul_right->ar4,div_lt_iff_lt_mul->ar5,add_mul_div_left->ar8,lt_of_le_of_lt->asB,pow_succ->asC,div_eq_of_lt->asD,min_eq_left->asE,add_assoc->asH,pow_mul->asL
variable{a:Act}{ad:Addr}{us ys zs:List Nat}{S c' d k m x:Nat}{p q:Nat->Prop}{va vb:Value}
abbrev u64V(x:Nat):Value:=.int .u64 (x:Int)
def RowC(B:Nat)(w:World)(v:Value)(xs:List Nat):Prop:=w.ownsRow B 134 1 v xs.length (xs.map u64V)/\OkS xs
theorem alK:Tryz.prog.underlying 88=some (.slice 134):=by kernel_rfl
section
variable{B:Nat}{w w' w0:World}{v:Value}{xs:List Nat}
theorem RowC.nil:RowC B w (.slice none 0 0) []:=⟨⟨by simp,Or.inl ⟨rfl,rfl⟩⟩,fun x h=>by cases h⟩
theorem RowC.keep (h:RowC B w v xs)(hb:Below w.heap.size w w'):RowC B w' v xs:=⟨h.1.kept (bJ (row:=none) hb) (by cases v.ownBlock<;>simp),h.2⟩
theorem RowC.slice (h:RowC B w v xs):∃p c,v=.slice p xs.length c:=by
 rcases h.1.2 with ⟨rfl,e⟩|⟨r,c,cur,rfl,-⟩
 . exact⟨none,0,by rw[e]⟩
 . exact⟨_,_,rfl⟩
theorem RowC.natP (h:RowC B w v xs)(hl:xs.length<=1099511627776):NatP (fun b=>B<=b) w v xs:=by
 rcases h.1.2 with ⟨rfl,e⟩|⟨r,c,cur,rfl,h0,hg,h1,h2,h3,h4⟩
 . obtain rfl:xs=[]:=arY.1 e
   exact NatP.nil _
 . refine⟨_,c,rfl,h1,⟨hl,by unfold maxLen at h2;omega⟩,h.2.okL,fun hp=>⟨r,0,rfl,h0,aF hg,fun k hk=> ?_⟩⟩
   rw[ar1];refine alQ (cs:=cur.toList) (by simpa using hg) ?_;have:(xs.map u64V)[k]? =some (u64V xs[k]):=by rw[arQ,arE hk];rfl
   rw[<-h4,ar9]at this
   split at this
   . rw[this,bZ hk]
   . cases this
theorem alO{ops:Array Oper}{rest:List Oper}{o:Oper}{Q:Exit->Act->World->Prop}{b n:Nat}(hO:RowC B w v xs)(hl:xs.length=n)(hb:w.heap[b]? =some (.cells #[.int .u64 (x:Int)] 134))(hx:x<4294967296)(hn:n<=4398046511104)(hB:Below B w0 w)(hBw:B<=w.heap.size)(hgd:o.guard=none)(sl y:Operand)
 (ho:o.op=.call {callee:=.builtin .append,args:=#[sl,y],argTypes:=#[88,88]}) (hs:a.eval sl=v) (hy:a.eval y=.slice (some ⟨b,0,none⟩) 1 1)
 (h:∀p cap w',Hid (RowC B w' (.slice p (n+1) cap) (xs++[x]))->Hid (Below B w0 w')->Hid (B<=w'.heap.size)->wpList Tryz.prog ops Q rest (a.put o.dst (.slice p (n+1) cap)) w'):wpList Tryz.prog ops Q (o::rest) a w:=by
 subst hl;obtain⟨i,hi,i0,i1,i2⟩:=info_parts mW;exact wpList_append_lies _ hgd sl y 88 ho B 134 i (.int .u64 0) 1 8 alK hi i0 i1 i2 rfl (by decide) v xs.length (xs.map u64V) hs hO.1 ⟨b,0,none⟩ 1 1 [.int .u64 (x:Int)] hy rfl (World.news_of_block hb) (by simp[Value.oneCell']) (by decide) (by unfold maxLen;omega) (by omega) hBw _ rfl fun r cap w' o1 o2 o3 _=>by
  have hb2:Below B w w':=by
   rcases hO.1.2 with ⟨rfl,-⟩|⟨r0,c0,cur,rfl,h0,-⟩
   . exact⟨o2.os,o2.tape,o2.output,o2.size,fun k hk=>o2.block k (by omega) (by simp[Value.ownBlock])⟩
   . exact Below.of_grown o2 hBw h0
  refine h _ _ _ (hdd ⟨?_,fun z hz=> ?_⟩) (hdd (hB.trans hb2)) (hdd (ar2 hBw o2.size))
  . rw[arF,arO];exact o1
  . rcases ar3.1 hz with hz|hz
    . exact hO.2 z hz
    . rw[List.mem_singleton.1 hz];unfold B32;omega
end
def ak4(xs:List Nat)(r t:Nat):Nat:=xs.getD t 0/2^r+xs.getD (t+1) 0*2^(32-r)%B32
theorem an6(r:Nat)(hr:r<32):∀ys:List Nat,OkS ys->val2 ((asG ys.length).map (ak4 ys r))=val2 ys/2^r:=by
 intro ys
 induction ys with
 |nil=>intro _;simp[val2]
 |cons y ys ih=>
  intro ho;have ih:=ih fun z hz=>ho z (List.mem_cons_of_mem _ hz);rw[List.length_cons,List.range_succ_eq_map,asA,List.map_map];have e:(ak4 (y::ys) r ∘ Nat.succ)=ak4 ys r:=by funext t;rfl
  rw[e];simp only[val2];rw[ih];have h1:ak4 (y::ys) r 0=y/2^r+ys.getD 0 0*2^(32-r)%B32:=rfl;rw[h1];have h2:ys.getD 0 0*2^(32-r)%B32=val2 ys*2^(32-r)%B32:=by
   cases ys with
   |nil=>simp[val2]
   |cons z zs=>
    simp only[List.getD_cons_zero,val2];rw[arM,arZ,Nat.add_mul_mod_self_left]
  rw[h2];generalize val2 ys=V;have hB:B32=2^r*2^(32-r):=by rw[ak9,<-ar0];congr 1;omega
  have p0:0<2^r:=arP r;have p1:0<2^(32-r):=arP _;have h3:V*2^(32-r)%B32=V%2^r*2^(32-r):=by rw[hB,ar4]
  rw[h3,hB];generalize 2^(32-r)=Q at*;generalize 2^r=P at*;have h4:y+P*Q*V=y+P*(Q*V):=by rw[arZ]
  rw[h4,ar8 _ _ p0];have h5:=arT V P;have:Q*V=V%P*Q+P*Q*(V/P):=by
   conv=>lhs;rw[<-h5]
   grind
  omega
theorem anM(xs:List Nat)(ho:OkS xs)(n:Nat):val2 ((asG (xs.length-n/32)).map fun t=>ak4 xs (n%32) (n/32+t))=val2 xs/2^n:=by
 have h1:(fun t=>ak4 xs (n%32) (n/32+t))=ak4 (xs.drop (n/32)) (n%32):=by
  funext t
  simp only[ak4,arD,List.getElem?_drop];rw[asH]
 have h2:=an6 (n%32) (arN _ (by omega)) (xs.drop (n/32)) (ho.drop _);rw[List.length_drop]at h2;rw[h1,h2];have h3:val2 (xs.drop (n/32))=val2 xs/B32^(n/32):=by
  rcases arG xs.length (n/32)with h|h
  . rw[List.drop_of_length_le (by omega)]
    have:=ak3 xs ho;have h4:B32^xs.length<=B32^(n/32):=arL alS (by omega);rw[asD (by omega)];rfl
  . have h5:=ak3 (xs.take (n/32)) (ho.take _)
    rw[List.length_take,asE h]at h5;have h6:=akN xs _ h;rw[h6,ar8 _ _ (Nat.pow_pos alS),asD h5,ar1]
 rw[h3,Nat.div_div_eq_div_mul]
 congr 1
 rw[ak9,<-asL,<-ar0]
 congr 1
 exact arT n 32
theorem an7{n:Nat}(h:d<4294967296):∃D:Nat,((d:Int)/2^(n%32))=(D:Int)/\D<4294967296/\Hid (d/2^(n%32)=D):=
 ⟨d/2^(n%32),by push_cast;rfl,asB (Nat.div_le_self _ _) h,hdd rfl⟩
theorem apI{n:Nat}(h:d<4294967296):∃S:Nat,IntKind.u64.wrap ((d:Int)*2^(32-n%32))=(S:Int)/\S<18446744073709551616/\Hid (d*2^(32-n%32)=S):=by
 have h1:2^(32-n%32)<=2^32:=arL (by omega) (by omega);have h2:d*2^(32-n%32)<4294967296*2^32:=asB (Nat.mul_le_mul_left d h1) (Nat.mul_lt_mul_of_pos_right h (by decide));have h3:d*2^(32-n%32)<18446744073709551616:=h2;refine⟨d*2^(32-n%32),?_,h3,hdd rfl⟩;have e:((d:Int)*2^(32-n%32))=((d*2^(32-n%32):Nat):Int):=by push_cast;rfl
 rw[e,IntWalk.u64_in _ (by omega)]
theorem ao1{n:Nat}(h:d<4294967296):d/2^(n%32)+x*2^(32-n%32)%4294967296<4294967296:=by
 have hr:n%32<32:=arN _ (by omega);generalize n%32=r at*;have hB:4294967296=2^r*2^(32-r):=by rw[<-ar0,show r+(32-r)=32 by omega]
 have h1:d/2^r<2^(32-r):=(ar5 (arP r)).2 (by rw[arV,<-hB];exact h);have h2:x*2^(32-r)%4294967296=x%2^r*2^(32-r):=by rw[hB,ar4]
 have h3:x%2^r+1<=2^r:=arN _ (arP r);have h4:=arS (2^(32-r)) h3;rw[arM,Nat.one_mul]at h4;omega
theorem an8{xs:List Nat}{w:World}{n:Nat}(hx:NatP p w va xs)(ox:OkS xs)(hn:n<4611686018427387904):
 Calls Tryz.prog 127 #[va,.int .i64 (n:Int)] w (RetC w.heap.size w (val2 xs/2^n)):=by
 have HO:=hdd ox;obtain⟨A,c,rfl,l1,⟨l2,l3⟩,-,hc⟩:=hx;have HC:=hdd hc;clear ox hc;go_enter Tryz.func127,Tryz.ntmps127
 go_wp2
 go_loopw [5,6,7] (fun out i _ wr=>∃m j:Nat,j=n/32+m/\i=.int .i64 (j:Int)/\(m=0\/j<=xs.length)/\Hid (RowC w.heap.size wr out ((asG m).map fun t=>ak4 xs (n%32) (n/32+t)))/\Hid (Below w.heap.size w wr)) (fun _ i _ _=>((xs.length:Int)-(intOf i)).toNat)
 case atStart=>exact⟨0,n/32,rfl,by go_num,Or.inl rfl,hdd RowC.nil,hdd (Below.refl _ _)⟩
 case round=>
  obtain⟨m,j,hj,rfl,hm,hR,hB⟩:=hrel;have HJ:=hdd hj;have HM:=hdd hm;clear hj hm;have hs:=hR.out.slice;rw[arU,arR]at hs;obtain⟨p0,c0,rfl⟩:=hs;rcases arG j xs.length with h|h
  . obtain⟨b,off,rfl,-,hbl,hcell⟩:=HC.out (by omega)
    have g0:=cbl (hcell j h) hB.out;rw[bZ h]at g0;have hd0:xs[j]<4294967296:=HO.out _ (arH h);rcases arG (j+1) xs.length with h1|h1
    . have g1:=cell_below (hcell (j+1) h1) hB.out nlr
      rw[bZ h1]at g1;have hd1:xs[j+1]<4294967296:=HO.out _ (arH h1);have HE:Hid (ak4 xs (n%32) j=xs[j]/2^(n%32)+xs[j+1]*2^(32-n%32)%4294967296):=hdd (by unfold ak4;rw[arD,arD,arE h,arE h1];rfl);obtain⟨D,w0,D0,HD⟩:=an7 (n:=n) hd0;obtain⟨S,w1,S0,HS⟩:=apI (n:=n) hd1;rw[HD.out,HS.out]at HE;have HB:Hid (D+S%4294967296<4294967296):=hdd (by rw[<-HD.out,<-HS.out];exact ao1 hd0);clear HD HS;generalize xs[j]=d0 at*;generalize xs[j+1]=d1 at*;clear hcell;have hBo:=HB.out;obtain⟨w1,hw1,hb1,hs1,b1⟩:=pro1 wr (.cells #[.int .u64 (((D:Int)+(S:Int))%4294967296)] 134);have HR1:=hdd (hR.out.keep hb1);have HB1:=hdd (aA hB.out hb1);have HX1:Hid (w1.heap[wr.heap.size]? =some (.cells #[.int .u64 (((D+S)%4294967296:Nat):Int)] 134)):=hdd (by
       have e:(((D+S)%4294967296:Nat):Int)=((D:Int)+(S:Int))%4294967296:=by omega
       rw[e];exact b1)
      clear hR hB hb1 hs1 b1;go_wp2_with (first
       |(at_builtin
         go_loud (
         refine alO (x:=(D+S)%4294967296) HR1.out (by rw[arU,arR]) HX1.out (by exact arN _ (by decide)) (by have:=HM.out;have:=HJ.out;omega) HB1.out HB1.out.size rfl _ _ rfl rfl rfl ?_;intro p2 c2 w2 hr2 hb2 hs2)))
      go_roundw
      case rel=>exact⟨m+1,j+1,by have:=HJ.out;omega,by go_num,Or.inr (by omega),hdd (by
       rw[asF,arO,asA,asI,<-HJ.out,HE.out];exact(by have e:(D+S)%4294967296=D+S%4294967296:=(by have:=HB.out;omega);rw[<-e];exact hr2.out)),hb2⟩
      case measure=>simp[intOf];omega
    . have HE:Hid (ak4 xs (n%32) j=xs[j]/2^(n%32)):=hdd (by unfold ak4;rw[arD,arD,arE h,arK h1];simp)
      obtain⟨D,w0,D0,HD⟩:=an7 (n:=n) hd0;rw[HD.out]at HE;clear HD;generalize xs[j]=d0 at*;clear hcell;obtain⟨w1,hw1,hb1,hs1,b1⟩:=pro1 wr (.cells #[.int .u64 ((D:Int)%4294967296)] 134);have HR1:=hdd (hR.out.keep hb1);have HB1:=hdd (aA hB.out hb1);have HX1:Hid (w1.heap[wr.heap.size]? =some (.cells #[.int .u64 ((D:Nat):Int)] 134)):=hdd (by
       have e:(D:Int)=(D:Int)%4294967296:=by omega
       rw[e];exact b1)
      clear hR hB hb1 hs1 b1;go_wp2_with (first
       |(at_builtin
         go_loud (
         refine alO (x:=D) HR1.out (by rw[arU,arR]) HX1.out (by exact D0) (by have:=HM.out;have:=HJ.out;omega) HB1.out HB1.out.size rfl _ _ rfl rfl rfl ?_;intro p2 c2 w2 hr2 hb2 hs2)))
      go_roundw
      case rel=>exact⟨m+1,j+1,by have:=HJ.out;omega,by go_num,Or.inr (by omega),hdd (by
       rw[asF,arO,asA,asI,<-HJ.out,HE.out];exact hr2.out),hb2⟩
      case measure=>simp[intOf];omega
  . have HF:=hdd (anM xs HO.out n)
    go_wp2_with fail
    refine(akV (hR.out.natP (by rw[arU,arR];have:=HM.out;have:=HJ.out;omega))).mono ?_;rintro e w2⟨rfl,v,ys,rfl,hv,ht,he,-,hs⟩;have hml:xs.length-n/32=m:=by have:=HM.out;have:=HJ.out;omega
    rw[hml]at HF;have HV:=hdd (show RetC w.heap.size w (val2 xs/2^n) (.returned v) _ from⟨v,ys,rfl,hv,hs hR.out.2,ht,he.trans HF.out,hB.out⟩);clear hv ht he hs hR hB HF;go_wp2;go_ret;exact HV.out
theorem ak5(xs:List Nat)(m:Nat):val2 (xs.take (m+1))=val2 (xs.take m)+xs.getD m 0*B32^m:=by
 rcases arG m xs.length with h|h
 . rw[ak0 xs m h,arD,arE h];rfl
 . rw[arI h,arI (by omega),arD,arK h];simp
theorem an9(ys:List Nat)(d:Nat):val2 (ys++[d])=val2 ys+d*B32^ys.length:=by
 rw[akP];simp only[val2];rw[Nat.mul_zero,Nat.add_zero,arV]
theorem alD{xs:List Nat}{c s:Nat}(hl:ys.length=m)(h:val2 ys+c*B32^m=val2 (xs.take m)+val2 (zs.take m))(hs:s=c+xs.getD m 0+zs.getD m 0):
 val2 (ys++[s%4294967296])+s/4294967296*B32^(m+1)=val2 (xs.take (m+1))+val2 (zs.take (m+1)):=by
 rw[ak5,ak5,an9,hl];have e:=arT s 4294967296;have e2:B32^(m+1)=4294967296*B32^m:=by rw[asC,arV];rfl
 rw[e2];generalize B32^m=P at*;have e3:s*P=c*P+xs.getD m 0*P+zs.getD m 0*P:=by rw[hs,arM,arM]
 have e4:s*P=s/4294967296*(4294967296*P)+s%4294967296*P:=by
  conv=>lhs;rw[<-e]
  grind
 omega
theorem getD_at{xs:List Nat}(h:m<xs.length):xs.getD m 0=xs[m]:=by rw[arD,arE h];rfl
theorem alL{xs:List Nat}(h:xs.length<=m):xs.getD m 0=0:=by rw[arD,arK h];rfl
theorem aoA{xs:List Nat}{w:World}(hx:NatP p w va xs)(hz:NatP q w vb zs)(ox:OkS xs)(oz:OkS zs)(lx:xs.length<1099511627776)(lz:zs.length<1099511627776):
 Calls Tryz.prog 226 #[va,vb] w (RetC w.heap.size w (val2 xs+val2 zs)):=by
 have HO:=hdd ox;have HZ:=hdd oz;obtain⟨A,ca,rfl,l1,⟨l2,l3⟩,-,hc⟩:=hx;obtain⟨A',cb,rfl,k1,⟨k2,k3⟩,-,hc'⟩:=hz;have HC:=hdd hc;have HD:=hdd hc';clear ox oz hc hc';go_enter Tryz.func226,Tryz.ntmps226
 go_wp2
 go_loopw [5,6,7] (fun out c i wr=>∃(m cN:Nat) (ys:List Nat),i=.int .i64 (m:Int)/\c=.int .u64 (cN:Int)/\cN<=1/\m<=max xs.length zs.length+1/\(m<=max xs.length zs.length\/cN=0)/\Hid (ys.length=m/\val2 ys+cN*B32^m=val2 (xs.take m)+val2 (zs.take m))/\Hid (RowC w.heap.size wr out ys)/\Hid (Below w.heap.size w wr)) (fun _ _ i _=>(max (xs.length:Int) zs.length+1-(intOf i)).toNat)
 case atStart=>exact⟨0,0,[],rfl,rfl,by omega,by omega,Or.inr rfl,hdd ⟨rfl,by simp[val2]⟩,hdd RowC.nil,hdd (Below.refl _ _)⟩
 case round=>
  obtain⟨m,cN,ys,rfl,rfl,hc1,hm,hme,hy,hR,hB⟩:=hrel;have hs:=hR.out.slice;rw[hy.out.1]at hs;obtain⟨p0,c0,rfl⟩:=hs;have HM:=hdd (And.intro hm hme);clear hme;rcases arG m xs.length with ha|ha
  . rcases arG m zs.length with hb|hb
    . obtain⟨b1,o1,rfl,-,-,q1⟩:=HC.out (by omega)
      have g1:=cbl (q1 m ha) hB.out;rw[bZ ha]at g1;have x0:xs[m]<4294967296:=HO.out _ (arH ha);have HE1:=hdd (getD_at ha);clear q1;generalize xs[m]=x at*;obtain⟨b2,o2,rfl,-,-,q2⟩:=HD.out (by omega);have g2:=cbl (q2 m hb) hB.out;rw[bZ hb]at g2;have y0:zs[m]<4294967296:=HZ.out _ (arH hb);have HE2:=hdd (getD_at hb);clear q2;generalize zs[m]=y at*;have HS:=hdd (alD (s:=(cN+x+y)) hy.out.1 hy.out.2 (by rw[HE1.out,HE2.out]));obtain⟨w1,hw1,hb1,hs1,b1'⟩:=pro1 wr (.cells #[.int .u64 (((cN:Int)+(x:Int)+(y:Int))%4294967296)] 134);have HR1:=hdd (hR.out.keep hb1);have HB1:=hdd (aA hB.out hb1);have HX1:Hid (w1.heap[wr.heap.size]? =some (.cells #[.int .u64 (((cN+x+y)%4294967296:Nat):Int)] 134)):=hdd (by
       have e:(((cN+x+y)%4294967296:Nat):Int)=((cN:Int)+(x:Int)+(y:Int))%4294967296:=by omega
       rw[e];exact b1')
      clear hR hB hb1 hs1 b1';go_wp2_with (first
       |(at_builtin
         go_loud (
         refine alO (x:=(cN+x+y)%4294967296) HR1.out hy.out.1 HX1.out (arN _ (by decide)) (by have:=HM.out;omega) HB1.out HB1.out.size rfl _ _ rfl rfl rfl ?_;intro p2 c2 w2 hr2 hb2 hs2)))
      go_roundw
      case rel=>exact⟨m+1,(cN+x+y)/4294967296,ys++[(cN+x+y)%4294967296],by go_num,by go_num,by omega,by omega,Or.inl (by omega),hdd ⟨by rw[arF,hy.out.1];rfl,HS.out⟩,hr2,hb2⟩
      case measure=>simp[intOf];omega
    . obtain⟨b1,o1,rfl,-,-,q1⟩:=HC.out (by omega)
      have g1:=cbl (q1 m ha) hB.out;rw[bZ ha]at g1;have x0:xs[m]<4294967296:=HO.out _ (arH ha);have HE1:=hdd (getD_at ha);clear q1;generalize xs[m]=x at*;have HE2:=hdd (alL hb);have HS:=hdd (alD (s:=(cN+x)) hy.out.1 hy.out.2 (by rw[HE1.out,HE2.out];rfl));obtain⟨w1,hw1,hb1,hs1,b1'⟩:=pro1 wr (.cells #[.int .u64 (((cN:Int)+(x:Int))%4294967296)] 134);have HR1:=hdd (hR.out.keep hb1);have HB1:=hdd (aA hB.out hb1);have HX1:Hid (w1.heap[wr.heap.size]? =some (.cells #[.int .u64 (((cN+x)%4294967296:Nat):Int)] 134)):=hdd (by
       have e:(((cN+x)%4294967296:Nat):Int)=((cN:Int)+(x:Int))%4294967296:=by omega
       rw[e];exact b1')
      clear hR hB hb1 hs1 b1';go_wp2_with (first
       |(at_builtin
         go_loud (
         refine alO (x:=(cN+x)%4294967296) HR1.out hy.out.1 HX1.out (arN _ (by decide)) (by have:=HM.out;omega) HB1.out HB1.out.size rfl _ _ rfl rfl rfl ?_;intro p2 c2 w2 hr2 hb2 hs2)))
      go_roundw
      case rel=>exact⟨m+1,(cN+x)/4294967296,ys++[(cN+x)%4294967296],by go_num,by go_num,by omega,by omega,Or.inl (by omega),hdd ⟨by rw[arF,hy.out.1];rfl,HS.out⟩,hr2,hb2⟩
      case measure=>simp[intOf];omega
  . rcases arG m zs.length with hb|hb
    . have HE1:=hdd (alL ha)
      obtain⟨b2,o2,rfl,-,-,q2⟩:=HD.out (by omega);have g2:=cbl (q2 m hb) hB.out;rw[bZ hb]at g2;have y0:zs[m]<4294967296:=HZ.out _ (arH hb);have HE2:=hdd (getD_at hb);clear q2;generalize zs[m]=y at*;have HS:=hdd (alD (s:=(cN+y)) hy.out.1 hy.out.2 (by rw[HE1.out,HE2.out];rfl));obtain⟨w1,hw1,hb1,hs1,b1'⟩:=pro1 wr (.cells #[.int .u64 (((cN:Int)+(y:Int))%4294967296)] 134);have HR1:=hdd (hR.out.keep hb1);have HB1:=hdd (aA hB.out hb1);have HX1:Hid (w1.heap[wr.heap.size]? =some (.cells #[.int .u64 (((cN+y)%4294967296:Nat):Int)] 134)):=hdd (by
       have e:(((cN+y)%4294967296:Nat):Int)=((cN:Int)+(y:Int))%4294967296:=by omega
       rw[e];exact b1')
      clear hR hB hb1 hs1 b1';go_wp2_with (first
       |(at_builtin
         go_loud (
         refine alO (x:=(cN+y)%4294967296) HR1.out hy.out.1 HX1.out (arN _ (by decide)) (by have:=HM.out;omega) HB1.out HB1.out.size rfl _ _ rfl rfl rfl ?_;intro p2 c2 w2 hr2 hb2 hs2)))
      go_roundw
      case rel=>exact⟨m+1,(cN+y)/4294967296,ys++[(cN+y)%4294967296],by go_num,by go_num,by omega,by omega,Or.inl (by omega),hdd ⟨by rw[arF,hy.out.1];rfl,HS.out⟩,hr2,hb2⟩
      case measure=>simp[intOf];omega
    . rcases arW cN with hc0|hc0
      . subst hc0
        have HV:Hid (val2 ys=val2 xs+val2 zs):=hdd (by
         have:=hy.out.2;rw[arI ha,arI hb]at this;omega)
        go_wp2_with fail
        refine(akV (hR.out.natP (by rw[hy.out.1];have:=HM.out;omega))).mono ?_;rintro e w2⟨rfl,v,us,rfl,hv,ht,he,-,hs⟩;have HF:=hdd (show RetC w.heap.size w (val2 xs+val2 zs) (.returned v) _ from⟨v,us,rfl,hv,hs hR.out.2,ht,he.trans HV.out,hB.out⟩);clear hv ht he hs hR hB HV;go_wp2;go_ret;exact HF.out
      . have hmm:m<=max xs.length zs.length:=(by rcases HM.out.2 with h|h<;>omega)
        have HE1:=hdd (alL ha);have HE2:=hdd (alL hb);have HS:=hdd (alD (s:=(cN)) hy.out.1 hy.out.2 (by rw[HE1.out,HE2.out];rfl));obtain⟨w1,hw1,hb1,hs1,b1'⟩:=pro1 wr (.cells #[.int .u64 (((cN:Int))%4294967296)] 134);have HR1:=hdd (hR.out.keep hb1);have HB1:=hdd (aA hB.out hb1);have HX1:Hid (w1.heap[wr.heap.size]? =some (.cells #[.int .u64 (((cN)%4294967296:Nat):Int)] 134)):=hdd (by
         have e:(((cN)%4294967296:Nat):Int)=((cN:Int))%4294967296:=by omega
         rw[e];exact b1')
        clear hR hB hb1 hs1 b1';go_wp2_with (first
         |(at_builtin
           go_loud (
           refine alO (x:=(cN)%4294967296) HR1.out hy.out.1 HX1.out (arN _ (by decide)) (by have:=HM.out;omega) HB1.out HB1.out.size rfl _ _ rfl rfl rfl ?_;intro p2 c2 w2 hr2 hb2 hs2)))
        go_roundw
        case rel=>exact⟨m+1,(cN)/4294967296,ys++[(cN)%4294967296],by go_num,by go_num,by omega,by omega,Or.inr (by omega),hdd ⟨by rw[arF,hy.out.1];rfl,HS.out⟩,hr2,hb2⟩
        case measure=>simp[intOf];omega
theorem apJ{B:Nat}(w:World)(q k:Nat)(hq:q<=k)(hk:k<=17592186044416)(hB:B<=w.heap.size):
 ∃w',(Instr.makeSlice 88 (.int .i64 (q:Int)) (.int .i64 (k:Int))).run Tryz.prog w=.ok (.slice (some ⟨w.heap.size,0,none⟩) q k) w'/\RowC B w' (.slice (some ⟨w.heap.size,0,none⟩) q k) (arX q 0)/\Below w.heap.size w w':=by
 obtain⟨i0,hi,hz0,hz1,hz2⟩:=info_parts mW;have hr:=run_make (P:=Tryz.prog) w 88 134 i0 (.int .u64 0) alK hi hz0 .i64 .i64 (q:Int) (k:Int) (by omega) (by omega) (by rw[hz2];omega) (by omega);simp only[Int.toNat_natCast]at hr;refine⟨_,hr,?_,(Below.refl _ _).alloc nlr _⟩;rw[hz1,Nat.mul_one];have hm:madeCells (Value.int .u64 0).cells k=rG (arX k 0):=zT k;rw[hm];refine⟨⟨by simp,Or.inr ⟨w.heap.size,k,rG (arX k 0),by rw[ar6],hB,heap_alloc_new w _,by rw[ar6];exact hq,by unfold maxLen;omega,by simp[rG],?_⟩⟩,fun x hx=>by rw[List.eq_of_mem_replicate hx];unfold B32;omega⟩;simp[rG,List.take_replicate,asE hq]
theorem apK{n:Nat}(h:d<4294967296):∃S:Nat,IntKind.u64.wrap ((d:Int)*2^(n%32))=(S:Int)/\S<=9223372034707292160/\Hid (d*2^(n%32)=S):=by
 have h1:2^(n%32)<=2^31:=arL (by omega) (by omega);have h2:d*2^(n%32)<=4294967295*2^31:=Nat.mul_le_mul (by omega) h1;have h3:d*2^(n%32)<=9223372034707292160:=h2;refine⟨d*2^(n%32),?_,h3,hdd rfl⟩;have e:((d:Int)*2^(n%32))=((d*2^(n%32):Nat):Int):=by push_cast;rfl
 rw[e,IntWalk.u64_in _ (by omega)]
theorem apL{c n:Nat}(h:d<4294967296)(hc:c<2^(n%32))(hS:d*2^(n%32)=S):(S+c)/4294967296<2^(n%32):=by
 rw[ar5 (by decide),<-hS];generalize 2^(n%32)=P at*;have:d*P<=4294967295*P:=arS P (by omega);omega
theorem apM(n:Nat):2^(n%32)<=2147483648:=by
 have h1:2^(n%32)<=2^31:=arL (by omega) (by omega);exact h1
theorem anN{xs:List Nat}{q n c:Nat}(hl:ys.length=q+m)(h:val2 ys+c*B32^(q+m)=val2 (xs.take m)*2^(n%32)*B32^q)(hS:xs.getD m 0*2^(n%32)=S):
 val2 (ys++[(S+c)%4294967296])+(S+c)/4294967296*B32^(q+(m+1))=val2 (xs.take (m+1))*2^(n%32)*B32^q:=by
 rw[ak5,an9,hl];have e:=arT (S+c) 4294967296;have e2:B32^(q+(m+1))=4294967296*B32^(q+m):=by rw[<-asH,asC,arV];rfl
 have e3:B32^(q+m)=B32^q*B32^m:=ar0 ..;rw[e2];have e4:(val2 (xs.take m)+xs.getD m 0*B32^m)*2^(n%32)*B32^q=val2 (xs.take m)*2^(n%32)*B32^q+S*B32^(q+m):=by
  rw[<-hS,e3];grind
 rw[e4,<-h];generalize B32^(q+m)=P at*;have e5:(S+c)*P=(S+c)/4294967296*(4294967296*P)+(S+c)%4294967296*P:=by
  conv=>lhs;rw[<-e]
  grind
 rw[arM]at e5;omega
theorem aoB{xs:List Nat}{n c:Nat}(hl:ys.length=n/32+m)(hm:xs.length<=m)(h:val2 ys+c*B32^(n/32+m)=val2 (xs.take m)*2^(n%32)*B32^(n/32)):val2 (ys++[c])=val2 xs*2^n:=by
 rw[an9,hl,h,arI hm,arZ]
 congr 1
 rw[ak9,<-asL,<-ar0]
 congr 1
 omega
theorem amO{xs:List Nat}{w:World}{n:Nat}(hx:NatP p w va xs)(ox:OkS xs)(hn:n<8796093022208)(lx:xs.length<=549755813888):
 Calls Tryz.prog 225 #[va,.int .i64 (n:Int)] w (RetC w.heap.size w (val2 xs*2^n)):=by
 have HO:=hdd ox;obtain⟨A,c,rfl,l1,⟨l2,l3⟩,-,hc⟩:=hx;have HC:=hdd hc;clear ox hc;rcases arW xs.length with h0|h0
 . obtain rfl:xs=[]:=arY.1 h0
   go_enter Tryz.func225,Tryz.ntmps225
   go_wp2;go_ret;exact⟨_,[],rfl,NatP.nil _,(fun x h=>by cases h),Tr.nil,by simp[val2],Below.refl _ _⟩
 have hne:((xs.length:Int)==0)=false:=by rw[beq_eq_false_iff_ne];omega
 obtain⟨w1,hrun,hr1,hb1⟩:=apJ (B:=w.heap.size) w (n/32) (n/32+xs.length+1) (by omega) (by omega) nlr;have hrun':(Instr.makeSlice 88 (.int .i64 ((n:Int)/32)) (.int .i64 ((n:Int)/32+(xs.length:Int)+1))).run Tryz.prog w=.ok (.slice (some ⟨w.heap.size,0,none⟩) (n/32) (n/32+xs.length+1)) w1:=hrun;have HR1:=hdd hr1;have HB1:=hdd hb1;clear hrun hr1 hb1;go_enter Tryz.func225,Tryz.ntmps225
 go_wp2;clear hrun'
 go_loopw [5,6,7,8] (fun out c i _ wr=>∃(m cN:Nat) (ys:List Nat),i=.int .i64 (m:Int)/\c=.int .u64 (cN:Int)/\m<=xs.length/\cN<2147483648/\Hid (cN<2^(n%32))/\Hid (ys.length=n/32+m/\val2 ys+cN*B32^(n/32+m)=val2 (xs.take m)*2^(n%32)*B32^(n/32))/\Hid (RowC w.heap.size wr out ys)/\Hid (Below w.heap.size w wr)) (fun _ _ i _ _=>((xs.length:Int)-(intOf i)).toNat)
 case atStart=>exact⟨0,0,arX (n/32) 0,rfl,rfl,by omega,by omega,hdd (arP _),hdd ⟨by simp,by simp[alF,val2]⟩,HR1,HB1⟩
 case round=>
  obtain⟨m,cN,ys,rfl,rfl,hm,hc0,hc1,hy,hR,hB⟩:=hrel;have hs:=hR.out.slice;obtain⟨p0,c0,rfl⟩:=hs;obtain⟨N,hN⟩:∃N,ys.length=N:=⟨_,rfl⟩;have HNl:Hid (ys.length=N/\N<=1000000000000):=hdd ⟨hN,by have:=hy.out.1;omega⟩;rw[hN]at hR;rw[hN];clear hN;rcases arG m xs.length with h|h
  . obtain⟨b,off,rfl,-,-,q1⟩:=HC.out (by omega)
    have g1:=cbl (q1 m h) hB.out;rw[bZ h]at g1;have x0:xs[m]<4294967296:=HO.out _ (arH h);obtain⟨S,w0,S0,HS⟩:=apK (n:=n) x0;have HE:=hdd (anN (S:=S) hy.out.1 hy.out.2 (by rw[getD_at h];exact HS.out));have HK:=hdd (apL x0 hc1.out HS.out);clear q1 HS;generalize xs[m]=x at*;obtain⟨w2,hw2,hb2,hs2,b2⟩:=pro1 wr (.cells #[.int .u64 (((S:Int)+(cN:Int))%4294967296)] 134);have HR2:=hdd (hR.out.keep hb2);have HB2:=hdd (aA hB.out hb2);have HX2:Hid (w2.heap[wr.heap.size]? =some (.cells #[.int .u64 (((S+cN)%4294967296:Nat):Int)] 134)):=hdd (by
     have e:(((S+cN)%4294967296:Nat):Int)=((S:Int)+(cN:Int))%4294967296:=by omega
     rw[e];exact b2)
    clear hR hB hb2 hs2 b2;go_wp2_with (first
     |(at_builtin
       go_loud (
       refine alO (x:=(S+cN)%4294967296) HR2.out HNl.out.1 HX2.out (arN _ (by decide)) (by have:=HNl.out.2;omega) HB2.out HB2.out.size rfl _ _ rfl rfl rfl ?_;intro p2 c2 w3 hr3 hb3 hs3)))
    go_roundw
    case rel=>exact⟨m+1,(S+cN)/4294967296,ys++[(S+cN)%4294967296],by go_num,by go_num,by omega,by have:=HK.out;have:=apM n;omega,HK,hdd ⟨by rw[arF,hy.out.1];rfl,HE.out⟩,hr3,hb3⟩
    case measure=>simp[intOf];omega
  . have HV:=hdd (aoB hy.out.1 h hy.out.2)
    obtain⟨w2,hw2,hb2,hs2,b2⟩:=pro1 wr (.cells #[.int .u64 (cN:Int)] 134);have HR2:=hdd (hR.out.keep hb2);have HB2:=hdd (aA hB.out hb2);have HX2:=hdd b2;clear hR hB hb2 hs2 b2;go_wp2_with (first
     |(at_builtin
       go_loud (
       refine alO (x:=cN) HR2.out HNl.out.1 HX2.out (by omega) (by have:=HNl.out.2;omega) HB2.out HB2.out.size rfl _ _ rfl rfl rfl ?_;intro p2 c2 w3 hr3 hb3 hs3)))
    have hl3:(ys++[cN]).length=N+1:=by rw[arF,HNl.out.1];rfl
    rw[<-hl3]at hr3;rw[<-hl3];refine(akV (hr3.out.natP (by rw[hl3];have:=HNl.out.2;omega))).mono ?_;rintro e w4⟨rfl,v,us,rfl,hv,ht,he,-,hs⟩;have HF:=hdd (show RetC w.heap.size w (val2 xs*2^n) (.returned v) _ from⟨v,us,rfl,hv,hs hr3.out.2,ht,he.trans HV.out,hb3.out⟩);clear hv ht he hs hr3 hb3 HV;go_wp2;go_ret;exact HF.out
def RowR(B:Nat)(w:World)(v:Value)(xs:List Nat):Prop:=w.ownsRow B 134 1 v xs.length (xs.map u64V)
section
variable{B r n c:Nat}{w w' w0:World}{v:Value}{xs:List Nat}
theorem RowR.cell (h:RowR B w (.slice (some ⟨r,0,none⟩) n c) xs)(hk:k<xs.length):w.cell? ⟨r,k,none⟩=some (u64V xs[k])/\w.frozen? ⟨r,k,none⟩=false:=by
 rcases h.2 with ⟨e,-⟩|⟨r',cap,cur,e,h0,hg,h1,h2,h3,h4⟩
 . simp at e
 . simp only[Value.slice.injEq,Option.some.injEq,Addr.mk.injEq]at e
   obtain⟨⟨rfl,-⟩,-,rfl⟩:=e;refine⟨alQ (cs:=cur.toList) (by simpa using hg) ?_,by simp[World.frozen?,hg]⟩;have:(xs.map u64V)[k]? =some (u64V xs[k]):=by rw[arQ,arE hk];rfl
   rw[<-h4,ar9]at this
   split at this
   . exact this
   . cases this
theorem RowR.set (h:RowR B w (.slice (some ⟨r,0,none⟩) n c) xs)(hk:k<xs.length)(x:Nat):RowR B (w.setCell ⟨r,k,none⟩ (u64V x)) (.slice (some ⟨r,0,none⟩) n c) (xs.set k x)/\Below B w (w.setCell ⟨r,k,none⟩ (u64V x)):=by
 rcases h.2 with ⟨e,-⟩|⟨r',cap,cur,e,h0,hg,h1,h2,h3,h4⟩
 . simp at e
 . simp only[Value.slice.injEq,Option.some.injEq,Addr.mk.injEq]at e
   obtain⟨⟨rfl,-⟩,hn,rfl⟩:=e;have hs:=ao6 (k:=k) (v:=u64V x) (cs:=cur.toList) (by simpa using hg);refine⟨⟨by simp,Or.inr ⟨r,c,(cur.toList.set k (u64V x)).toArray,by rw[arJ,hn],h0,hs,by rw[arJ];exact h1,h2,by simp[h3],?_⟩⟩,Below.of_grown (grownBy_set (aiM w (some r)) _) (ar2 h0 (Nat.le_of_lt (aF hg))) h0⟩;rw[arJ,List.map_set,<-h4];exact List.take_set
theorem apT{ops:Array Oper}{rest:List Oper}{o:Oper}{Q:Exit->Act->World->Prop}(hO:RowC B w v xs)(hl:xs.length=n)(hu:us.length=m)(hnews:∀k (h:k<us.length),w.cell? (ad.add k)=some (u64V us[k]))(hm:0<m)(ou:OkS us)(hn:n+m<=17592186044416)(hB:Below B w0 w)(hBw:B<=w.heap.size)(hgd:o.guard=none)(sl y:Operand)
 (ho:o.op=.call {callee:=.builtin .append,args:=#[sl,y],argTypes:=#[88,88]}) (hs:a.eval sl=v) (hy:a.eval y=.slice (some ad) m c')
 (h:∀r cap w',Hid (RowC B w' (.slice (some ⟨r,0,none⟩) (n+m) cap) (xs++us))->Hid (Below B w0 w')->Hid (B<=w'.heap.size)->wpList Tryz.prog ops Q rest (a.put o.dst (.slice (some ⟨r,0,none⟩) (n+m) cap)) w'):wpList Tryz.prog ops Q (o::rest) a w:=by
 subst hl hu;obtain⟨i,hi,i0,i1,i2⟩:=info_parts mW;exact wpList_append_lies _ hgd sl y 88 ho B 134 i (.int .u64 0) 1 8 alK hi i0 i1 i2 rfl (by decide) v xs.length (xs.map u64V) hs hO.1 ad us.length c' (us.map u64V) hy (by simp) (fun j u hj=>by
  rw[arQ]at hj;rcases arG j us.length with hk|hk
  . rw[arE hk]at hj
    rw[hnews j hk];exact hj
  . rw[arK hk]at hj;cases hj) (fun u hu=>by obtain⟨x,-,rfl⟩:=asJ.1 hu;rfl) hm (by unfold maxLen;omega) (by omega) hBw _ rfl fun r cap w' o1 o2 o3 _=>by
  have hb2:Below B w w':=by
   rcases hO.1.2 with ⟨rfl,-⟩|⟨r0,c0,cur,rfl,h0,-⟩
   . exact⟨o2.os,o2.tape,o2.output,o2.size,fun k hk=>o2.block k (by omega) (by simp[Value.ownBlock])⟩
   . exact Below.of_grown o2 hBw h0
  refine h _ _ _ (hdd ⟨?_,fun z hz=> ?_⟩) (hdd (hB.trans hb2)) (hdd (ar2 hBw o2.size))
  . rw[arF,arO];exact o1
  . rcases ar3.1 hz with hz|hz
    . exact hO.2 z hz
    . exact ou z hz
theorem apN{ops:Array Oper}{o:Oper}{K:Act->World->Prop}{Q:Exit->Act->World->Prop}{E:Prop}(hO:RowC B w v xs)(hl:xs.length=n)(hu:us.length=m)(hnews:∀k (h:k<us.length),w.cell? (ad.add k)=some (u64V us[k]))(hm:0<m)(ou:OkS us)(hn:n+m<=17592186044416)(hB:Below B w0 w)(hBw:B<=w.heap.size)(hgd:o.guard=none)(sl y:Operand)
 (ho:o.op=.call {callee:=.builtin .append,args:=#[sl,y],argTypes:=#[88,88]}) (hs:a.eval sl=v) (hy:a.eval y=.slice (some ad) m c')
 (h:∀r cap w',Hid (RowC B w' (.slice (some ⟨r,0,none⟩) (n+m) cap) (xs++us))->Hid (Below B w0 w')->Hid (B<=w'.heap.size)->K (a.put o.dst (.slice (some ⟨r,0,none⟩) (n+m) cap)) w'):if Region.wanted o (yielded ops a.tmps)=true then Oper.wp Tryz.prog o a w K Q else E:=by
 subst hl hu;obtain⟨i,hi,i0,i1,i2⟩:=info_parts mW;exact step_append_lies _ hgd sl y 88 ho B 134 i (.int .u64 0) 1 8 alK hi i0 i1 i2 rfl (by decide) v xs.length (xs.map u64V) hs hO.1 ad us.length c' (us.map u64V) hy (by simp) (fun j u hj=>by
  rw[arQ]at hj;rcases arG j us.length with hk|hk
  . rw[arE hk]at hj
    rw[hnews j hk];exact hj
  . rw[arK hk]at hj;cases hj) (fun u hu=>by obtain⟨x,-,rfl⟩:=asJ.1 hu;rfl) hm (by unfold maxLen;omega) (by omega) hBw _ rfl fun r cap w' o1 o2 o3 _=>by
  have hb2:Below B w w':=by
   rcases hO.1.2 with ⟨rfl,-⟩|⟨r0,c0,cur,rfl,h0,-⟩
   . exact⟨o2.os,o2.tape,o2.output,o2.size,fun k hk=>o2.block k (by omega) (by simp[Value.ownBlock])⟩
   . exact Below.of_grown o2 hBw h0
  refine h _ _ _ (hdd ⟨?_,fun z hz=> ?_⟩) (hdd (hB.trans hb2)) (hdd (ar2 hBw o2.size))
  . rw[arF,arO];exact o1
  . rcases ar3.1 hz with hz|hz
    . exact hO.2 z hz
    . exact ou z hz
end
theorem alE{xs:List Nat}{c y:Nat}(hm:m<ys.length)(h:val2 ys+val2 (zs.take m)=val2 xs+c*B32^m)(hy:zs.getD m 0=y)(hd:d+(c+y)=ys[m]+c'*4294967296):
 val2 (ys.set m d)+val2 (zs.take (m+1))=val2 xs+c'*B32^(m+1):=by
 have h1:=an3 ys m d hm;rw[ak5,hy];have e2:B32^(m+1)=4294967296*B32^m:=by rw[asC,arV];rfl
 rw[e2];generalize B32^m=P at*;have e3:(d+(c+y))*P=(ys[m]+c'*4294967296)*P:=by rw[hd]
 rw[arM,arM,arM]at e3;have e4:c'*4294967296*P=c'*(4294967296*P):=arZ ..;omega
theorem aoC{xs:List Nat}{c:Nat}(oy:OkS ys)(ox:OkS xs)(hl:ys.length=xs.length)(tz:Tr zs)(hle:val2 zs<=val2 xs)(h:val2 ys+val2 (zs.take xs.length)=val2 xs+c*B32^xs.length):val2 ys=val2 xs-val2 zs:=by
 have h1:zs.length<=xs.length:=by
  rcases arG xs.length zs.length with k|k
  . have:=ak1 xs zs ox tz k;omega
  . exact k
 rw[arI h1]at h;have h2:=ak3 ys oy;rw[hl]at h2;rcases arW c with rfl|hc
 . omega
 . have:1*B32^xs.length<=c*B32^xs.length:=arS _ hc
   omega
theorem amP{xs:List Nat}{w:World}(hx:NatP p w va xs)(hz:NatP q w vb zs)(ox:OkS xs)(oz:OkS zs)(tz:Tr zs)(hle:val2 zs<=val2 xs)(h0:0<xs.length):
 Calls Tryz.prog 228 #[va,vb] w (RetC w.heap.size w (val2 xs-val2 zs)):=by
 have HO:=hdd ox;have HZ:=hdd oz;have HT:=hdd (And.intro tz hle);obtain⟨A,ca,rfl,l1,⟨l2,l3⟩,-,hc⟩:=hx;obtain⟨A',cb,rfl,k1,⟨k2,k3⟩,-,hc'⟩:=hz;have HC:=hdd hc;have HD:=hdd hc';clear ox oz hc hc' tz hle;obtain⟨b1,o1,rfl,-,-,q1⟩:=HC.out h0;have HR0:Hid (RowC w.heap.size w (.slice none 0 0) []):=hdd RowC.nil;have HQ:Hid (∀k (h:k<xs.length),w.cell? ((⟨b1,o1,none⟩:Addr).add k)=some (u64V xs[k])):=hdd fun k h=>by
  rw[Addr.add_lit,q1 k h,bZ h]
 clear HC q1;go_enter Tryz.func228,Tryz.ntmps228
 go_wp2_with (first
  |(at_builtin
    go_loud (
    refine apT (n:=0) (us:=xs) HR0.out rfl rfl HQ.out h0 HO.out (by omega) (Below.refl _ _) nlr rfl _ _ rfl rfl rfl ?_;intro r cap w1 hr1 hb1 hs1;rw[List.nil_append,ar1]at hr1;rw[ar1])))
 clear HQ HR0;obtain⟨N,hN⟩:∃N,xs.length=N:=⟨_,rfl⟩;have HN:=hdd hN;rw[hN]at hr1 h0 l1 l2|-;clear hN
 go_loopw [6,7,8] (fun c i _ wr=>∃(m cN:Nat) (ys:List Nat),i=.int .i64 (m:Int)/\c=.int .u64 (cN:Int)/\m<=N/\cN<=1/\Hid (ys.length=N/\OkS ys/\val2 ys+val2 (zs.take m)=val2 xs+cN*B32^m)/\Hid (RowR w.heap.size wr (.slice (some ⟨r,0,none⟩) N cap) ys)/\Hid (Below w.heap.size w wr)) (fun _ i _ _=>((N:Int)-(intOf i)).toNat)
 case atStart=>exact⟨0,0,xs,rfl,rfl,by omega,by omega,hdd ⟨HN.out,HO.out,by simp[val2]⟩,hdd hr1.out.1,hb1⟩
 case round=>
  obtain⟨m,cN,ys,rfl,rfl,hm,hc1,hy,hR,hB⟩:=hrel;rcases arG m N with h|h
  . have hk:m<ys.length:=by rw[hy.out.1];exact h
    have hk2:=hdd hk;obtain⟨x,HX,gx,fx,x0⟩:∃x:Nat,Hid (ys[m]=x)/\wr.cell? ⟨r,m,none⟩=some (.int .u64 (x:Int))/\wr.frozen? ⟨r,m,none⟩=false/\x<4294967296:=⟨_,hdd rfl,(hR.out.cell hk).1,(hR.out.cell hk).2,hy.out.2.1 _ (arH hk)⟩;rcases arG m zs.length with hb|hb
    . obtain⟨b2,o2,rfl,-,-,q2⟩:=HD.out (by omega)
      have g2:=cbl (q2 m hb) hB.out;rw[bZ hb]at g2;have y0:zs[m]<4294967296:=HZ.out _ (arH hb);have HE2:=hdd (getD_at hb);clear q2;generalize zs[m]=y at*;rcases arG x (cN+y)with hv|hv
      . obtain⟨w1,hw1⟩:∃u,wr.setCell ⟨r,m,none⟩ (.int .u64 ((x:Int)+4294967296))=u:=⟨_,rfl⟩
        have p1:=hR.out.set hk (x+4294967296);have e1:u64V (x+4294967296)=.int .u64 ((x:Int)+4294967296):=by simp[u64V]
        rw[e1,hw1]at p1;have hk1:m<(ys.set m (x+4294967296)).length:=by rw[arJ];exact hk
        obtain⟨c1,f1⟩:=p1.1.cell hk1;rw[ar7]at c1;rw[e1]at c1;obtain⟨w2,hw2⟩:∃u,w1.setCell ⟨r,m,none⟩ (.int .u64 ((x:Int)+4294967296-((cN:Int)+(y:Int))))=u:=⟨_,rfl⟩;have p2:=p1.1.set hk1 (x+4294967296-(cN+y));have e2:u64V (x+4294967296-(cN+y))=.int .u64 ((x:Int)+4294967296-((cN:Int)+(y:Int))):=by simp only[u64V];congr 1;omega
        rw[e2,hw2,asK]at p2;have HS:=hdd (alE (c':=1) (d:=x+4294967296-(cN+y)) hk hy.out.2.2 HE2.out (by have:=HX.out;omega));have HP:=hdd p2.1;have HB:=hdd (hB.out.trans (p1.2.trans p2.2));have hlt:(x:Int)<((cN:Int)+(y:Int)):=by omega
        clear p1 p2 hR hB e1 e2 hk1;go_wp2
        go_roundw
        case rel=>exact⟨m+1,1,ys.set m (x+4294967296-(cN+y)),by go_num,rfl,by omega,by omega,hdd ⟨by rw[arJ,hy.out.1],hy.out.2.1.set m (by unfold B32;omega),HS.out⟩,HP,HB⟩
        case measure=>simp[intOf];omega
      . obtain⟨w2,hw2⟩:∃u,wr.setCell ⟨r,m,none⟩ (.int .u64 ((x:Int)-((cN:Int)+(y:Int))))=u:=⟨_,rfl⟩
        have p2:=hR.out.set hk (x-(cN+y));have e2:u64V (x-(cN+y))=.int .u64 ((x:Int)-((cN:Int)+(y:Int))):=by simp only[u64V];congr 1;omega
        rw[e2,hw2]at p2;have HS:=hdd (alE (c':=0) (d:=x-(cN+y)) hk hy.out.2.2 HE2.out (by have:=HX.out;omega));have HP:=hdd p2.1;have HB:=hdd (hB.out.trans p2.2);have hlt:¬(x:Int)<((cN:Int)+(y:Int)):=by omega
        clear p2 hR hB e2;go_wp2
        go_roundw
        case rel=>exact⟨m+1,0,ys.set m (x-(cN+y)),by go_num,rfl,by omega,by omega,hdd ⟨by rw[arJ,hy.out.1],hy.out.2.1.set m (by unfold B32;omega),HS.out⟩,HP,HB⟩
        case measure=>simp[intOf];omega
    . have HE2:=hdd (alL hb)
      rcases arG x (cN)with hv|hv
      . obtain⟨w1,hw1⟩:∃u,wr.setCell ⟨r,m,none⟩ (.int .u64 ((x:Int)+4294967296))=u:=⟨_,rfl⟩
        have p1:=hR.out.set hk (x+4294967296);have e1:u64V (x+4294967296)=.int .u64 ((x:Int)+4294967296):=by simp[u64V]
        rw[e1,hw1]at p1;have hk1:m<(ys.set m (x+4294967296)).length:=by rw[arJ];exact hk
        obtain⟨c1,f1⟩:=p1.1.cell hk1;rw[ar7]at c1;rw[e1]at c1;obtain⟨w2,hw2⟩:∃u,w1.setCell ⟨r,m,none⟩ (.int .u64 ((x:Int)+4294967296-(cN:Int)))=u:=⟨_,rfl⟩;have p2:=p1.1.set hk1 (x+4294967296-(cN));have e2:u64V (x+4294967296-(cN))=.int .u64 ((x:Int)+4294967296-(cN:Int)):=by simp only[u64V];congr 1;omega
        rw[e2,hw2,asK]at p2;have HS:=hdd (alE (c':=1) (d:=x+4294967296-(cN)) hk hy.out.2.2 HE2.out (by have:=HX.out;omega));have HP:=hdd p2.1;have HB:=hdd (hB.out.trans (p1.2.trans p2.2));have hlt:(x:Int)<(cN:Int):=by omega
        clear p1 p2 hR hB e1 e2 hk1;go_wp2
        go_roundw
        case rel=>exact⟨m+1,1,ys.set m (x+4294967296-(cN)),by go_num,rfl,by omega,by omega,hdd ⟨by rw[arJ,hy.out.1],hy.out.2.1.set m (by unfold B32;omega),HS.out⟩,HP,HB⟩
        case measure=>simp[intOf];omega
      . obtain⟨w2,hw2⟩:∃u,wr.setCell ⟨r,m,none⟩ (.int .u64 ((x:Int)-(cN:Int)))=u:=⟨_,rfl⟩
        have p2:=hR.out.set hk (x-(cN));have e2:u64V (x-(cN))=.int .u64 ((x:Int)-(cN:Int)):=by simp only[u64V];congr 1;omega
        rw[e2,hw2]at p2;have HS:=hdd (alE (c':=0) (d:=x-(cN)) hk hy.out.2.2 HE2.out (by have:=HX.out;omega));have HP:=hdd p2.1;have HB:=hdd (hB.out.trans p2.2);have hlt:¬(x:Int)<(cN:Int):=by omega
        clear p2 hR hB e2;go_wp2
        go_roundw
        case rel=>exact⟨m+1,0,ys.set m (x-(cN)),by go_num,rfl,by omega,by omega,hdd ⟨by rw[arJ,hy.out.1],hy.out.2.1.set m (by unfold B32;omega),HS.out⟩,HP,HB⟩
        case measure=>simp[intOf];omega
  . obtain rfl:m=N:=by omega
    have HV:Hid (val2 ys=val2 xs-val2 zs):=hdd (aoC hy.out.2.1 HO.out (hy.out.1.trans HN.out.symm) HT.out.1 HT.out.2 (by rw[HN.out];exact hy.out.2.2));have hRC:RowC w.heap.size wr (.slice (some ⟨r,0,none⟩) m cap) ys:=⟨hR.out,hy.out.2.1⟩;have hP:=hRC.natP (by rw[hy.out.1];omega);go_wp2_with fail
    refine(akV hP).mono ?_;rintro e w2⟨rfl,v,us,rfl,hv,ht,he,-,hs⟩;have HF:=hdd (show RetC w.heap.size w (val2 xs-val2 zs) (.returned v) _ from⟨v,us,rfl,hv,hs hy.out.2.1,ht,he.trans HV.out,hB.out⟩);clear hv ht he hs hR hB HV hP hRC;go_wp2;go_ret;exact HF.out
end Go.Proofs.YtebocijmegkfgaaGreatDoor
