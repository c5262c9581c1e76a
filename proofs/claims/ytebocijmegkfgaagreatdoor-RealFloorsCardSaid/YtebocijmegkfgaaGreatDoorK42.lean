/- A part of the proof: contracts of functions and plain laws (FlrN, FlrK). -/
import Derived.Test.YtebocijmegkfgaaGreatDoorK41
import Derived.Test.YtebocijmegkfgaaGreatDoorK30
import Derived.Test.YtebocijmegkfgaaGreatDoorK29
set_option linter.unusedVariables false
set_option linter.unusedSimpArgs false
set_option linter.unnecessarySimpa false
set_option maxHeartbeats 25600000
set_option maxRecDepth 100000
namespace Go.Proofs.YtebocijmegkfgaaGreatDoor
section
open Go.RowKit Go.Maps
open Rat renaming intCast_natCast->aqA,intCast_mul->aqB,le_of_lt->aqC,mul_one->aqD
variable{b:Bl}{d:Dy}{p:Nat->Prop}{v:Value}{w:World}
theorem amZ(hx:DyP p w v d)(hT:Tab w)(he:0<=d.exp)(hs:SmQ d):
 Calls Tryz.prog 68 #[v] w (RetZ w.heap.size w (flrD d)):=by
 obtain⟨R,hR⟩:∃R,flrD d=R:=⟨_,rfl⟩;rw[hR];obtain⟨k,hk⟩:∃k:Nat,d.exp=(k:Int):=⟨d.exp.toNat,by omega⟩;have hk1:k<=16777216:=by have:=hs.2;omega
 have hRR:d.man*((2^k:Nat):Int)=R:=by rw[<-hR];unfold flrD;rw[if_pos he,hk];rfl
 obtain⟨b,A,n,c,rfl,h⟩:=hx;obtain⟨ex,hex⟩:∃ex,d.exp=ex:=⟨_,rfl⟩;rw[hex]at hk he|-;rw[hk];obtain⟨w2,hw2,hb2,hs2,b1,b2⟩:=pro2 w (.cells #[.bool b,.slice A n c,.int .i64 (k:Int)] 121) (.cells #[Value.bool false,.slice none 0 0] 80);have HB:=hdd hb2;have B2:=hdd b2;have HS:=hdd hs2;have HF:=hdd (anW (n:=k) (h.below hb2) hk1 (by have:=hs.1;omega));rw[hRR]at HF;obtain⟨c0,c1,c2,-,-,-⟩:=cells3 b1;clear hb2 b1 b2 hs2 h hT hs hR hRR hex hk he;go_enter Tryz.func68,Tryz.ntmps68
 go_wp2_with fail
 refine HF.out.mono ?_;rintro e w9⟨hb9,v9,rfl,h⟩;obtain⟨b',A',n',c',rfl⟩:=h.shape;have B9:=hbl B2.out hb9;obtain⟨HF,hF⟩:=dB (HB.out.trans (hb9.mono HB.out.size)) (by omega) B9 h (g:=w.heap.size+1) (fun b hb=>by have:=HS.out;omega);obtain⟨e0,e1,e2,e3⟩:=aB B9;replace hF:=hdd hF;clear hb9 h B9;go_wp2;obtain⟨f0,f1,-,-⟩:=aB hF.out;refine bodyPost_ret (v:=.agg #[_,_]) (by simp[results,Tryz.results68,go_sem,f0,f1];first|exact⟨rfl,rfl⟩|rfl) rfl ?_;exact HF.out
theorem am0(hx:DyP p w v d)(hT:Tab w)(hs:SmQ d):
 Calls Tryz.prog 68 #[v] w (RetZ w.heap.size w (flrD d)):=by
 rcases Int.lt_or_le d.exp 0 with h|h
 . exact aaR hx hT h hs
 . exact amZ hx hT h hs
theorem anZ{q:Nat->Prop}{va vb:Value}{x y:Int}(hx:IntP p w va x)(hy:IntP q w vb y)(hL:bits x.natAbs+bits y.natAbs<=1073741824):
 Calls Tryz.prog 73 #[va,vb] w (RetZ w.heap.size w (x-y)):=by
 obtain⟨b1,A1,n1,c1,rfl⟩:=hx.shape;obtain⟨b2,A2,n2,c2,rfl⟩:=hy.shape;obtain⟨w3,hw3,hb3,hs3,o1,o2,o3⟩:=pro3 w (.cells #[.bool b1,.slice A1 n1 c1] 80) (.cells #[.bool b2,.slice A2 n2 c2] 80) (.cells #[Value.bool false,.slice none 0 0] 80);have HB:=hdd hb3;have B3:=hdd o3;have HS:=hdd hs3;have HBW:Below w3.heap.size w3 w3.drew:=(Below.refl _ _).drew;have HN:=hdd (ahB (w:=w3.drew) ((hy.below hb3).below HBW));have HX:=hdd (hx.below hb3);have HL:=hdd hL;obtain⟨c0,c1',-,-⟩:=aB o1;obtain⟨d0,d1,-,-⟩:=aB o2;replace c0:=cbl c0 HBW;replace c1':=cell_below c1' HBW nlr;replace d0:=cbl d0 HBW;replace d1:=cbl d1 HBW;clear hx hy hL hb3 hs3 o1 o2 o3;go_enter Tryz.func73,Tryz.ntmps73
 go_wp2_with fail
 have n1':w.heap.size+2≠w.heap.size:=by omega
 have n2':w.heap.size+2≠w.heap.size+1:=by omega
 go_region_held3 (fun w'=>w'.cell? ⟨w.heap.size,0,none⟩=some (.bool b1)/\w'.cell? ⟨w.heap.size,1,none⟩=some (.slice A1 n1 c1)/\w'.cell? ⟨w.heap.size+1,0,none⟩=some (.bool b2)/\w'.cell? ⟨w.heap.size+1,1,none⟩=some (.slice A2 n2 c2)) (go_keep)
  (first
  |(go_at_call 36
    refine HN.out.mono ?_;rintro r w5⟨hb,v5,rfl,hz⟩;have HB5:=hdd (aA HBW hb);have c0:=cbl c0 hb;have c1':=cell_below c1' hb nlr;have d0:=cbl d0 hb;have d1:=cbl d1 hb;have HP:=hdd (aeN (HX.out.below HB5.out) hz (by rw[Int.natAbs_neg];exact HL.out));obtain⟨b5,A5,n5,c5,rfl⟩:=hz.shape;clear hb hz)
  |(go_at_call 77
    refine HP.out.mono ?_;rintro r w6⟨hb,v6,rfl,hz⟩;have c0:=cbl c0 hb;have c1':=cell_below c1' hb nlr;have d0:=cbl d0 hb;have d1:=cbl d1 hb;have HSZ:=hdd HB5.out.size;have HB6:=hdd (HB5.out.trans (hb.mono HB5.out.size));have B6:=hdd (hbl B3.out HB6.out);obtain⟨b6,A6,n6,c6,rfl⟩:=hz.shape;have HZ:=hdd hz;obtain⟨e0,e1,e2,e3⟩:=aB B6.out;clear hb hz))
 obtain⟨HFF,hFF⟩:=dB (HB.out.trans (HB6.out.mono HB.out.size)) (by omega) B6.out HZ.out (g:=w.heap.size+2) (fun b hb=>by have:=HS.out;have:=HSZ.out;omega);replace hFF:=hdd hFF;rw[show x+-y=x-y from by omega]at HFF;go_wp2;obtain⟨f0,f1,-,-⟩:=aB hFF.out;refine bodyPost_ret (v:=.agg #[_,_]) (by simp[results,Tryz.results73,go_sem,f0,f1];first|exact⟨rfl,rfl⟩|rfl) rfl ?_;exact HFF.out
def IsFl(z:Int)(v:Re):Prop:=Re.rat (z:Rat)<=v/\v<Re.rat ((z:Rat)+1)
theorem alZ(d:Dy):((flrD d:Int):Rat)<=rv d/\rv d<((flrD d:Int):Rat)+1:=by
 unfold flrD rv;by_cases h:0<=d.exp
 . rw[if_pos h]
   obtain⟨k,hk⟩:∃k:Nat,d.exp=(k:Int):=⟨d.exp.toNat,by omega⟩;rw[hk,Int.toNat_natCast,eQ,aqB,aqA];exact⟨Rat.le_refl,by grind⟩
 . rw[if_neg h]
   obtain⟨k,hk⟩:∃k:Nat,-d.exp=(k:Int):=⟨(-d.exp).toNat,by omega⟩;rw[hk,Int.toNat_natCast];have h1:=nT d.exp k (by omega);rw[show(d.exp+(k:Int)).toNat=0 from by omega]at h1;have hu:=bA d.exp;have hP:(0:Rat)<((2^k:Nat):Rat):=sK k;have hPI:(0:Int)<((2^k:Nat):Int):=by have:=Nat.two_pow_pos k;omega
   have e:=Int.mul_ediv_add_emod d.man ((2^k:Nat):Int);have r0:=Int.emod_nonneg d.man (show((2^k:Nat):Int)≠0 by omega);have r1:=Int.emod_lt_of_pos d.man hPI;generalize d.man/((2^k:Nat):Int)=q at*;generalize d.man%((2^k:Nat):Int)=r at*;have e2:(d.man:Rat)=((2^k:Nat):Rat)*(q:Rat)+(r:Rat):=by rw[<-e,Rat.intCast_add,aqB,aqA]
   have r2:(0:Rat)<=(r:Rat):=Rat.intCast_nonneg.2 r0;have r3:(r:Rat)<((2^k:Nat):Rat):=by rw[<-aqA];exact Rat.intCast_lt_intCast.2 r1
   generalize ((2^k:Nat):Rat)=P at*;generalize p2 d.exp=u at*;have h1':u*P=1:=h1;have m1:=Rat.mul_nonneg r2 (aqC hu);have m2:=Rat.mul_lt_mul_of_pos_right r3 hu;rw[e2];have e3:(P*(q:Rat)+(r:Rat))*u=(q:Rat)+(r:Rat)*u:=by
    have:P*(q:Rat)*u=(q:Rat)*(u*P):=by grind
    rw[Rat.add_mul,this,h1',aqD]
   rw[e3];constructor<;>grind
theorem am7(h:fM b.lo b.hi 1=true):rv b.hi-rv b.lo<1:=by
 have e1:rv (u6 b.hi b.lo)=rv b.hi-rv b.lo:=by unfold u6;rw[wI,lZ];grind
 have l1:p2 (-1)<1:=by have:=aiU (show(-1:Int)<0 by decide);rwa[kK]at this
 unfold fM at h;rw[Bool.or_eq_true]at h;rcases h with h|h
 . have h0:(u6 b.hi b.lo).man=0:=Int.sign_eq_zero_iff_zero.1 (beq_iff_eq.1 h)
   have:=(aV (u6 b.hi b.lo)).2.2.2 h0;rw[e1]at this;grind
 . have h0:=of_decide_eq_true h
   have h2:=(afN (u6 b.hi b.lo) (mkDy 1 (-1))).2;have e2:rv (mkDy 1 (-1))=p2 (-1):=by rw[jW];grind
   rw[e1,e2]at h2;by_cases g:p2 (-1)<rv b.hi-rv b.lo
   . have:=h2.2 g;omega
   . have:=Rat.not_lt.1 g
     exact Std.lt_of_le_of_lt this l1
theorem apQ{v:Re}(h:In v b)(hc:cmpD (mkDy (flrD b.hi) 0) b.lo<0):IsFl (flrD b.hi) v:=by
 have h1:=(afN (mkDy (flrD b.hi) 0) b.lo).1.1 hc;rw[jW,kK,aqD]at h1;have h2:=alZ b.hi;exact⟨Re.le_trans (Re.rat_le.2 (aqC h1)) h.1,Re.lt_of_le_of_lt h.2 (Re.rat_lt.2 h2.2)⟩
theorem apF{v:Re}{c:Int}(h:In v b)(hn:fM b.lo b.hi 1=true)(hk:CmpR c v (Re.rat ((flrD b.hi:Int):Rat))):(c<0->IsFl (flrD b.hi-1) v)/\(¬c<0->IsFl (flrD b.hi) v):=by
 have h2:=alZ b.hi;have h3:=am7 hn;have e1:(((flrD b.hi-1:Int)):Rat)=((flrD b.hi:Int):Rat)-1:=by rw[Rat.intCast_sub];rfl
 have hup:=Re.lt_of_le_of_lt h.2 (Re.rat_lt.2 h2.2);rcases hk with ⟨rfl,hk⟩|⟨rfl,hk⟩|⟨rfl,hk⟩
 . exact⟨fun k=>absurd k (by decide),fun _=>⟨Re.le_of_lt hk,hup⟩⟩
 . refine⟨fun _=>⟨Re.le_trans (Re.rat_le.2 (by rw[e1];grind)) h.1,?_⟩,fun k=>absurd (by decide) k⟩
   rw[e1];have:((flrD b.hi:Int):Rat)-1+1=((flrD b.hi:Int):Rat):=by grind
   rw[this];exact hk
 . exact⟨fun k=>absurd k (by decide),fun _=>⟨by rw[hk];exact Re.le_refl _,hup⟩⟩
end
section
open Go.RowKit Go.Maps
open Re (rat)
variable{b:Bl}{sep z:Int}{v x y:Re}
theorem alR:x-y=0↔x=y:=⟨Re.eq_of_sub,fun h=>by rw[h,Re.sub_self]⟩
theorem al8{z:Re}(h:x<=y):x-z<=y-z:=by
 refine Re.sub_nonneg.1 ?_;rw[show y-z-(x-z)=y-x from by rw[Re.sub_def y z,Re.sub_def x z,Re.add_sub_add,Re.sub_self,Re.add_zero]];exact Re.sub_nonneg.2 h
abbrev sepZ(x:Ex)(z:Int)(k:Nat):Nat:=max ((uE x).1+1) ((uE x).2+bits z.natAbs+1)*2^k+1
theorem anG(h:z.natAbs<2^53):iZ (fl z)=bits z.natAbs/\jA (fl z)=0:=by
 obtain⟨h1,h2,h3⟩:=ajZ h;unfold iZ jA;rw[al5 h3];by_cases h0:z=0
 . rw[h0,aR];exact⟨rfl,rfl⟩
 . obtain⟨q1,q2,q3,q4,q5⟩:=alB h0 (by rw[aD];exact h)
   rw[if_neg q1,if_neg q1];unfold topD at q4;rw[if_neg q1]at q4;exact⟨by omega,by omega⟩
theorem an0{ns:List Nd}{i:Nat}{l:List Nat}{e:Ex}(ok:OkNs ns)(he:Is ns e i)(hI:IsB ns i l)(hden:DenR e v)(hz:bits z.natAbs<=45):v≠rat (z:Rat)->rat (p2 (-((sepZ e z (nRt ns l):Nat):Int)+1))<=Re.ab (v-rat (z:Rat)):=by
 intro h0;have hz2:z.natAbs<2^53:=Nat.lt_of_lt_of_le ((aD _ _).1 hz) (Nat.pow_le_pow_right (by omega) (by omega));have hpt:=xB hI he;have hro:=zN ok hI (fun i hi=>(hpt i hi).imp fun a h=>h.2) l.length nlr;rw[List.take_length]at hro;have hL:Lok (jS ns l):=by
  refine⟨hro.1,fun r hr=> ?_⟩;unfold jS at hr;obtain⟨x,hx,rfl⟩:=List.mem_map.1 (List.mem_reverse.1 hr);obtain⟨a,hs,ha⟩:=hpt x (List.mem_filter.1 hx).1;rw[iE ha];exact hs.den hden
 obtain⟨h1,h2,h3⟩:=ajZ hz2;have hl:DenR (li z) (rat (z:Rat)):=by
  have:=DenR.leaf (fl z);rwa[al5 h3,anT]at this
 have hd:=DenR.sub hden hl;have hne:v-rat (z:Rat)≠0:=fun h=>h0 (alR.1 h);have:=ah0 hL hd ⟨hro.2 i hI.rt e he,trivial⟩ hne;rw[aa3]at this;obtain⟨u1,u2⟩:=anG hz2;have e1:max (uE (.sub e (li z))).1 (uE (.sub e (li z))).2=max ((uE e).1+1) ((uE e).2+bits z.natAbs+1):=by
  simp only[uE,u1,u2];omega
 rw[e1]at this;unfold sepZ;generalize max ((uE e).1+1) ((uE e).2+bits z.natAbs+1)*2^nRt ns l=m at*;rw[show-((m+1:Nat):Int)+1=-(m:Int) by omega];exact this
theorem alC(d:Dy)(z:Int):rv (u6 d (mkDy z 0))=rv d-(z:Rat):=by unfold u6;rw[wI,lZ,anT];grind
theorem am8(h:In v b):In (v-rat (z:Rat)) ⟨u6 b.lo (mkDy z 0),u6 b.hi (mkDy z 0)⟩:=by
 constructor
 . show rat (rv (u6 b.lo (mkDy z 0)))<=_
   rw[alC,Re.rat_sub];exact al8 h.1
 . show _<=rat (rv (u6 b.hi (mkDy z 0)))
   rw[alC,Re.rat_sub];exact al8 h.2
theorem aoT(h:In v b)(k:0<(u6 b.lo (mkDy z 0)).man):CmpR 1 v (rat (z:Rat)):=by
 have h1:=(aV _).1.2 k;rw[alC]at h1;exact Or.inl ⟨rfl,Re.lt_of_lt_of_le (Re.rat_lt.2 (by grind)) h.1⟩
theorem aoU(h:In v b)(k:(u6 b.hi (mkDy z 0)).man<0):CmpR (-1) v (rat (z:Rat)):=by
 have h1:=(aV _).2.1.2 k;rw[alC]at h1;exact Or.inr (Or.inl ⟨rfl,Re.lt_of_le_of_lt h.2 (Re.rat_lt.2 (by grind))⟩)
theorem an1(h:In v b)(k1:gG (notD (u6 b.lo (mkDy z 0))) sep)(k2:gG (u6 b.hi (mkDy z 0)) sep)(hf:v≠rat (z:Rat)->rat (p2 (-sep+1))<=Re.ab (v-rat (z:Rat))):CmpR 0 v (rat (z:Rat)):=by
 have:=adJ (am8 (z:=z) h) k1 k2 (fun h0=>hf fun e=>h0 (alR.2 e));exact Or.inr (Or.inr ⟨rfl,alR.1 this⟩)
theorem anH{M W:Int}(h:In v b)(k:Acc M W b)(hW:sep+1<=W)(hf:v≠rat (z:Rat)->rat (p2 (-sep+1))<=Re.ab (v-rat (z:Rat))):
 0<(u6 b.lo (mkDy z 0)).man\/(u6 b.hi (mkDy z 0)).man<0\/(gG (notD (u6 b.lo (mkDy z 0))) sep/\gG (u6 b.hi (mkDy z 0)) sep):=by
 have hA:Acc (max (topD (u6 b.lo (mkDy z 0))) (topD (u6 b.hi (mkDy z 0)))) W ⟨u6 b.lo (mkDy z 0),u6 b.hi (mkDy z 0)⟩:=by
  have t1:=afO (u6 b.lo (mkDy z 0));have t2:=afO (u6 b.hi (mkDy z 0));have l1:=iB (Int.le_max_left (topD (u6 b.lo (mkDy z 0))) (topD (u6 b.hi (mkDy z 0))));have l2:=iB (Int.le_max_right (topD (u6 b.lo (mkDy z 0))) (topD (u6 b.hi (mkDy z 0))));refine⟨⟨by grind,by grind⟩,⟨by grind,by grind⟩,?_⟩;show rv (u6 b.hi (mkDy z 0))-rv (u6 b.lo (mkDy z 0))<=_;rw[alC,alC];have:=k.2.2;grind
 rcases tN (am8 (z:=z) h) hA hW (fun h0=>hf fun e=>h0 (alR.2 e))with h1|h1
 . have h1':(u6 b.lo (mkDy z 0)).man.sign=(u6 b.hi (mkDy z 0)).man.sign:=h1
   rcases Int.lt_trichotomy (u6 b.lo (mkDy z 0)).man 0 with g|g|g
   . right;left
     rw[Int.sign_eq_neg_one_of_neg g]at h1';exact Int.sign_eq_neg_one_iff_neg.1 h1'.symm
   . right;right
     rw[g]at h1';have g2:(u6 b.hi (mkDy z 0)).man=0:=Int.sign_eq_zero_iff_zero.1 h1'.symm;refine⟨Or.inl ?_,Or.inl (by omega)⟩;have:=(aV (notD (u6 b.lo (mkDy z 0)))).2.2;rw[lZ,(aV (u6 b.lo (mkDy z 0))).2.2.2 g]at this;have:=this.1 (by grind);omega
   . exact Or.inl g
 . exact Or.inr (Or.inr h1)
end
end Go.Proofs.YtebocijmegkfgaaGreatDoor
