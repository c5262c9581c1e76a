/- A part of the proof: contracts of functions and plain laws (FlrF, FtA, FeA, SymA, SymM, SymB, SymK, SymC, SpE, QlA, FtB, ShT, FlrT, FlrU, RunB, RlN). -/
import Derived.Test.YtebocijmegkfgaaGreatDoorK29
import Derived.Test.YtebocijmegkfgaaGreatDoorK09
import Derived.Test.YtebocijmegkfgaaGreatDoorK01
import Derived.RegionTactic
import Derived.Test.YtebocijmegkfgaaGreatDoorK21
import Derived.Test.YtebocijmegkfgaaGreatDoorK07
import Derived.Deep.Cut
import Derived.Deep.DeepCutAuto
import Derived.Shelf.Strings.Builder1
import Derived.Shelf.Strconv.Itoa1
import Derived.Test.YtebocijmegkfgaaGreatDoorProg
import Derived.Lib.Builder
import Derived.Lib.AppendStr
import Derived.Lib.UnsafeStr
import Derived.Laws.Externs
import Derived.Test.YtebocijmegkfgaaGreatDoorK04
import Derived.Test.YtebocijmegkfgaaGreatDoorK02
import Derived.Deep.AppendLies
set_option linter.unusedVariables false
set_option linter.unusedSimpArgs false
set_option maxHeartbeats 25600000
set_option maxRecDepth 100000
namespace Go.Proofs.YtebocijmegkfgaaGreatDoor
section
open Go.RowKit Go.Maps
variable{x:Ex}{z:Int}{j:Nat}
def akH(w:World)(z:Int)(e:Ending)(w':World):Prop:=Below w.heap.size w w'/\∃V,e=.returned (.tuple #[V,.nilIface])/\IntP (fun q=>w.heap.size<=q) w' V z
theorem aiK{bits:Int}{k:Nat}{b:Bl}(hc:CloE x bits j)(hk:k<=j)(hn:dA x (pw k)=some b):Okb b:=by
 obtain⟨-,h1,h2,h3,-⟩:=hc;have hp:=qD hk h3;have hp1:(1:Int)<=pw k:=(qD (Nat.le_refl k) (Nat.le_trans hk h3)).1;have hp2:pw k<=65536:=Int.le_trans hp.2.1 hp.2.2;exact(wW (by omega) (Int.le_trans (jY hp1 hp.2.1 x) h2) (kN hp1 h1 hn)).1
theorem ajV(h:bits z.natAbs<=1000):SmD (mkDy z 0):=pE (by omega) (by decide)
theorem adV{P:Ex->Prop}{B N:Nat}{w:World}{g i:Nat}{ns:List Nd}{q:Int}(hs:St P B N w g ns)(hx:Is ns x i)(hS:lJ P x q)(hc:CloE x 1 j)
 (hf:∀k b,k<=j->dA x (pw k)=some b->fM b.lo b.hi 1=true->b.hi.exp<0/\flrD b.hi=z/\cmpD (mkDy z 0) b.lo<0) (hz:bits z.natAbs<=1000):
 Calls Tryz.prog 30 #[numV g i] w (akH w z):=by
 obtain⟨w2,hw2,hb2,hs2,b1,b2⟩:=pro2 w (.cells #[.pointer (some ⟨g,0,none⟩),.int .i64 (i:Int)] 32) (.cells #[Value.bool false,.slice none 0 0] 80);obtain⟨c0,c1,-,-⟩:=aB b1;have HN:=hdd (agZ (hs.below hb2) hx hS hc (by decide));have HB:=hdd hb2;have B2:=hdd b2;have HS2:=hdd hs2;have HT2:=hdd (hs.tab.below hb2);have HF:=hdd hf;have HC:=hdd hc;have HZ:=hdd hz;clear hs hx hS hc hf hb2 b1 b2 hs2 hz;go_enter Tryz.func30,Tryz.ntmps30
 go_wp2_with fail
 refine HN.out.mono ?_;rintro e w3⟨k,bb,V,⟨hk,hne,hnw⟩,rfl,hb3,hbal⟩;have hok:=aiK HC.out hk hne;obtain⟨hf1,hf2,hf3⟩:=HF.out k bb hk hne hnw;obtain⟨e1,A1,n1,k1,e2,A2,n2,k2,rfl,i1,i2⟩:=id hbal;obtain⟨w4,hw4,hb4,hs4,b4⟩:=pro1 w3 (.cells #[.bool e1,.slice A1 n1 k1,.int .i64 bb.lo.exp,.bool e2,.slice A2 n2 k2,.int .i64 bb.hi.exp] 123);obtain⟨x0,x1,x2,x3,x4,x5⟩:=aG b4;have hb24:=hb3.trans (hb4.mono hb3.size);have HB4:=hdd (HB.out.trans (hb24.mono HB.out.size));have HT4:=hdd (HT2.out.below hb24);have B4:=hdd (hbl B2.out hb24);have HS4:Hid (w.heap.size+2<=w3.heap.size):=hdd (by have:=HS2.out;have:=hb3.size;omega);have HBL:=hdd (aaR (show DyP _ w4 (.agg #[.bool e2,.slice A2 n2 k2,.int .i64 bb.hi.exp]) bb.hi from⟨_,_,_,_,rfl,i2.below hb4⟩) HT4.out hf1 hok.1.2);rw[hf2]at HBL;have HLO:=hdd (show DyP _ w4 (.agg #[.bool e1,.slice A1 n1 k1,.int .i64 bb.lo.exp]) bb.lo from⟨_,_,_,_,rfl,i1.below hb4⟩);have HSM:Hid (SmD bb.lo):=hdd hok.1.1.smD;have HCM:=hdd hf3;have HSZ:Hid (w3.heap.size<w4.heap.size):=hdd (by omega)
 clear hb3 hb4 hs4 b4 hb24 hbal i1 i2 hok hf1 hf2 hf3 hk hne hnw HN HB B2 HS2 HT2 HF HC hw2;go_wp2_with fail
 refine HBL.out.mono ?_;rintro e w5⟨hb5,v5,rfl,hz5⟩;obtain⟨bz,Az,nz,kz,rfl⟩:=hz5.shape;obtain⟨w6,hw6,hb6,hs6,b6⟩:=pro1 w5 (.cells #[.bool bz,.slice Az nz kz] 80);obtain⟨y0,y1,-,-⟩:=aB b6;have hb46:=hb5.trans (hb6.mono hb5.size);replace x0:=cbl x0 hb46;replace x1:=cbl x1 hb46;replace x2:=cbl x2 hb46;have HZ6:=hdd (hz5.below hb6);have HL6:=hdd (HLO.out.below hb46);have HT6:=hdd (HT4.out.below hb46);have HB6:=hdd (HB4.out.trans (hb46.mono HB4.out.size));have B6:=hdd (hbl B4.out hb46);have HS5:Hid (w4.heap.size<=w5.heap.size):=hdd hb5.size;have hbd:Below w6.heap.size w6 w6.drew:=(Below.refl _ _).drew;have HBD:=hdd hbd;have HMK:=hdd (bW (e:=0) (HZ6.out.below hbd) (HT6.out.below hbd) (Nat.le_trans HZ.out (by decide)) (by decide));clear hb5 hb6 hs6 hb46 b6 hz5 HBL HB4 B4 HT4 HLO x3 x4 x5 hbd hw4;go_wp2_with fail
 clear hw6;replace x0:=cbl x0 HBD.out;replace x1:=cbl x1 HBD.out;replace x2:=cbl x2 HBD.out;replace y0:=cbl y0 HBD.out;replace y1:=cbl y1 HBD.out;have hne:w5.heap.size≠w3.heap.size:=by have:=HSZ.out;have:=HS5.out;omega
 generalize hp:w3.heap.size=p at*;generalize hr:w5.heap.size=r at*
 go_region_held3 (fun w'=>w'.cell? ⟨p,0,none⟩=some (.bool e1)/\w'.cell? ⟨p,1,none⟩=some (.slice A1 n1 k1)/\w'.cell? ⟨p,2,none⟩=some (.int .i64 bb.lo.exp)/\w'.cell? ⟨r,0,none⟩=some (.bool bz)/\w'.cell? ⟨r,1,none⟩=some (.slice Az nz kz)) (go_keep)
  (first
  |(go_at_call 69
    refine HMK.out.mono ?_;rintro r w7⟨hb7,v7,hz7⟩;obtain⟨rfl,hz7⟩:=hz7;have HB7:=hdd (HBD.out.trans hb7);have x0:=cbl x0 hb7;have x1:=cbl x1 hb7;have x2:=cbl x2 hb7;have y0:=cbl y0 hb7;have y1:=cbl y1 hb7;have HCP:=hdd (sJ (w:=w7) (hz7.weak (q:=(· <w7.heap.size)) fun _ _ h=>h) ((HL6.out.below HB7.out).weak (q:=(· <w7.heap.size)) fun _ _ h=>h) (fun _ h=>h) (fun _ h=>h) (ajV HZ.out) HSM.out);obtain⟨b7,A7,n7,c7,rfl,-⟩:=id hz7;clear hb7 hz7)
  |(go_at_call 70
    refine HCP.out.mono ?_;rintro r w8⟨rfl,hb8⟩;have HB8:=hdd (HB7.out.trans (hb8.mono HB7.out.size));have x0:=cbl x0 hb8;have x1:=cbl x1 hb8;have x2:=cbl x2 hb8;have y0:=cbl y0 hb8;have y1:=cbl y1 hb8;clear hb8))
 have hlt:=HCM.out;have B8:=hbl B6.out HB8.out;obtain⟨HFF,hF⟩:=dB (HB6.out.trans (HB8.out.mono HB6.out.size)) (by omega) B8 (HZ6.out.below HB8.out) (g:=w.heap.size+1) (fun b hb=>by have:=HS4.out;have:=HSZ.out;have:=HS5.out;omega);obtain⟨d0,d1,d2,d3⟩:=aB B8;replace hF:=hdd hF;clear B8;go_wp2;obtain⟨f0,f1,-,-⟩:=aB hF.out;obtain⟨h1,V,h2,h3⟩:=HFF.out;refine bodyPost_ret (v:=.tuple #[.agg #[_,_],_]) (by simp[results,Tryz.results30,go_sem,f0,f1];first|exact⟨⟨rfl,rfl⟩,rfl⟩|rfl) rfl ?_;injection h2 with h2;exact⟨h1,V,by rw[<-h2],h3⟩
end
section
open Go.RowKit Go.Maps
open Re (rat ofI ofN)
open Bool renaming and_eq_true->azC
variable{l m n:Nat}
inductive Sh where
 |leaf (n l:Nat)
 |add (a b:Sh)
 |mul (a b:Sh)
 |div (a b:Sh)
 |root (a:Sh)
 |lit (c:Ct) (k:Nat)
def Sh.ct (K:Nat):Sh->Ct
 | .leaf n l=>⟨n,65536,n,l,1100⟩
 | .add a b=>jB 65536 (a.ct K) (b.ct K)
 | .mul a b=>akD 65536 (a.ct K) (b.ct K)
 | .div a b=>akE 65536 K (a.ct K) (b.ct K)
 | .root a=>mU 65536 (a.ct K)
 | .lit c _=>c
def Sh.cost:Sh->Nat
 | .leaf n l=>n+l
 | .add a b=>1+a.cost+b.cost
 | .mul a b=>a.cost+b.cost
 | .div a b=>a.cost+b.cost
 | .root a=>a.cost
 | .lit _ k=>k
def Sh.top (K:Nat)(s:Sh):Bool:=decide (K<=15/\s.cost<=1000000/\(s.ct K).s<=4000000/\max (s.ct K).u (s.ct K).l*2^K+1<=32768/\((max (s.ct K).u (s.ct K).l*2^K+2:Nat):Int)<=(s.ct K).W)
def Sh.ok (K:Nat):Sh->Bool
 | .leaf n l=>decide (n<=53/\l<=1000)
 | .add a b=>a.ok K&&b.ok K
 | .mul a b=>a.ok K&&b.ok K
 | .div a b=>a.ok K&&(b.ok K&&(b.top K&&decide (ctG K (b.ct K)<=(b.ct K).W)))
 | .root a=>a.ok K&&a.top K
 | .lit ..=>true
structure FitC(L:List Ex)(s:Sh)(e:Ex)(v:Re):Prop where
 vl:Vl L 65536 e v (s.ct L.length)
 cost:cB e<=s.cost
 gd:AllGd e
def Fit(L:List Ex)(s:Sh)(e:Ex)(v:Re):Prop:=s.ok L.length=true->FitC L s e v
theorem ajW:(32*2^11:Int)=65536:=by decide
section
variable{L:List Ex}{s t:Sh}{a b:Ex}{x y z:Re}
theorem FitC.good (h:FitC L s a x)(ht:s.top L.length=true):Gd L.length 11 a x:=by
 obtain⟨h1,h2,h3,h4,h5⟩:=of_decide_eq_true ht;have hv:=h.vl;rw[<-ajW]at hv;exact Gd.of hv nlr (by omega) h1 (Nat.le_trans h.cost h2) h3 h4 h5
theorem Fit.add (h:Fit L s a x)(g:Fit L t b y):Fit L (.add s t) (.add a b) (x+y):=fun k=>by
 simp only[Sh.ok,azC]at k;have h:=h k.1;have g:=g k.2;exact⟨Vl.add (by omega) h.vl g.vl,by have:=h.cost;have:=g.cost;simp only[cB,Sh.cost];omega,h.gd.add g.gd⟩
theorem Fit.sub (h:Fit L s a x)(g:Fit L t b y):Fit L (.add s t) (.sub a b) (x-y):=fun k=>by
 simp only[Sh.ok,azC]at k;have h:=h k.1;have g:=g k.2;exact⟨Vl.sub (by omega) h.vl g.vl,by have:=h.cost;have:=g.cost;simp only[cB,Sh.cost];omega,h.gd.sub g.gd⟩
theorem Fit.root (h:Fit L s a x)(h0:0<=y)(hy:y*y=x)(hm:Ex.root a∈L):Fit L (.root s) (.root a) y:=fun k=>by
 simp only[Sh.ok,azC]at k;have h:=h k.1;exact⟨Vl.root (by omega) h.vl h0 hy hm,by have:=h.cost;simp only[cB,Sh.cost];omega,h.gd.root (h.good k.2)⟩
theorem Fit.sgn {P:Ex->Prop}(h:Fit L s a x)(hs:(s.ok L.length&&s.top L.length)=true):lJ P a (Re.sgn x):=by
 rw[azC]at hs;exact agW ((h hs.1).good hs.2) (h hs.1).gd
end
theorem ag0{b:Nat}{x:Int}(hl:l+m=1074)(hv:fv b=x*((2^m:Nat):Int)):leafD b=mkDy x (-(l:Int)):=by
 unfold leafD;rw[hv];have:=aeU x (-(l:Int)) m;rwa[show-(l:Int)-(m:Int)=-1074 by omega]at this
theorem akI{x:Int}(h:x.natAbs<2^n):-p2 n<(x:Rat)*p2 (-(l:Int))/\(x:Rat)*p2 (-(l:Int))<p2 n:=by
 have e:=eQ n;have h1:p2 (-(l:Int))<=1:=by rw[<-kK];exact iB (by omega)
 have h0:=bA (-(l:Int));have h2:(x:Rat)<p2 n/\-p2 n<(x:Rat):=by
  rw[e,<-Rat.intCast_natCast,<-Rat.intCast_neg];exact⟨Rat.intCast_lt_intCast.2 (by omega),Rat.intCast_lt_intCast.2 (by omega)⟩
 generalize p2 (-(l:Int))=u at*;generalize (x:Rat)=q at*;generalize p2 (n:Int)=m at*;have hm:0<m:=by grind
 have a1:0<=(m-q)*u:=Rat.mul_nonneg (by grind) (by grind);have a2:0<=(m+q)*u:=Rat.mul_nonneg (by grind) (by grind);have a3:0<=m*(1-u):=Rat.mul_nonneg (by grind) (by grind);have a4:0<(m-q)*u:=Rat.mul_pos (by grind) h0;have a5:0<(m+q)*u:=Rat.mul_pos (by grind) h0;constructor<;>grind
theorem Fit.dleaf {L:List Ex}{b:Nat}{x:Int}(hb:b<18446744073709551616)(hf:fin b)(hl:l+m=1074)(hv:fv b=x*((2^m:Nat):Int))(h:x.natAbs<2^n):Fit L (.leaf n l) (.leaf b) (rat ((x:Rat)*p2 (-(l:Int)))):=fun k=>by
 have k:=of_decide_eq_true k;have e:=ag0 hl hv;have er:rv (leafD b)=(x:Rat)*p2 (-(l:Int)):=by rw[e,jW]
 obtain⟨r1,r2⟩:=akI (l:=l) h;have h3:(leafD b).man≠0->-(l:Int)<=(leafD b).exp/\topD (leafD b)<=n:=fun hn=>⟨by rw[e]at hn|-;exact kZ hn,o9 hn (by rw[er];exact r1) (by rw[er];exact r2)⟩;have h4:bits (leafD b).man.natAbs<=n:=by
  rw[e];exact Nat.le_trans (nJ x _) ((aD _ _).2 h)
 have hu:iZ b<=n:=by
  unfold iZ;split
  . omega
  . rename_i hn
    have:=h3 hn;unfold topD at this;rw[if_neg hn]at this;omega
 have hl:jA b<=l:=by
  unfold jA;split
  . omega
  . rename_i hn;have:=h3 hn;omega
 have hv:=Vl.leaf (L:=L) (P:=65536) (M:=n) hf hb ⟨by rw[e];exact Canon.mk _ _,by omega,fun hn=>by have:=h3 hn;omega⟩ ⟨by rw[er];grind,by rw[er];grind⟩ hu hl;rw[er]at hv;exact⟨hv,by simp only[cB,Sh.cost];omega,AllGd.leaf b⟩
theorem Fit.leaf {L:List Ex}{b:Nat}{x:Int}(n:Nat)(hb:b<18446744073709551616)(hf:fin b)(hv:fv b=x*(U74:Int))(h:x.natAbs<2^n):Fit L (.leaf n 0) (.leaf b) (ofI x):=by
 obtain⟨u,hu,hU⟩:=iK;have:=Fit.dleaf (L:=L) (n:=n) (l:=0) (x:=x) hb hf (m:=u) (by omega) (by rw[hv,hU]) h;rwa[show-((0:Nat):Int)=0 by rfl,kK,Rat.mul_one]at this
end
section
open Ieee
open Int renaming natCast_mul->azD,neg_mul->azE,lt_or_le->azF
variable{r:Nat}
theorem aiL(j:Nat):∀m:Nat,m<2^53->j<=1990->∃c,c<infR/\mg c=m*2^j:=by
 induction j with
 |zero=>
  intro m hm _;exact⟨m,by unfold infR;omega,by rw[jN m hm,Nat.pow_zero,Nat.mul_one]⟩
 |succ j ih=>
  intro m hm hj;rcases Nat.lt_or_ge m (2^52)with h|h
  . obtain⟨c,h1,h2⟩:=ih (m*2) (by omega) (by omega)
    exact⟨c,h1,by rw[h2,Nat.pow_succ,Nat.mul_assoc,Nat.mul_comm 2]⟩
  . refine⟨(j+2)*2^52+(m-2^52),by unfold infR;omega,?_⟩
    rw[iH _ (by omega)];have e1:((j+2)*2^52+(m-2^52))/2^52=j+2:=by omega
    have e2:((j+2)*2^52+(m-2^52))%2^52=m-2^52:=by omega
    rw[e1,e2,show j+2-1=j+1 by omega,show 2^52+(m-2^52)=m by omega]
def RepF(N:Int):Prop:=∃c:Int,-(infR:Int)<c/\c<infR/\fvr c=N
theorem ajX{x:Int}(j:Nat)(h:x.natAbs<2^53)(hj:j<=1990):RepF (x*(2^j:Nat)):=by
 obtain⟨c,h1,h2⟩:=aiL j x.natAbs h hj;have hc:(mg c:Int)=(x.natAbs:Int)*(2^j:Nat):=by rw[h2,azD]
 rcases azF x 0 with g|g
 . by_cases h0:c=0
   . subst h0
     rw[nM]at hc;refine⟨0,by unfold infR;omega,by unfold infR;omega,?_⟩;rw[dI,show x=-(x.natAbs:Int) by omega,azE,<-hc];rfl
   . refine⟨-(c:Int),by omega,by omega,?_⟩
     unfold fvr;rw[if_pos (by omega),show(-(c:Int)).natAbs=c by omega,hc,<-azE,show-(x.natAbs:Int)=x by omega]
 . refine⟨(c:Int),by omega,by omega,?_⟩
   unfold fvr;rw[if_neg (by omega),show((c:Int)).natAbs=c by omega,hc,show(x.natAbs:Int)=x by omega]
theorem ajY(h1:-(infR:Int)<sr r)(h2:sr r<infR):fin r:=by
 unfold sr at h1 h2;unfold fin;split at h1<;>simp_all<;>omega
theorem Near.exact {t:Nat}{N M:Int}(h:Near r N t)(hM:RepF M)(hN:N=M*(2^(t-1074):Nat)):fin r/\fv r=M:=by
 obtain⟨c,c1,c2,rfl⟩:=hM;have e:sr r=c:=by
  have h1:=h.2.1 c (by omega) (by omega) (by omega);have h2:=h.2.2 c (by omega) (by omega) (by omega);omega
 exact⟨ajY (by omega) (by omega),by unfold fv;rw[e]⟩
theorem zQ{k:Int}(h:k.natAbs<2^53):FloatKind.f64.nearest k<18446744073709551616/\fin (FloatKind.f64.nearest k)/\fv (FloatKind.f64.nearest k)=k*(2^1074:Nat):=by
 have e:FloatKind.f64.nearest k=double.nearest (decide (k<0)) k.natAbs 0:=rfl;rw[e];have hn:=fV (decide (k<0)) k.natAbs 0 1074 (by omega) (by omega) (k*(2^1074:Nat)) (by
  have:(0+((1074:Nat):Int)).toNat=1074:=by omega
  rw[this];generalize 2^1074=M;rcases azF k 0 with g|g
  . rw[if_pos (by simpa using g),azD,<-azE,show-(k.natAbs:Int)=k by omega]
  . rw[if_neg (by simpa using g),azD,show(k.natAbs:Int)=k by omega])
 obtain⟨h1,h2⟩:=hn.exact (ajX 1074 h (by omega)) (by rw[show(2^(1074-1074):Nat)=1 by decide];omega);exact⟨double.nearest_lt ..,h1,h2⟩
end
section
open Go.RowKit
inductive SC where
 |v (x:Value)
 |id (n:Nat)
 |ptr (b off:Nat)
 |sl (b len:Nat)
inductive SW where
 |c (x:SC)
 |agg (l:List SC)
inductive SV where
 |w (x:SW)
 |tup (l:List SW)
section
variable(ν:Nat->Nat)
end
section
variable{ν ν':Nat->Nat}
end
structure Wk(E:Type) where
 G:Nat->List (E×Nat)->List (Nat×Obj)->World->Prop
 weak:∀{c c' K K' l l' w},G c K l w->c<=c'->(∀p∈K',p∈K)->(∀p∈l',p∈l)->(l'.map (·.1)).Nodup->G c' K' l' w
 heap:∀{c K l w},G c K l w->∀p∈l,w.heap[p.1]? =some p.2
 alloc:∀{c K l w},G c K l w->∀o,G c K ((w.heap.size,o)::l) (w.alloc o)
 write:∀{c K l w w' b o o'},G c K ((b,o)::l) w->w.grownBy w' (some b)->w'.heap[b]? =some o'->G c K ((b,o')::l) w'
 drew:∀{c K l w},G c K l w->G c K l w.drew
structure Blk where
 b:Nat
 T:TypeId
 init:List SC
 st:Option (Nat×List SC)
structure Spec(E:Type) where
 ops:Array Oper
 val:Nat->SV
 cr:Nat->Option Nat
 know:List (Nat×E)
 blocks:List Blk
 cost:Nat->Nat
 D:Nat->List Nat
 out:List (Nat×SV)
section
variable{E:Type}(S:Spec E)(W:Wk E){P:Program}
variable{S W}
section
variable{lst lst':Nat->Bool}{ν ν':Nat->Nat}{i:Nat}
end
section
variable{c0:Nat}{a0:Act}{ν0:Nat->Nat}{listed:Array Bool}{a:Act}{w:World}{i:Nat}
end
end
section
variable{P:Program}{w:World}{b off:Nat}{T:TypeId}{cs:List Value}
def splice(cs:List Value)(k:Nat)(vs:List Value):List Value:=cs.take k++vs++cs.drop (k+vs.length)
theorem aiM(w:World)(row:Option Nat):w.grownBy w row:=⟨rfl,rfl,rfl,Nat.le_refl _,fun _ _ _=>rfl⟩
end
section
variable{E:Type}{S:Spec E}{W:Wk E}{P:Program}
variable{Q:Exit->Act->World->Prop}{c0:Nat}{a0:Act}{ν0:Nat->Nat}
/-! operands -/
section
variable{listed:Array Bool}{a:Act}{w:World}{i:Nat}{o:Oper}{ν:Nat->Nat}
end
end
section
variable{E:Type}{S:Spec E}{W:Wk E}{P:Program}{Q:Exit->Act->World->Prop}{c0:Nat}{a0:Act}{ν0:Nat->Nat}{i:Nat}{o:Oper}
end
end
section
open Go.RowKit Go.Maps
section
variable{S:Spec Ex}{w0:Bs}{g c0:Nat}{a0:Act}{ν0:Nat->Nat}{i:Nat}{Q:Exit->Act->World->Prop}
section
section
end
end
end
section
variable{s:Bs}{W:World}{g N i j k i' j' k':Nat}{K:List (Ex×Nat)}{l:List (Nat×Obj)}{x px py qx qy rx ry:Ex}{q:Int}
end
section
end
end
section
open Go.RowKit Go.Maps
open Re (rat ofI ofN)
section
variable{L:List Ex}{A B C D A' B' C':Ex}{a b c d a' b' c':Re}{i j k l i' j' k':Nat}
end
def fl(k:Int):Nat:=FloatKind.f64.nearest k
abbrev li(k:Int):Ex:=.leaf (fl k)
theorem ajZ{k:Int}(h:k.natAbs<2^53):fl k<18446744073709551616/\fin (fl k)/\fv (fl k)=k*(U74:Int):=by
 obtain⟨h1,h2,h3⟩:=zQ h;obtain⟨u,hu,hU⟩:=iK;exact⟨h1,h2,by rw[hU,hu];exact h3⟩
theorem xF{L:List Ex}{k:Int}(n:Nat)(h:k.natAbs<2^n)(hn:n<=53):Fit L (.leaf n 0) (li k) (rat (k:Rat)):=by
 obtain⟨h1,h2,h3⟩:=ajZ (k:=k) (Nat.lt_of_lt_of_le h (Nat.pow_le_pow_right (by omega) hn));exact Fit.leaf n h1 h2 h3 h
section
variable{L:List Ex}{s t:Sh}{a b:Ex}{p q:Rat}
end
end
end Go.Proofs.YtebocijmegkfgaaGreatDoor
namespace Go.Proofs
open Go.Shelf
def Tryz.lays169_ren:Go.Shelf.Ren:=⟨fun|169=>157|n=>n,fun|70=>227|9=>9|0=>0|72=>230|37=>228|127=>270|3=>3|5=>5|n=>n,fun|n=>n⟩
theorem Tryz.lays169:Go.Proofs.Lays.n169 Tryz.prog Tryz.lays169_ren:={
 mixed:=by kernel_rfl
 f169:=Tryz.func157.trans (congrArg some (by kernel_rfl))
 t0:=Tryz.underlying0
 a0:=Tryz.isAgg0
 z0:=Tryz.sizeOf0
 v0:=Tryz.zeroValue0
 t3:=Tryz.underlying3
 a3:=Tryz.isAgg3
 z3:=Tryz.sizeOf3
 v3:=Tryz.zeroValue3
 t9:=Tryz.underlying9
 a9:=Tryz.isAgg9
 z9:=Tryz.sizeOf9
 v9:=Tryz.zeroValue9
 t37:=Tryz.underlying228
 a37:=Tryz.isAgg228
 z37:=Tryz.sizeOf228
 v37:=Tryz.zeroValue228
 t70:=Tryz.underlying227
 a70:=Tryz.isAgg227
 z70:=Tryz.sizeOf227
 v70:=Tryz.zeroValue227
 t72:=Tryz.underlying230
 a72:=Tryz.isAgg230
 z72:=Tryz.sizeOf230
 v72:=Tryz.zeroValue230
 t127:=Tryz.underlying270
 a127:=Tryz.isAgg270
 z127:=Tryz.sizeOf270
 v127:=Tryz.zeroValue270}
theorem Tryz.Builder_Extra_169:Builder.Extra Tryz.prog Tryz.lays169_ren:={
 sizeBuilder:=by kernel_rfl
 liesBuilder:=by kernel_rfl
 t5:=Tryz.underlying5
 a5:=Tryz.isAgg5
 z5:=Tryz.sizeOf5
 v5:=Tryz.zeroValue5
 infoByte:=by kernel_rfl
 cellsByte:=by kernel_rfl
 sizeByte:=by kernel_rfl
 neB5:=by decide}
open Go.RowKit in
theorem Tryz.Builder_String (B b:Nat)(l:List UInt8)(w:World)(h:Lib.IsBuilder 230 5 B b (Lib.byteCells l) w)(h0:l≠[]):
 Calls Tryz.prog 157 #[.pointer (some ⟨b,0,none⟩)] w fun e w'=>e=.returned (.string ⟨l.toArray⟩)/\Below B w w':=Any.Builder_String Tryz.lays169 Tryz.Builder_Extra_169 B b l w h h0
def Tryz.lays283_ren:Go.Shelf.Ren:=⟨fun|283=>235|n=>n,fun|3=>3|9=>9|4=>4|n=>n,fun|n=>n⟩
theorem Tryz.lays283:Go.Proofs.Lays.n283 Tryz.prog Tryz.lays283_ren:={
 mixed:=by kernel_rfl
 f283:=Tryz.func235.trans (congrArg some (by kernel_rfl))
 t3:=Tryz.underlying3
 a3:=Tryz.isAgg3
 z3:=Tryz.sizeOf3
 v3:=Tryz.zeroValue3
 t4:=Tryz.underlying4
 a4:=Tryz.isAgg4
 z4:=Tryz.sizeOf4
 v4:=Tryz.zeroValue4
 t9:=Tryz.underlying9
 a9:=Tryz.isAgg9
 z9:=Tryz.sizeOf9
 v9:=Tryz.zeroValue9}
open Go.Lib in
theorem Tryz.internal_strconv_small (i:Nat)(h:i<100)(w:World):
 Calls Tryz.prog 235 #[.int .i64 i] w fun e w'=>e=.returned (.string ⟨(Lib.decDigits i).toArray⟩)/\w'=w:=Any.internal_strconv_small Tryz.lays283 i h w
end Go.Proofs
namespace Go.Proofs.YtebocijmegkfgaaGreatDoor
section
open Go.RowKit Go.Shelf
variable{b n:Nat}{w:World}
def dgS(n:Nat):ByteArray:=⟨(Lib.decDigits n).toArray⟩
theorem ag1(h:n<100)(w:World):Calls Tryz.prog 199 #[.int .u64 n,.int .i64 10] w (fun e w'=>e=.returned (.string (dgS n))/\w'=w):=by
 have hlt:(n:Int)<100:=by omega
 have hw:IntKind.i64.wrap (n:Int)=n:=by simp only[IntKind.wrap,show IntKind.i64.signed=true from rfl,Bool.true_and,decide_eq_true_eq,show(2:Int)^IntKind.i64.bits=18446744073709551616 from rfl,show(2:Int)^(IntKind.i64.bits-1)=9223372036854775808 from rfl];split<;>omega
 have HS:Hid (Calls Tryz.prog 235 #[.int .i64 n] w (fun e w'=>e=.returned (.string (dgS n))/\w'=w)):=hdd (Tryz.internal_strconv_small n h w);go_enter Tryz.func199,Tryz.ntmps199
 go_wp2_with fail
 refine HS.out.mono ?_;rintro e w'⟨rfl,rfl⟩;go_wp2;go_ret;exact⟨rfl,rfl⟩
theorem aiN(h:n<100)(w:World):Calls Tryz.prog 154 #[.int .u64 n,.int .i64 10] w (fun e w'=>e=.returned (.string (dgS n))/\w'=w):=by
 have HS:=hdd (ag1 h w);go_enter Tryz.func154,Tryz.ntmps154
 go_wp2_with fail
 refine HS.out.mono ?_;rintro e w'⟨rfl,rfl⟩;go_wp2;go_ret;exact⟨rfl,rfl⟩
theorem aa6(hb:w.heap[b]? =some (.cells #[.pointer none,.slice none 0 0] 230 (0,0))):
 Calls Tryz.prog 200 #[.pointer (some ⟨b,0,none⟩)] w fun e w'=>e=.returned (.tuple #[])/\w'=w.setCell ⟨b,0,none⟩ (.pointer (some ⟨b,0,none⟩)):=by
 obtain⟨c0,c1,f0,f1⟩:=aB hb;have hsh:w.shape? b=some (230,2):=by simp[World.shape?,hb]
 obtain⟨j,hj,hjs⟩:∃j,Tryz.prog.info? 230=some j/\j.size=2:=⟨_,rfl,by kernel_rfl⟩;go_enter Tryz.func200,Tryz.ntmps200
 have hu:=run_underlying Tryz.underlying227;go_wp2;rw[Lib.run_to_unsafe w ⟨b,0,none⟩ Tryz.underlying227 Tryz.underlying299 hj (by rw[hjs];decide) hsh (Nat.zero_lt_succ 1)];simp only[Result.andThen];rw[Oper.upon_value];go_wp2;rw[run_callFunc_extern Tryz.func239 (by kernel_rfl) (by kernel_rfl) (by kernel_rfl) (e:=Extern.AbiNoEscape.same) (by kernel_rfl)];rw[Lib.run_noEscape];simp only[Result.andThen];rw[Oper.upon_value];go_wp2;rw[Lib.run_from_unsafe w ⟨b,0,none⟩ Tryz.underlying299 Tryz.underlying227 hj hsh (by kernel_rfl)];simp only[Result.andThen];rw[Oper.upon_value];go_wp2
 go_end0
 exact⟨rfl,rfl⟩
theorem aiO:(Tryz.prog.info? 5).map (fun i=>(i.zero,i.size,i.bytes))=some (some (.int .u8 0),1,1):=by kernel_rfl
theorem ag2{B:Nat}{s:ByteArray}(hB:B<=b)(hb:w.heap[b]? =some (.cells #[.pointer none,.slice none 0 0] 230 (0,0)))(hs:s.size<=1000):
 Calls Tryz.prog 155 #[.pointer (some ⟨b,0,none⟩),.string s] w fun e w'=>e=.returned (.tuple #[.int .i64 s.size,.nilIface])/\Lib.IsBuilder 230 5 B b (Lib.strCells s) w'/\Below B w w':=by
 obtain⟨i0,hi,hz0,hz1,hz2⟩:=info_parts aiO;have HC:=hdd (aa6 hb);have hlt:b<w.heap.size:=(Array.getElem?_eq_some_iff.1 hb).1;have hbk:=(set2 hb (.pointer (some ⟨b,0,none⟩)) (.slice none 0 0));have hbk':(w.setCell ⟨b,0,none⟩ (.pointer (some ⟨b,0,none⟩))).heap[b]? =some (.cells #[.pointer (some ⟨b,0,none⟩),.slice none 0 0] 230 (0,0)):=by
  have h':w.heap[b]=.cells #[.pointer none,.slice none 0 0] 230 (0,0):=(Array.getElem?_eq_some_iff.1 hb).2;simp[World.setCell,hlt,Array.getElem_modify,h']
 have hb1:Below B w (w.setCell ⟨b,0,none⟩ (.pointer (some ⟨b,0,none⟩))):=(Below.refl B w).setCell (p:=⟨b,0,none⟩) hB _;have HB1:=hdd hb1;have HBK:=hdd hbk';have HSZ:Hid (B<=w.heap.size):=hdd (by omega);clear hb1 hbk hbk' hb;go_enter Tryz.func155,Tryz.ntmps155
 go_wp2_with fail
 refine HC.out.mono ?_;rintro e w1⟨rfl,rfl⟩;generalize w.setCell ⟨b,0,none⟩ (.pointer (some ⟨b,0,none⟩))=w1 at*;obtain⟨c0,c1,f0,f1⟩:=aB HBK.out;have hown:w1.ownsRow B 5 1 (.slice none 0 0) 0 []:=⟨rfl,Or.inl ⟨rfl,rfl⟩⟩;go_wp2_with (at_builtin;refine Lib.wpList_append_own_string _ rfl _ _ 228 9 rfl B 5 i0 Tryz.underlying228 Tryz.underlying9 hi hz0 hz1 hz2 _ _ _ rfl hown s rfl ?c3 ?c4 ?c5 ?_)
 case c3=>unfold maxLen;omega
 case c4=>omega
 case c5=>have:=HB1.out.size;have:=HSZ.out;omega
 intro v' w2 hown' hgrow _;have hb2:w2.heap[b]? =some (.cells #[.pointer (some ⟨b,0,none⟩),.slice none 0 0] 230 (0,0)):=by
  rw[hgrow.block b (Nat.lt_of_lt_of_le hlt HB1.out.size) (by simp[Value.ownBlock])];exact HBK.out
 obtain⟨d0,d1,g0,g1⟩:=aB hb2;obtain⟨ao,n',cap,rfl⟩:∃ao n' cap,v'=.slice ao n' cap:=by
  rcases hown'.2 with ⟨hv,_⟩|⟨g,cap,cur,hv,_⟩
  . exact⟨_,_,_,hv⟩
  . exact⟨_,_,_,hv⟩
 have HF:=hdd (And.intro (Lib.BuilderAt.put (T:=230) (e:=5) hB hb2 (bs':=Lib.strCells s) (by simpa[Lib.strCells_length]using hown') (by decide)) ((HB1.out.grown hgrow (by have:=HB1.out.size;have:=HSZ.out;omega) (fun k hk=>by simp[Value.ownBlock]at hk)).setCell (p:=⟨b,1,none⟩) hB (.slice ao n' cap)));clear hown' hgrow hown hb2;go_wp2
 go_ret2
 exact⟨rfl,Or.inr HF.out.1,HF.out.2⟩
end
section
open Go.RowKit
open _root_.Array renaming getElem?_eq_some_iff->azG
variable{xs:List Nat}{m:Nat}{p:Nat->Prop}{va:Value}{w:World}
theorem adW(ho:OkL xs)(ht:Tr xs)(hv:val xs=m)(h0:m≠0)(hm:m<B64):xs=[m]:=by
 cases xs with
 |nil=>simp[val]at hv;omega
 |cons a t=>
  cases t with
  |nil=>simp[val]at hv;rw[hv]
  |cons b t=>
   have h1:=fD (a::b::t) ht (by simp);rw[hv]at h1;have h2:B64^1<=B64^((a::b::t).length-1):=Nat.pow_le_pow_right (by decide) (by simp);rw[Nat.pow_one]at h2;omega
def Own1(B:Nat)(w:World)(v:Value)(u:Value):Prop:=∃r cap cur,v=.slice (some ⟨r,0,none⟩) 1 cap/\B<=r/\w.heap[r]? =some (.cells cur 134 (0,0))/\cur[0]? =some u/\1<=cap/\cap<=maxLen/\cur.size=cap*1
theorem ab6{B:Nat}{g cap:Nat}{u:Value}(h:w.ownsRow B 134 1 (.slice (some ⟨g,0,none⟩) 1 cap) 1 [u]):Own1 B w (.slice (some ⟨g,0,none⟩) 1 cap) u:=by
 rcases h.2 with ⟨e,-⟩|⟨g1,c1,cur,e,h0,h1,h2,h3,h4,h5⟩
 . simp at e
 . simp only[Value.slice.injEq,Option.some.injEq,Addr.mk.injEq]at e
   obtain⟨⟨rfl,-⟩,-,rfl⟩:=e;refine⟨g,cap,cur,rfl,h0,h1,?_,h2,h3,h4⟩;have:=congrArg (·[0]?) h5;simpa using this
theorem aiP(hx:NatP p w va xs)(hv:val xs=m)(h0:m≠0)(hm:m<B64):
 Calls Tryz.prog 76 #[va] w (fun e w'=>∃v,e=.returned v/\Own1 w.heap.size w' v (.int .u64 m)/\Below w.heap.size w w'):=by
 obtain⟨i0,hi,hz0,hz1,hz2⟩:=info_parts mW;go_enter Tryz.func76,Tryz.ntmps76
 go_wp2_with fail
 refine(aH hx).mono ?_;rintro e w1⟨rfl,v1,xs1,rfl,hv1,ht1,hval1,-⟩;obtain rfl:=adW hv1.ok ht1 (hval1.trans hv) h0 hm;obtain⟨A,c,rfl,-,-,-,h5⟩:=hv1;obtain⟨b,off,rfl,-,-,hc⟩:=h5 Nat.one_pos;have hc0:=hc 0 Nat.one_pos;clear hx hc h5 hval1 ht1;go_wp2_with (at_builtin;refine wpList_append_lies _ rfl _ _ 78 rfl w.heap.size 134 i0 (.int .u64 0) 1 8 Tryz.underlying78 hi hz0 hz1 hz2 rfl (by decide) _ _ _ rfl (World.ownsRow_nil w _ _ _) ⟨b,off,none⟩ 1 c [.int .u64 m] rfl rfl ?c1 ?c2 (by decide) ?c3 ?c4 nlr _ rfl ?_)
 case c1=>
  intro j u hj
  match j,hj with
  |0,hj=>simp at hj;subst hj;simpa[Addr.add,lim,lx]using hc0
 case c2=>intro u hu;simp at hu;subst hu;rfl
 case c3=>unfold maxLen;omega
 case c4=>omega
 intro g cap w' o1 o2 o3 o4;have HF:=hdd (And.intro (ab6 o1) (Below.grown (Below.refl w.heap.size w) o2 nlr (fun k hk=>by simp[Value.ownBlock]at hk)));clear o1 o2 o3 o4;go_wp2;go_ret;exact⟨_,rfl,HF.out.1,HF.out.2⟩
theorem aa7{r cap by_:Nat}{cur:Array Value}(hh:w.heap[r]? =some (.cells cur 134 (0,0)))(hc:cur[0]? =some (.int .u64 (m:Int)))(hm:m<by_)(hb:by_<B64):
 Calls Tryz.prog 153 #[.slice (some ⟨r,0,none⟩) 1 cap,.int .u64 by_] w (fun e w'=>e=.returned (.int .u64 (m:Int))/\w'.heap[r]? =some (.cells (cur.set! 0 (.int .u64 0)) 134 (0,0))/\(∀b,b≠r->w'.heap[b]? =w.heap[b]?)/\∀B,B<=r->Below B w w'):=by
 have c0:w.cell? ⟨r,0,none⟩=some (.int .u64 (m:Int)):=by simp[World.cell?,hh,hc]
 have f0:w.frozen? ⟨r,0,none⟩=false:=Lib.frozen_of_heap hh 0;have HD:=hdd fun w'=>oM 0 m by_ w' hb (by omega) (by omega);have e1:(0*B64+m)/by_=0:=by rw[Nat.zero_mul,Nat.zero_add];exact Nat.div_eq_of_lt hm
 have e2:(0*B64+m)%by_=m:=by rw[Nat.zero_mul,Nat.zero_add];exact Nat.mod_eq_of_lt hm
 rw[e1,e2]at HD;have HH:=hdd hh;clear e1 e2 hh hc;go_enter Tryz.func153,Tryz.ntmps153
 go_wp2_with fail
 refine wp_loop_rounds 2 ?_;rw[rounds_succ];go_wp2_with fail
 refine(HD.out _).mono ?_;rintro e w1⟨rfl,k,rfl⟩;have hlt:r<w.heap.size:=(azG.1 HH.out).1;have h':w.heap[r]=.cells cur 134 (0,0):=(azG.1 HH.out).2;have HF:Hid (((w.drewN k).setCell ⟨r,0,none⟩ (.int .u64 0)).heap[r]? =some (.cells (cur.set! 0 (.int .u64 0)) 134 (0,0))/\(∀b,b≠r->((w.drewN k).setCell ⟨r,0,none⟩ (.int .u64 0)).heap[b]? =w.heap[b]?)/\∀B,B<=r->Below B w ((w.drewN k).setCell ⟨r,0,none⟩ (.int .u64 0))):=hdd ⟨by
  show((w.setCell ⟨r,0,none⟩ (.int .u64 0))).heap[r]? =_;simp[World.setCell,hlt,Array.getElem_modify,h'],fun b hne=>Below.heap_setCell (w.drewN k) _ _ b (fun e=>hne (by simpa using e)),fun B hB=>Below.setCell (p:=⟨r,0,none⟩) (show Below B w (w.drewN k) from⟨rfl,rfl,rfl,Nat.le_refl _,fun _ _=>rfl⟩) hB _⟩
 replace c0:(w.drewN k).cell? ⟨r,0,none⟩=some (.int .u64 (m:Int)):=c0;replace f0:(w.drewN k).frozen? ⟨r,0,none⟩=false:=f0;clear HH h' HD;generalize w.drewN k=w1 at*;go_wp2_with fail
 rw[rounds_succ];go_wp2_with fail
 go_wp2;go_ret;exact⟨rfl,HF.out⟩
theorem ag3:∀m,m<100->(dgS m).size<=1000/\Lib.decDigits m≠[]:=by decide+kernel
theorem ag4(m:Nat):Lib.strCells (dgS m)=Lib.byteCells (Lib.decDigits m):=by simp[Lib.strCells,Lib.byteCells,dgS]
theorem adX(hx:NatP p w va xs)(hv:val xs=m)(h0:m≠0)(hm:m<100):
 Calls Tryz.prog 102 #[va] w (fun e w'=>e=.returned (.string (dgS m))/\Below w.heap.size w w'):=by
 obtain⟨i0,hi,hz0,hz1,hz2⟩:=info_parts mW;have hB64:m<B64:=Nat.lt_trans hm (by decide);have HC:=hdd (aiP hx hv h0 hB64);have HF:=hdd fun w'=>aiN hm w';have HM:=hdd (And.intro hm h0);clear hx hv hB64 h0;go_enter Tryz.func102,Tryz.ntmps102
 go_wp2_with fail
 refine HC.out.mono ?_;rintro e w1⟨v,rfl,⟨r,cap,cur,rfl,hB,hh,hc,hc1,hcM,hcs⟩,hb⟩;have HS:=hdd (aa7 (cap:=cap) (by_:=10000000000000000000) hh hc (by omega) (by decide));have HR:=hdd (And.intro hB (And.intro hc1 (And.intro hcM (And.intro hb (And.intro hcs hc)))));have HLT:=hdd (azG.1 hh).1;clear HC hh hc hb hB hcs hcM hc1;go_wp2_with fail
 refine wp_loop_rounds 2 ?_;rw[rounds_succ];go_wp2_with fail
 refine HS.out.mono ?_;rintro e w2⟨rfl,hh2,hk2,hb2⟩;have HW2:=hdd (And.intro hh2 (And.intro hk2 hb2));clear hh2 hk2 hb2 HS;go_wp2_with (at_builtin;refine wpList_append_lies _ rfl _ _ 77 rfl w2.heap.size 134 i0 (.int .u64 0) 1 8 Tryz.underlying77 hi hz0 hz1 hz2 rfl (by decide) _ _ _ rfl (World.ownsRow_nil _ _ _ _) ⟨w2.heap.size,0,none⟩ 1 1 [.int .u64 (m:Int)] rfl rfl ?c1 ?c2 Nat.one_pos ?c3 ?c4 ?c5 _ rfl ?_)
 case c1=>
  intro j u hj
  match j,hj with
  |0,hj=>
   simp at hj;subst hj;have hn:=heap_alloc_new w2 (.cells #[.int .u64 (m:Int)] 134);simp only[Addr.add_lit,World.cell?,hn];rfl
 case c2=>intro u hu;simp at hu;subst hu;rfl
 case c3=>unfold maxLen;omega
 case c4=>omega
 case c5=>simp
 intro q cap2 w3 o1 o2 o3 o4;obtain⟨q',capq,cur2,eq,hq,hh3,hc3,-,-,-⟩:=ab6 o1;simp only[Value.slice.injEq,Option.some.injEq,Addr.mk.injEq]at eq;obtain⟨⟨rfl,-⟩,-,rfl⟩:=eq;have hw1:=HR.out;have hw2:=HW2.out;have hsz2:w1.heap.size<=w2.heap.size:=(hw2.2.2 r (Nat.le_refl r)).size;have hr3:w3.heap[r]? =some (.cells (cur.set! 0 (.int .u64 0)) 134 (0,0)):=by
  rw[o2.block r (by have:=HLT.out;simp;omega) (by simp[Value.ownBlock]),Lib.alloc_old w2 _ r (by have:=HLT.out;omega)];exact hw2.1
 have hb3:Below w.heap.size w w3:=by
  have h1:Below w.heap.size w1 w2:=hw2.2.2 _ hw1.1;have h2:Below w.heap.size w1 (w2.alloc (.cells #[.int .u64 (m:Int)] 134)):=h1.alloc (by have:=hw1.2.2.2.1.size;omega) _;exact(hw1.2.2.2.1).trans (h2.grown o2 (by have:=hw1.2.2.2.1.size;simp;omega) (fun k hk=>by simp[Value.ownBlock]at hk))
 have hN:NatP AnyB w3 (.slice (some ⟨r,0,none⟩) 1 cap) [0]:=by
  refine⟨_,_,rfl,hw1.2.1,⟨by decide,by have:=hw1.2.2.1;unfold maxLen at this;omega⟩,by simp[OkL,B64],fun _=>⟨r,0,rfl,trivial,(azG.1 hr3).1,fun k hk=> ?_⟩⟩
  match k,hk with
  |0,_=>
   have hs0:0<cur.size:=by rw[hw1.2.2.2.2.1];have:=hw1.2.1;omega
   simp[World.cell?,hr3,lim,lx,Array.set!,hs0]
 have HT:=hdd (aH hN);have H3:=hdd (And.intro hh3 (And.intro hc3 hb3));clear o1 o2 o3 o4 hw1 hw2 hsz2 hr3 hb3 hN hh3 hc3 HW2 HR HLT;go_wp2_with fail
 refine HT.out.mono ?_;rintro e w4⟨rfl,v4,ys,rfl,hv4,ht4,hval4,-⟩;obtain rfl:ys=[]:=by
  rcases ys with _|⟨a,t⟩
  . rfl
  . have h1:=fD (a::t) ht4 (by simp)
    rw[hval4]at h1;have h2:=Nat.pow_pos (n:=(a::t).length-1) (show 0<B64 by decide);rw[show val [0]=0 from rfl]at h1;omega
 obtain⟨A4,c4,rfl,-⟩:=hv4;clear ht4 hval4 HT;go_wp2_with fail
 obtain⟨w5,hw5,hb5,hs5,b5⟩:=pro1 w3 (.cells #[.pointer none,.slice none 0 0] 230);have H5:=hdd (And.intro hb5 (And.intro hs5 b5));have c5:w5.cell? ⟨q,0,none⟩=some (.int .u64 (m:Int)):=by
  simp only[World.cell?,hbl H3.out.1 hb5];simp[H3.out.2.1]
 clear hb5 hs5 b5;rw[rounds_succ];go_wp2_with fail
 refine wp_loop_rounds 2 ?_;rw[rounds_succ];go_wp2_with fail
 refine(HF.out _).mono ?_;rintro e w6⟨rfl,rfl⟩;have HW:=hdd (ag2 (B:=w.heap.size) (b:=w3.heap.size) (s:=dgS m) H3.out.2.2.size H5.out.2.2 (ag3 m HM.out.1).1);go_wp2_with fail
 refine HW.out.mono ?_;rintro e w7⟨rfl,hI,hb7⟩;rw[ag4]at hI;have HST:=hdd (Tryz.Builder_String _ _ _ _ hI (ag3 m HM.out.1).2);have HB7:Hid (Below w.heap.size w w7):=hdd ((H3.out.2.2.trans (H5.out.1.mono H3.out.2.2.size)).trans hb7);clear hI hb7 HW HF H3 H5 c5;go_wp2_with fail
 rw[rounds_succ];go_wp2_with fail
 refine HST.out.mono ?_;rintro e w8⟨rfl,hb8⟩;have HB8:=hdd (HB7.out.trans hb8);clear hb8;go_wp2;go_ret;exact⟨rfl,HB8.out⟩
theorem vL{v:Value}{z:Int}(hx:IntP p w v z)(h0:z≠0)(hz:z.natAbs<100):
 Calls Tryz.prog 62 #[v] w (fun e w'=>e=.returned (.string (if z<0 then⟨#[45]⟩++dgS z.natAbs else dgS z.natAbs))/\Below w.heap.size w w'):=by
 obtain⟨S,hS⟩:∃S,(if z<0 then⟨#[45]⟩++dgS z.natAbs else dgS z.natAbs:ByteArray)=S:=⟨_,rfl⟩;rw[hS];obtain⟨vm,xs,rfl,h1,h2,h3⟩:=hx;obtain⟨w1,hw1,hb1,hs1,b1⟩:=pro1 w (.cells #[.bool (decide (z<0)),vm] 80);obtain⟨c0,c1,-,-⟩:=aB b1;have HX:=hdd (h1.below hb1);have HSG:=hdd (jT (show IntP p w1 (.agg #[.bool (decide (z<0)),vm]) z from⟨vm,xs,rfl,HX.out,h2,h3⟩));have HB:=hdd hb1;have HZ:=hdd (And.intro h0 hz);have HV:=hdd h3;clear h1 h2 hb1 hs1 b1 h0 hz h3;go_enter Tryz.func62,Tryz.ntmps62
 go_wp2_with fail
 refine HSG.out.mono ?_;rintro e w2⟨rfl,hb⟩;replace c0:=cbl c0 hb;replace c1:=cbl c1 hb;have HB2:=hdd (HB.out.trans (hb.mono HB.out.size));have HN:=hdd (adX (HX.out.below hb) HV.out (by have:=HZ.out.1;omega) HZ.out.2);clear hb HSG HX HB hw1;by_cases hn:z<0
 . have hs:z.sign<0:=by rw[Int.sign_eq_neg_one_of_neg hn];decide
   rw[if_pos hn]at hS;subst hS;go_wp2_with fail
   refine HN.out.mono ?_;rintro e w3⟨rfl,hb3⟩;have HB3:=hdd (HB2.out.trans (hb3.mono HB2.out.size));have hno:¬9223372036854775807<1+(dgS z.natAbs).size:=by have:=(ag3 _ HZ.out.2).1;omega
   clear hb3;go_wp2;go_ret;exact⟨rfl,HB3.out⟩
 . have hs:¬z.sign<0:=by
    have:0<z:=by have:=HZ.out.1;omega
    rw[Int.sign_eq_one_of_pos this];decide
   rw[if_neg hn]at hS;subst hS;go_wp2_with fail
   refine HN.out.mono ?_;rintro e w3⟨rfl,hb3⟩;have HB3:=hdd (HB2.out.trans (hb3.mono HB2.out.size));clear hb3;go_wp2;go_ret;exact⟨rfl,HB3.out⟩
end
section
open Go.RowKit Go.Maps
open List renaming mem_cons_self->azH,mem_cons_of_mem->azI,nodup_cons->azJ,mem_cons->azK,map_cons->azL,mem_map->azM
section
variable{s:Bs}{g N:Nat}{K:List (Ex×Nat)}{l l':List (Nat×Obj)}{W W':World}{b bb nb:Nat}{o O O':Obj}
theorem Run.perm (h:Run s g N K l W)(hp:l'.Perm l):Run s g N K l' W:=h.sub (fun p hm=>hp.subset hm) ((hp.map _).nodup_iff.2 h.nodup)
theorem Run.keep (h:Run s g N K l W)(hb:Below W.heap.size W W')(ho:W'.heap[b]? =some o)(hlo:W.heap.size<=b):Run s g N K ((b,o)::l) W':=by
 obtain⟨ns',hs,hK⟩:=h;have h':=hs.below hb;refine⟨ns',⟨h'.grew,fun p hp=> ?_,h'.hw,?_⟩,hK⟩
 . rcases azK.1 hp with rfl|hp
   . exact⟨ho,fun hd=>by have:=hs.grew.1.dag.dagB ((DagB.congr (hb.block g hs.grew.1.dag.glt)).1 hd);simp only at this;omega,Nat.le_trans hs.grew.2.2.size hlo⟩
   . exact h'.kept p hp
 . rw[azL,azJ]
   refine⟨fun hm=> ?_,h'.nodup⟩;obtain⟨p,hp,e⟩:=azM.1 hm;have:=hs.lt hp;simp only at e;omega
theorem Run.keeps (h:Run s g N K l W)(hb:Below W.heap.size W W')(lb:List (Nat×Obj))(ho:∀p∈lb,W'.heap[p.1]? =some p.2/\W.heap.size<=p.1)(hnd:(lb.map (·.1)).Nodup):Run s g N K (lb++l) W':=by
 obtain⟨ns',hs,hK⟩:=h;have h':=hs.below hb;refine⟨ns',⟨h'.grew,fun p hp=> ?_,h'.hw,?_⟩,hK⟩
 . rcases List.mem_append.1 hp with hp|hp
   . obtain⟨q1,q2⟩:=ho p hp
     exact⟨q1,fun hd=>by have:=hs.grew.1.dag.dagB ((DagB.congr (hb.block g hs.grew.1.dag.glt)).1 hd);omega,Nat.le_trans hs.grew.2.2.size q2⟩
   . exact h'.kept p hp
 . rw[List.map_append,List.nodup_append]
   refine⟨hnd,h'.nodup,fun a ha b hb' e=> ?_⟩;obtain⟨p,hp,rfl⟩:=azM.1 ha;obtain⟨q,hq,rfl⟩:=azM.1 hb';have:=hs.lt hq;have:=(ho p hp).2;omega
end
section
variable{s:Bs}{W:World}{g N i j v:Nat}{K:List (Ex×Nat)}{l:List (Nat×Obj)}{x y:Ex}
theorem Run.goesN (h:Run s g N K l W)(hx:(x,i)∈K):Calls Tryz.prog 64 #[.agg #[.pointer (some ⟨g,0,none⟩),.int .i64 (i:Int)],.slice none 0 0] W (RetV W (.bool true)):=by
 obtain⟨ns,hs,hK⟩:=h;exact vI hs.st.dag (hK _ hx).lt
theorem Run.leafD (h:Run s g N K l W)(hN:N<20000)(hv:v<18446744073709551616)(hf:fin v):Calls Tryz.prog 63 #[.pointer (some ⟨g,0,none⟩),.float .f64 v] W (fun e W'=>∃k,e=.returned (idV k)/\Run s g (N+1) ((.leaf v,k)::K) l W'):=by
 obtain⟨ns,hs,hK⟩:=h;exact(zD hs.st hN hv hf trivial).mono fun _ _ hr=>oJ hs hK hr
theorem Run.subD (h:Run s g N K l W)(hN:N<20000)(hx:(x,i)∈K)(hy:(y,j)∈K):Calls Tryz.prog 74 #[.pointer (some ⟨g,0,none⟩),.int .i64 (i:Int),.int .i64 (j:Int)] W (fun e W'=>∃k,e=.returned (idV k)/\Run s g (N+1) ((.sub x y,k)::K) l W'):=by
 obtain⟨ns,hs,hK⟩:=h;exact(ab2 hs.st hN (hK _ hx) (hK _ hy) trivial).mono fun _ _ hr=>oJ hs hK hr
theorem Run.neg (h:Run s g N K l W)(hN:N+2<=20000)(hx:(x,i)∈K):Calls Tryz.prog 31 #[numV g i] W (RtR s g (N+2) K l (.sub (.leaf 0) x)):=by
 obtain⟨w4,hw4,hb4,hs4,b1,b2⟩:=pro2 W (.cells #[.pointer (some ⟨g,0,none⟩),.int .i64 (i:Int)] 32) (.cells #[.pointer none,.int .i64 0] 32);have R4:=hdd (h.keeps hb4 [(W.heap.size,.cells #[.pointer (some ⟨g,0,none⟩),.int .i64 (i:Int)] 32),(W.heap.size+1,.cells #[.pointer none,.int .i64 0] 32)] (fun p hp=>by
  simp only[azK,List.not_mem_nil,or_false]at hp;rcases hp with rfl|rfl
  . exact⟨b1,Nat.le_refl _⟩
  . exact⟨b2,Nat.le_succ _⟩) (by simp))
 have HG:=hdd (R4.out.goesN hx);have HX:=hdd hx;have HN:=hdd hN;obtain⟨e0,e1,-,-⟩:=aB b1;clear h hN hx hb4 b1 b2 hs4;go_enter Tryz.func31,Tryz.ntmps31
 go_wp2_with fail
 refine HG.out.mono ?_;rintro e w5⟨rfl,hb5⟩;have R5:=hdd (R4.out.step hb5).drew;clear hb5 hw4 e0 e1 HG R4;obtain⟨e0,e1,-,-⟩:=aB (R5.out.at (azH ..));go_wp2_with fail
 go_region_held3 (fun w'=>w'.cell? ⟨W.heap.size,0,none⟩=some (.pointer (some ⟨g,0,none⟩))/\w'.cell? ⟨W.heap.size,1,none⟩=some (.int .i64 (i:Int))) (go_keep)
  (first
  |(go_at_call 63
    with_reducible refine(R5.out.leafD (by have:=HN.out;omega) (by decide) (by decide)).mono ?_
    rintro e w6⟨k,rfl,hR6⟩;have R6:=hdd hR6;obtain⟨e0,e1,-,-⟩:=aB (R6.out.at (azH ..));clear hR6)
  |(go_at_call 74
    with_reducible refine(R6.out.subD (by have:=HN.out;omega) (azH ..) (azI _ HX.out)).mono ?_
    rintro e w7⟨k2,rfl,hR7⟩;have R7:=hdd hR7;obtain⟨e0,e1,-,-⟩:=aB (R7.out.at (azH ..));obtain⟨r0,r1,f0,f1⟩:=aB (R7.out.at (azI _ (azH ..)));clear hR7))
 obtain⟨w8,hw8⟩:∃v,(w7.setCell ⟨W.heap.size+1,0,none⟩ (.pointer (some ⟨g,0,none⟩))).setCell ⟨W.heap.size+1,1,none⟩ (.int .i64 (k2:Int))=v:=⟨_,rfl⟩;have g8:w7.grownBy w8 (some (W.heap.size+1)):=by rw[<-hw8];exact grownBy_set (grownBy_set (aiM _ _) _) _
 have s8:=set2 (R7.out.at (azI _ (azH ..))) (.pointer (some ⟨g,0,none⟩)) (.int .i64 (k2:Int));rw[hw8]at s8;have R8:=hdd ((R7.out.perm (List.Perm.swap _ _ _)).write g8 s8);simp only[hw8];clear e0 e1 r0 r1 f0 f1 g8 s8 hw8 R7 R6 R5;obtain⟨x0,x1,-,-⟩:=aB (R8.out.at (azH ..));go_wp2;refine bodyPost_ret (v:=.agg #[_,_]) (by simp[results,Tryz.results31,go_sem,x0,x1];first|exact⟨rfl,rfl⟩|rfl) rfl ?_;refine⟨k2,rfl,?_⟩;have h9:=R8.out.sub (l':=l) (fun p hp=>azI _ (azI _ hp)) (by have:=R8.out.nodup;rw[azL,azL]at this;exact(azJ.1 (azJ.1 this).2).2);exact h9.few (fun p hp=>by
  rcases azK.1 hp with rfl|hp
  . exact azH ..
  . exact azI _ (azI _ hp))
end
end
end Go.Proofs.YtebocijmegkfgaaGreatDoor
