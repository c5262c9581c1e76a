/- A part of the proof: contracts of functions and plain laws (LawFxClmK, LawPxClmK, LawSxClmK, QlAxClmK, FeBxClmK, QlLxClmK, LiBxClmK). -/
import Derived.Test.YtjaafolhfihegaaGreatDoorM12
import Derived.Test.YtjaafolhfihegaaGreatDoorM08
import Derived.Test.YtjaafolhfihegaaGreatDoorM07
import Derived.Test.YtjaafolhfihegaaGreatDoorM06
import Derived.Test.YtjaafolhfihegaaGreatDoorM05
import Derived.Test.YtjaafolhfihegaaGreatDoorM04
import Derived.Test.YtjaafolhfihegaaGreatDoorM03
import Derived.Test.YtjaafolhfihegaaGreatDoorM02
import Derived.Test.YtjaafolhfihegaaGreatDoorM01
import Derived.Test.YtjaafolhfihegaaGreatDoorM11
import Derived.Test.YtjaafolhfihegaaGreatDoorM10
import Derived.Test.YtjaafolhfihegaaGreatDoorM09
import Derived.OpenShut
import Derived.Test.YtjaafolhfihegaaGreatDoorM33
import Derived.Test.YtjaafolhfihegaaGreatDoorM16
import Derived.Test.YtjaafolhfihegaaGreatDoorM15
import Derived.Test.YtjaafolhfihegaaGreatDoorM14
import Derived.Test.YtjaafolhfihegaaGreatDoorM13
import Derived.Test.YtjaafolhfihegaaGreatDoorM32
import Derived.Test.YtjaafolhfihegaaGreatDoorM31
import Derived.Test.YtjaafolhfihegaaGreatDoorM30
import Derived.Test.YtjaafolhfihegaaGreatDoorM29
import Derived.Test.YtjaafolhfihegaaGreatDoorM28
import Derived.Test.YtjaafolhfihegaaGreatDoorM24
import Derived.Test.YtjaafolhfihegaaGreatDoorM23
import Derived.Test.YtjaafolhfihegaaGreatDoorM21
import Derived.Test.YtjaafolhfihegaaGreatDoorM20
import Derived.Test.YtjaafolhfihegaaGreatDoorM19
import Derived.Test.YtjaafolhfihegaaGreatDoorM22
import Derived.Test.YtjaafolhfihegaaGreatDoorM27
import Derived.Test.YtjaafolhfihegaaGreatDoorM26
import Derived.Test.YtjaafolhfihegaaGreatDoorM25
import Derived.Test.YtjaafolhfihegaaGreatDoorM18
import Derived.Test.YtjaafolhfihegaaGreatDoorM17
import Derived.Deep.Cut
import Derived.Deep.DeepCutAuto
set_option linter.unusedVariables false
set_option linter.unusedSimpArgs false
set_option maxHeartbeats 25600000
set_option maxRecDepth 100000
namespace Go.Proofs.YtjaafolhfihegaaGreatDoor
open Go.ChangeShapes Go.WideShapes Go.ChangeAt Go.RowKit
open Go.DataW renaming trod->biX,Trod->biY
variable{fuel:Nat}
section
variable{H:Type}{enc:TypeId×Value->H}{P:Program}{w:World}{base:Nat}{spare:Nat->Bool}{held:Bool}
theorem yD{t:TypeId}{k:FloatKind}{cs:List Value}{x:DataW H×List MemPlace}(ht:P.underlying t=some (.float k))(h:biX enc P w base spare held fuel t cs=some x):∃n,cs=[.float k n]/\x=(.lit (.float k n),[])/\(Lit.float k n).wf=true:=by
 cases fuel with
 |zero=>simp[biX]at h
 |succ n=>
  unfold biX at h;rw[ht]at h
  split at h<;>simp_all
theorem ae2{n:Nat}(h:(Lit.float .f64 n).wf=true):n<18446744073709551616:=by
 simpa[Lit.wf]using h
end
section
variable{H:Type}{enc:TypeId×Value->H}{P:Program}{w:World}{base:Nat}{spare:Nat->Bool}{held:Bool}
end
theorem zS:Tryz.prog.cellsOf 3=1:=by kernel_rfl
section
variable{H:Type}{enc:TypeId×Value->H}{P:Program}{w:World}{base:Nat}{spare:Nat->Bool}{held:Bool}
theorem aiN{t:TypeId}{f0 f1 f2 f3:Field}{c0 c1 c2 c3:Value}{x:DataW H×List MemPlace}(ht:P.underlying t=some (.struct #[f0,f1,f2,f3]))(o0:f0.offset=0)(o1:f1.offset=1)(o2:f2.offset=2)(o3:f3.offset=3)
 (k0:P.cellsOf f0.type=1) (k1:P.cellsOf f1.type=1) (k2:P.cellsOf f2.type=1) (k3:P.cellsOf f3.type=1) (h:biX enc P w base spare held fuel t [c0,c1,c2,c3]=some x):
 ∃y0 y1 y2 y3 n,x=(.agg [y0.1,y1.1,y2.1,y3.1],y0.2++(y1.2++(y2.2++y3.2)))/\biX enc P w base spare held n f0.type [c0]=some y0/\biX enc P w base spare held n f1.type [c1]=some y1/\biX enc P w base spare held n f2.type [c2]=some y2/\biX enc P w base spare held n f3.type [c3]=some y3:=by
 cases fuel with
 |zero=>simp[biX]at h
 |succ n=>
  unfold biX at h;rw[ht]at h;simp[o0,o1,o2,o3,k0,k1,k2,k3]at h;obtain⟨_,h⟩:=h
  cases h0:biX enc P w base spare held n f0.type [c0]with
  |none=>simp[h0]at h
  |some y0=>
   cases h1:biX enc P w base spare held n f1.type [c1]with
   |none=>simp[h0,h1]at h
   |some y1=>
    cases h2:biX enc P w base spare held n f2.type [c2]with
    |none=>simp[h0,h1,h2]at h
    |some y2=>
     cases h3:biX enc P w base spare held n f3.type [c3]with
     |none=>simp[h0,h1,h2,h3]at h
     |some y3=>
      simp[h0,h1,h2,h3]at h;exact⟨y0,y1,y2,y3,n,h.symm,h0,h1,h2,h3⟩
theorem amD{r:Reach}{b0:Nat}{t:TypeId}{fs:Array Field}{v:Value}(ht:P.underlying t=some (.struct fs))(hct:P.cellsOf t=4)(hval:Value.okWide P w r b0 t v):∃c0 c1 c2 c3,v=.agg #[c0,c1,c2,c3]:=by
 obtain⟨cs,rfl,hsz,-⟩:∃cs,v=.agg cs/\cs.size=P.cellsOf t/\Row.okWide P w r b0 t cs:=by
  simpa[Value.okWide,ht]using hval
 rw[hct]at hsz;obtain⟨l⟩:=cs
 match l,hsz with
 |[c0,c1,c2,c3],_=>exact⟨c0,c1,c2,c3,rfl⟩
variable{t:TypeId}{f0 f1 f2 f3:Field}{v:Value}{d:DataW H}{ps:List MemPlace}{r:Reach}{b0:Nat}{k:IntKind}{q:FloatKind}
 (ht:P.underlying t=some (.struct #[f0,f1,f2,f3])) (o0:f0.offset=0) (o1:f1.offset=1) (o2:f2.offset=2) (o3:f3.offset=3)
   (k0:P.cellsOf f0.type=1) (k1:P.cellsOf f1.type=1) (k2:P.cellsOf f2.type=1) (k3:P.cellsOf f3.type=1) (hct:P.cellsOf t=4)
include ht o0 o1 o2 o3 k0 k1 k2 k3 hct
theorem amE(u0:P.underlying f0.type=some (.int k))(u1:P.underlying f1.type=some (.float q))(u2:P.underlying f2.type=some (.float q))(u3:P.underlying f3.type=some (.float q))
 (hval:Value.okWide P w r b0 t v) (hd:biY enc P w base spare held t v d ps):
 ∃n a b c,v=.agg #[.int k n,.float q a,.float q b,.float q c]/\d=.agg [.lit (.int k n),.lit (.float q a),.lit (.float q b),.lit (.float q c)]/\ps=[]/\(Lit.int k n).wf=true/\(Lit.float q a).wf=true/\(Lit.float q b).wf=true/\(Lit.float q c).wf=true:=by
 obtain⟨c0,c1,c2,c3,rfl⟩:=amD ht hct hval;obtain⟨fuel,hf⟩:=hd;obtain⟨y0,y1,y2,y3,m,hx,hy0,hy1,hy2,hy3⟩:=aiN ht o0 o1 o2 o3 k0 k1 k2 k3 hf;obtain⟨x0,e0,rfl,w0⟩:=DataW.trod_int u0 hy0;obtain⟨x1,e1,rfl,w1⟩:=yD u1 hy1;obtain⟨x2,e2,rfl,w2⟩:=yD u2 hy2;obtain⟨x3,e3,rfl,w3⟩:=yD u3 hy3;simp at e0 e1 e2 e3;subst e0 e1 e2 e3;simp only[Prod.mk.injEq]at hx;exact⟨x0,x1,x2,x3,rfl,hx.1,by simpa using hx.2,w0,w1,w2,w3⟩
theorem amF{n:Int}{a b c:Nat}(u0:P.underlying f0.type=some (.int k))(u1:P.underlying f1.type=some (.float q))(u2:P.underlying f2.type=some (.float q))(u3:P.underlying f3.type=some (.float q))(w0:(Lit.int k n).wf=true)(w1:(Lit.float q a).wf=true)(w2:(Lit.float q b).wf=true)(w3:(Lit.float q c).wf=true):
 biY enc P w base spare held t (.agg #[.int k n,.float q a,.float q b,.float q c]) (.agg [.lit (.int k n),.lit (.float q a),.lit (.float q b),.lit (.float q c)]) []:=
 ⟨2,by simp[biX,Value.cells,ht,hct,o0,o1,o2,o3,k0,k1,k2,k3,u0,u1,u2,u3,w0,w1,w2,w3]⟩
end
end Go.Proofs.YtjaafolhfihegaaGreatDoor
namespace Go.Proofs.YtjaafolhfihegaaGreatDoor
open Go.RowKit Go.Maps
open Re (rat ofI ofN)
section
variable{L:List Ex}{A B C D A' B' C':Ex}{a b c d a' b' c':Re}{i j k l i' j' k':Nat}
end
theorem amG:fv 4616189618054758400=(4:Int)*(U74:Int):=by kernel_rfl
end Go.Proofs.YtjaafolhfihegaaGreatDoor
namespace Go.Proofs.YtjaafolhfihegaaGreatDoor
open Ieee
open Re (rat ofI ofN)
open Int renaming natAbs_natCast->biZ,natCast_mul->bi4,natAbs_neg->bi6
open Nat renaming pow_add->bi0,le_of_mul_le_mul_right->bi1,pow_zero->bi2,mul_one->bi3,two_pow_pos->bi5,mul_assoc->bi7,le_trans->bi8
variable{r v:Nat}
theorem aqH(hf:fin v):∃(x:Int) (e:Nat),x.natAbs<2^53/\fv v=x*(2^e:Nat)/\(e=0\/2^52<=x.natAbs):=by
 obtain⟨m,e,h1,h2,h3⟩:∃m e,m<2^53/\mg (sr v).natAbs=m*2^e/\(e=0\/2^52<=m):=by
  rcases Nat.lt_or_ge (sr v).natAbs (2^52)with h|h
  . exact⟨_,0,Nat.lt_trans h (by decide),by rw[lC _ (by omega),bi2,bi3],Or.inl rfl⟩
  . exact⟨_,_,by omega,jU _ h,Or.inr (by omega)⟩
 unfold fv fvr;rw[h2]
 split
 . exact⟨-(m:Int),e,by omega,by rw[bi4,Int.neg_mul],by omega⟩
 . exact⟨(m:Int),e,by omega,by rw[bi4],by omega⟩
theorem ae3(x:Int)(e:Nat):(x*(2^e:Nat)).natAbs=x.natAbs*2^e:=by rw[Int.natAbs_mul,biZ]
theorem amH(hf:fin v)(hb:(fv v).natAbs<=64*U74):∃r,double.mul v 4616189618054758400=some r/\r<2^64/\fin r/\fv r=fv v*4:=by
 obtain⟨x,e,h1,h2,h3⟩:=aqH hf;obtain⟨u,hu,hU⟩:=eP;obtain⟨r,k1,k2,hn⟩:=mG hf (show fin 4616189618054758400 by decide);have he:e<=1988:=by
  rcases h3 with h3|h3
  . omega
  . rw[h2,ae3,hU]at hb
    have h4:2^52*2^e<=x.natAbs*2^e:=Nat.mul_le_mul_right _ h3;have h5:2^52*2^e<=2^6*2^u:=bi8 h4 hb;rw[<-bi0,<-bi0]at h5;have:=(Nat.pow_le_pow_iff_right (by omega)).1 h5;omega
 have hr:=yA (x:=x) (e+2) h1 (by omega);obtain⟨h5,h6⟩:=hn.exact hr (by
  rw[h2,amG,hU];have e1:(2148-1074:Nat)=u:=by omega
  rw[e1,bi0];generalize 2^e=A;generalize 2^u=C
  push_cast;grind)
 refine⟨r,k1,k2,h5,?_⟩;rw[h6,h2,bi0];generalize 2^e=A
 push_cast;grind
theorem amI(s:Bool)(n d:Nat):Toward.zero.cut s n d<=n/2^d:=by
 unfold Toward.cut;simp only[Bool.toNat_false,Nat.add_zero,Nat.one_shiftLeft];rcases Nat.le_total d (n.log2+2)with h|h
 . rw[Nat.min_eq_left h];exact Nat.le_refl _
 . rw[Nat.min_eq_right h]
   have:n<2^(n.log2+1):=Nat.lt_log2_self;rw[Nat.div_eq_of_lt (Nat.lt_of_lt_of_le this (Nat.pow_le_pow_right (by omega) (by omega)))];exact Nat.zero_le _
theorem uS{b:Nat}(hf:fin r)(hb:(fv r).natAbs<=b*U74):∃T:Int,(double.read r).toInt .zero=some T/\T.natAbs<=b:=by
 obtain⟨m,p,e,hp,hm⟩:=fT hf;obtain⟨u,hu,hU⟩:=eP;rw[e];refine⟨_,rfl,?_⟩;rw[jJ];have h1:m <<< p.toNat/2^(-p).toNat<=b:=by
  have hv:(fv r).natAbs=mg (rung r):=by
   rw[jV hm];split
   . rw[bi6,biZ,hm]
   . rw[biZ,hm]
  rw[hv,<-hm,hU]at hb;rw[Nat.shiftLeft_eq];rcases Int.le_total 0 p with h|h
  . have e1:(p+1074).toNat=p.toNat+u:=by omega
    have e2:(-p).toNat=0:=by omega
    rw[e1,bi0,<-bi7]at hb;rw[e2,bi2,Nat.div_one];exact bi1 hb (bi5 u)
  . have e1:u=(p+1074).toNat+(-p).toNat:=by omega
    have e2:p.toNat=0:=by omega
    rw[e1,bi0,<-bi7,Nat.mul_right_comm]at hb;rw[e2,bi2,bi3];have:=bi1 hb (bi5 (p+1074).toNat);exact Nat.div_le_of_le_mul (by rw[Nat.mul_comm];exact this)
 have h2:=bi8 (amI (fneg r) (m <<< p.toNat) (-p).toNat) h1;rw[bi2,bi3]
 split
 . rw[bi6,biZ];exact h2
 . rw[biZ];exact h2
theorem NearR.exact {M:Int}(h:NearR r (ofI M))(hM:RepF M):fin r/\fv r=M:=by
 obtain⟨c,c1,c2,rfl⟩:=hM;have e:sr r=c:=by
  have h1:=h.2.1 c (by omega) (by omega) (Re.le_refl _);have h2:=h.2.2 c (by omega) (by omega) (Re.le_refl _);omega
 exact⟨al9 (by omega) (by omega),by unfold fv;rw[e]⟩
theorem ae4{T:Int}(h:T.natAbs<=256):∃r,double.div (fl T) 4616189618054758400=some r/\r<2^64/\fin r/\∃k,k+2=1074/\fv r=T*(2^k:Nat):=by
 obtain⟨u,hu,hU⟩:=eP;obtain⟨h1,h2,h3⟩:=pE (k:=T) (by omega);obtain⟨k,hk⟩:∃k,k+2=u:=⟨u-2,by omega⟩;have hI:T*(2^k:Nat)*fv 4616189618054758400=fv (fl T)*(U74:Int):=by
  rw[amG,h3,hU,<-hk,bi0];generalize 2^k=A
  push_cast;grind
 have hV:ofI (T*(2^k:Nat))*ofI (fv 4616189618054758400)=ofI (fv (fl T))*ofN U74:=by
  unfold ofN;rw[<-Re.ofI_mul,<-Re.ofI_mul,hI]
 have h4:0<U74:=rM 1074;obtain⟨r,r1,r2,r3⟩:=nV eP h2 (show fin 4616189618054758400 by decide) (by rw[amG];omega) hV;obtain⟨r4,r5⟩:=r3.exact (yA k (by omega) (by omega));exact⟨r,r1,r2,r4,k,by omega,r5⟩
end Go.Proofs.YtjaafolhfihegaaGreatDoor
namespace Go.Proofs.YtjaafolhfihegaaGreatDoor
open Go.RowKit Go.Maps
open Re (rat ofI ofN)
structure Qw(b:Nat)(x:Int):Prop where
 ok:FlOk b
 val:∃k,k+2=1074/\fv b=x*(2^k:Nat)
abbrev dQ(p q s t:Nat):Ex:=.sub (.mul (.leaf p) (.leaf q)) (.mul (.leaf s) (.leaf t))
end Go.Proofs.YtjaafolhfihegaaGreatDoor
namespace Go.Proofs.YtjaafolhfihegaaGreatDoor
open Go.RowKit Go.Maps
theorem aiO{w:World}{a b c a' b' c':Nat}(h:dC a b c)(h':dC a' b' c'):Calls Tryz.prog 64 #[curV 1 a b c,curV 1 a' b' c'] w (RetV w .nilIface):=by
 obtain⟨w2,hw2,hb2,hs2,b1,b2⟩:=pro2 w (curO 1 a b c) (curO 1 a' b' c');obtain⟨c0,c1,c2,c3⟩:=aL b1;obtain⟨d0,d1,d2,d3⟩:=aL b2;have HB:=hdd hb2;have H1:Hid (∀w,Calls Tryz.prog 21 #[curV 1 a b c] w (RetV w .nilIface)):=hdd fun w=>aaS h;have H2:Hid (∀w,Calls Tryz.prog 21 #[curV 1 a' b' c'] w (RetV w .nilIface)):=hdd fun w=>aaS h';clear hb2 hs2 b1 b2 h h';go_enter Tryz.func64,Tryz.ntmps64
 go_wp2_with fail
 refine(H1.out _).mono ?_;rintro e w3⟨rfl,hb⟩;have HB3:=hdd (HB.out.trans (hb.mono HB.out.size));replace d0:=cbl d0 hb;replace d1:=cbl d1 hb;replace d2:=cbl d2 hb;replace d3:=cbl d3 hb;clear hb c0 c1 c2 c3 hw2;go_wp2_with fail
 refine(H2.out _).mono ?_;rintro e w4⟨rfl,hb⟩;have HB4:=hdd (HB3.out.trans (hb.mono HB3.out.size));clear hb;go_wp2;go_ret;exact⟨rfl,HB4.out⟩
end Go.Proofs.YtjaafolhfihegaaGreatDoor
