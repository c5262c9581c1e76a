/- A part of the proof: contracts of functions and plain laws (FltCxClmK, FwAxClmK, FwBxClmK, LtAxClmK). -/
import Derived.Test.YtjaafolhfihegaaGreatDoorM08
import Derived.WalkKit
import Derived.Laws.NewFold
import Derived.Test.YtjaafolhfihegaaGreatDoorM33
import Derived.Test.YtjaafolhfihegaaGreatDoorM35
import Derived.Test.YtjaafolhfihegaaGreatDoorM11
import Derived.Test.YtjaafolhfihegaaGreatDoorM10
import Derived.Test.YtjaafolhfihegaaGreatDoorM09
import Derived.Test.YtjaafolhfihegaaGreatDoorM01
import Derived.Test.YtjaafolhfihegaaGreatDoorM07
import Derived.Test.YtjaafolhfihegaaGreatDoorM06
import Derived.Test.YtjaafolhfihegaaGreatDoorM05
import Derived.Test.YtjaafolhfihegaaGreatDoorM04
import Derived.Test.YtjaafolhfihegaaGreatDoorM03
import Derived.Test.YtjaafolhfihegaaGreatDoorM02
import Derived.Test.YtjaafolhfihegaaGreatDoorM34
import Derived.Test.YtjaafolhfihegaaGreatDoorM18
import Derived.Test.YtjaafolhfihegaaGreatDoorM17
import Derived.Test.YtjaafolhfihegaaGreatDoorM16
import Derived.Test.YtjaafolhfihegaaGreatDoorM12
import Derived.Test.YtjaafolhfihegaaGreatDoorM15
import Derived.Test.YtjaafolhfihegaaGreatDoorM14
import Derived.Test.YtjaafolhfihegaaGreatDoorM13
import Derived.Test.YtjaafolhfihegaaGreatDoorM32
import Derived.Test.YtjaafolhfihegaaGreatDoorM31
import Derived.Test.YtjaafolhfihegaaGreatDoorM30
import Derived.Test.YtjaafolhfihegaaGreatDoorM29
import Derived.Test.YtjaafolhfihegaaGreatDoorM28
import Derived.Test.YtjaafolhfihegaaGreatDoorM24
import Derived.Test.YtjaafolhfihegaaGreatDoorM23
import Derived.Test.YtjaafolhfihegaaGreatDoorM21
import Derived.Test.YtjaafolhfihegaaGreatDoorM20
import Derived.Test.YtjaafolhfihegaaGreatDoorM19
import Derived.Test.YtjaafolhfihegaaGreatDoorM22
import Derived.Test.YtjaafolhfihegaaGreatDoorM27
import Derived.Test.YtjaafolhfihegaaGreatDoorM26
import Derived.Test.YtjaafolhfihegaaGreatDoorM25
set_option linter.unusedVariables false
set_option linter.unusedSimpArgs false
set_option maxHeartbeats 25600000
set_option maxRecDepth 100000
namespace Go.Proofs.YtjaafolhfihegaaGreatDoor
open Ieee
variable{x:Nat}
theorem abG(h:fin x):double.sub x x=some 0:=by
 obtain⟨m,p,e,-,-⟩:=fT h;unfold Format.sub;rw[e];have h1:(Datum.number (fneg x) m p).sum (Datum.number (fneg x) m p).opposite=some (.number false 0 p):=by
  cases fneg x<;>simp[Datum.opposite,Datum.sum,signed]<;>omega
 rw[h1];show some (double.nearest false 0 p)=some 0;rw[kZ];rfl
theorem abH(h:¬fin x):double.sub x x=none:=by
 unfold Format.sub
 cases e:double.read x with
 |nan s f=>rfl
 |infinity s=>cases s<;>rfl
 |number s m p=>
  exfalso;have h':¬x%2^63<2047*2^52:=h;unfold Format.read at e;simp only[mF,iH,kY,iW]at e;rw[if_neg (by omega),if_neg (by omega)]at e
  split at e<;>cases e
theorem aiP{r:Nat}(h:infR<rung r):double.order r 0=none:=by
 have h':2047*2^52<r%2^63:=h;have:∃s f,double.read r=.nan s f:=by
  unfold Format.read;simp only[mF,iH,kY,iW];rw[if_neg (by omega),if_neg (by omega),if_neg (by omega)];exact⟨_,_,rfl⟩
 obtain⟨s,f,e⟩:=this;unfold Format.order;rw[e];rfl
theorem fJ{P:Program}(h:fin x)(t:TypeId)(w:World):(binOp .sub t (.float .f64 x) (.float .f64 x)).run P w=.ok (.float .f64 0) w:=
 run_float_arith w .sub t .f64 x x 0 (abG h)
theorem mY{P:Program}(h:¬fin x)(t:TypeId)(w:World):∃r,(binOp .sub t (.float .f64 x) (.float .f64 x)).run P w=.ok (.float .f64 r) w.drew/\double.order r 0=none:=by
 have hs:FloatKind.f64.format.sub x x=none:=abH h;refine⟨(Question.nanBits .f64 x x).cut (w.tape w.drawn (Question.nanBits .f64 x x)),?_,aiP ?_⟩
 . simp[binOp,Op.floatArith,hs,Question.forced]
 . unfold rung infR
   simp only[Question.cut];generalize w.tape w.drawn (Question.nanBits .f64 x x)=t;have hu:t%2<2:=Nat.mod_lt _ (by decide);have hv:t/2%(2^52-1)<2^52-1:=Nat.mod_lt _ (by decide);generalize t%2=u at hu;generalize t/2%(2^52-1)=v at hv;have:u=0\/u=1:=by omega
   rcases this with rfl|rfl<;>omega
end Go.Proofs.YtjaafolhfihegaaGreatDoor
namespace Go.Proofs.YtjaafolhfihegaaGreatDoor
open Go.RowKit Go.Maps
open Ieee
open Go.RowKit.Below renaming refl->bjA
open Nat renaming le_add_right->bi9
variable{a b v:Nat}
theorem apK:fv 4634204016564240384=(64:Int)*(U74:Int):=by kernel_rfl
theorem amJ:fv 13857576053419016192=(-64:Int)*(U74:Int):=by kernel_rfl
theorem amK:sr a<sr b↔fv a<fv b:=by unfold fv;exact qP.symm
theorem amL:sr a<=sr b↔fv a<=fv b:=by unfold fv;exact nD.symm
theorem Qw.of {x:Int}(h1:b<18446744073709551616)(h2:fin b)(h:fv b*4=x*(U74:Int)):Qw b x:=by
 obtain⟨u,hu,hU⟩:=eP;refine⟨⟨h1,h2⟩,u-2,by omega,?_⟩;rw[hU,show u=(u-2)+2 by omega,Nat.pow_add]at h;generalize 2^(u-2)=A at*;have h3:(4:Int)≠0:=by decide
 refine Int.eq_of_mul_eq_mul_right h3 ?_;rw[h];push_cast;grind
theorem aoS(hv:v<18446744073709551616)(hf:fin v):
 (¬sr 13857576053419016192<=sr v/\¬sr 4634204016564240384<sr v/\sr v<sr 13857576053419016192)\/(sr 13857576053419016192<=sr v/\¬sr v<=sr 4634204016564240384/\sr 4634204016564240384<sr v)\/
 (sr 13857576053419016192<=sr v/\sr v<=sr 4634204016564240384/\∃(r:Nat) (T:Int),double.mul v 4616189618054758400=some r/\fin r/\(double.read r).toInt .zero=some T/\T.natAbs<=256/\fin (fl T)/\(sr r=sr (fl T)->Qw v T)/\∃s,double.div (fl T) 4616189618054758400=some s/\Qw s T):=by
 simp only[amL,amK,apK,amJ];have hU:0<U74:=rM 1074;by_cases h1:fv v< -64*(U74:Int)
 . exact Or.inl ⟨by omega,by omega,h1⟩
 by_cases h2:64*(U74:Int)<fv v
 . exact Or.inr (Or.inl ⟨by omega,by omega,h2⟩)
 obtain⟨r,k1,k2,k3,k4⟩:=amH hf (by omega);obtain⟨T,t1,t2⟩:=uS (b:=256) k3 (by omega);obtain⟨f1,f2,f3⟩:=pE (k:=T) (by omega);obtain⟨s,s1,s2,s3,q,s4,s5⟩:=ae4 t2;refine Or.inr (Or.inr ⟨by omega,by omega,r,T,k1,k3,t1,t2,f2,fun e=>Qw.of hv hf ?_,s,s1,⟨⟨s2,s3⟩,q,s4,s5⟩⟩);have:fv r=fv (fl T):=by unfold fv;rw[e]
 rw[<-k4,this,f3]
theorem agN{r:Nat}{T:Int}(h:(double.read r).toInt .zero=some T)(hb:T.natAbs<=1000000)(w:World):(convert 27 3 (.float .f64 r)).run Tryz.prog w=.ok (.int .i64 T) w:=by
 refine run_convert_float_int w _ _ .f64 .i64 r T (by rw[Tryz.underlying27];rfl) Tryz.underlying3 ?_;unfold floatToIntVal;rw[show(FloatKind.f64.decode r).toInt .zero=some T from h];have h1:IntKind.i64.min<=T:=by show(-9223372036854775808:Int)<=T;omega
 have h2:T<=IntKind.i64.max:=by show T<=(9223372036854775807:Int);omega
 exact if_pos ⟨h1,h2⟩
def pF(r:Nat):Prop:=r<18446744073709551616/\(¬fin r\/∃m:Int,m.natAbs<=256/\Qw r m)
theorem aq4:Qw 4634204016564240384 256:=Qw.of (by decide) (by decide) (by rw[apK];grind)
theorem aqI:Qw 13857576053419016192 (-256):=Qw.of (by decide) (by decide) (by rw[amJ];grind)
theorem ae5(hv:v<18446744073709551616):∃r,pF r/\∀w,Calls Tryz.prog 59 #[.float .f64 v] w (RetV w (.float .f64 r)):=by
 by_cases hf:fin v
 . have hsub:∀w,(binOp .sub 27 (.float .f64 v) (.float .f64 v)).run Tryz.prog w=.ok (.float .f64 0) w:=fun w=>fJ (P:=Tryz.prog) hf 27 w
   have n64:num 4634204016564240384:=by decide
   have nm:num 13857576053419016192:=by decide
   have o1:=wU (b:=v) hf.num nm;have o2:=aeC (b:=v) hf.num n64;have o3:=qQ (b:=v) hf.num n64;have o4:=wN (b:=v) hf.num nm;rcases aoS hv hf with ⟨h1,h2,h3⟩|⟨h1,h2,h3⟩|⟨h1,h2,r,T,k1,k2,k3,k4,k5,k6,s,k7,k8⟩
   . rw[decide_eq_false h1]at o1;rw[decide_eq_false h2]at o3;rw[decide_eq_true h3]at o4
     refine⟨_,⟨by decide,Or.inr ⟨_,by decide,aqI⟩⟩,fun w=> ?_⟩;clear h1 h2 h3 o2 hv hf;go_enter Tryz.func59,Tryz.ntmps59
     go_wp2;go_ret;exact⟨rfl,bjA _ _⟩
   . rw[decide_eq_true h1]at o1;rw[decide_eq_false h2]at o2;rw[decide_eq_true h3]at o3
     refine⟨_,⟨by decide,Or.inr ⟨_,by decide,aq4⟩⟩,fun w=> ?_⟩;clear h1 h2 h3 o4 hv hf;go_enter Tryz.func59,Tryz.ntmps59
     go_wp2;go_ret;exact⟨rfl,bjA _ _⟩
   . have o5:=jK (b:=r) (c:=fl T) k2.num k5.num
     have m1:∀w,(binOp .mul 27 (.float .f64 v) (.float .f64 4616189618054758400)).run Tryz.prog w=.ok (.float .f64 r) w:=fun w=>run_float_arith w .mul 27 .f64 v 4616189618054758400 r k1;have m2:∀w,(convert 27 3 (.float .f64 r)).run Tryz.prog w=.ok (.int .i64 T) w:=fun w=>agN k3 (by omega) w;have m3:∀w,(convert 3 27 (.int .i64 T)).run Tryz.prog w=.ok (.float .f64 (fl T)) w:=fun w=>yB T w;have m4:∀w,(binOp .quo 27 (.float .f64 (fl T)) (.float .f64 4616189618054758400)).run Tryz.prog w=.ok (.float .f64 s) w:=fun w=>run_float_arith w .quo 27 .f64 (fl T) 4616189618054758400 s k7;have HF:Hid (pF s):=hdd ⟨k8.ok.1,Or.inr ⟨_,k4,k8⟩⟩;rw[decide_eq_true h1]at o1;rw[decide_eq_true h2]at o2;rw[decide_eq_false (by omega)]at o3;rw[decide_eq_false (by omega)]at o4;by_cases e:sr r=sr (fl T)
     . have HV:Hid (pF v):=hdd ⟨hv,Or.inr ⟨_,k4,k6 e⟩⟩
       rw[decide_eq_true e]at o5;refine⟨v,HV.out,fun w=> ?_⟩;clear h1 h2 k1 k2 k3 k4 k5 k6 k7 k8 hv hf e o3 o4;generalize fl T=F at*;go_enter Tryz.func59,Tryz.ntmps59
       go_wp2_with (simp only[hsub,m1,m2,m3,m4])
       go_ret;exact⟨rfl,bjA _ _⟩
     . rw[decide_eq_false e]at o5
       refine⟨s,HF.out,fun w=> ?_⟩;clear h1 h2 k1 k2 k3 k4 k5 k6 k7 k8 hv hf e;generalize fl T=F at*;go_enter Tryz.func59,Tryz.ntmps59
       go_wp2_with (simp only[hsub,m1,m2,m3,m4])
       go_ret;exact⟨rfl,bjA _ _⟩
 . refine⟨v,⟨hv,Or.inl hf⟩,fun w=> ?_⟩
   obtain⟨r,hsub,hr⟩:=mY (P:=Tryz.prog) hf 27 w;replace hr:(FloatKind.f64.format.order r 0 != some Ordering.eq)=true:=by
    rw[show FloatKind.f64.format.order r 0=none from hr];rfl
   clear hv hf;go_enter Tryz.func59,Tryz.ntmps59
   go_wp2;go_ret;exact⟨rfl,(bjA _ _).drew⟩
theorem amM{n:Int}{c:Nat}(ha:a<18446744073709551616)(hb:b<18446744073709551616)(hc:c<18446744073709551616):∃r s t,pF r/\pF s/\pF t/\∀w,Calls Tryz.prog 20 #[curV n a b c] w (RetV w (curV n r s t)):=by
 obtain⟨r,hr,ca⟩:=ae5 ha;obtain⟨s,hs,cb⟩:=ae5 hb;obtain⟨t,ht,cc⟩:=ae5 hc;refine⟨r,s,t,hr,hs,ht,fun w=> ?_⟩;obtain⟨w2,hw2,hb2,hs2,b1,b2⟩:=pro2 w (curO n a b c) (curO 0 0 0 0);obtain⟨c0,c1,c2,c3⟩:=aL b1;have HB:=hdd hb2;have B2:=hdd b2;have CA:=hdd ca;have CB:=hdd cb;have CC:=hdd cc;clear hr hs ht ca cb cc hb2 hs2 b1 b2 ha hb hc;have hst:=aX;go_enter Tryz.func20,Tryz.ntmps20
 have hd:Below w2.heap.size w2 w2.drew:=(bjA _ _).drew;replace c0:=cbl c0 hd;replace c1:=cbl c1 hd;replace c2:=cbl c2 hd;replace c3:=cbl c3 hd;replace HB:=hdd (HB.out.trans (hd.mono HB.out.size));replace B2:=hdd (hbl B2.out hd);clear hd;go_wp2_with fail
 go_region_held3 (fun w'=>w'.cell? ⟨w.heap.size,0,none⟩=some (.int .i64 n)/\w'.cell? ⟨w.heap.size,1,none⟩=some (.float .f64 a)/\w'.cell? ⟨w.heap.size,2,none⟩=some (.float .f64 b)/\w'.cell? ⟨w.heap.size,3,none⟩=some (.float .f64 c)) (go_keep)
  (first
  |(go_at_call 59
    with_reducible refine(CA.out _).mono ?_
    rintro e w5⟨rfl,hb5⟩;have c0:=cbl c0 hb5;have c1:=cbl c1 hb5;have c2:=cbl c2 hb5;have c3:=cbl c3 hb5;have HB5:=hdd (HB.out.trans (hb5.mono HB.out.size));have B5:=hdd (hbl B2.out hb5);clear hb5)
  |(go_at_call 59
    with_reducible refine(CB.out _).mono ?_
    rintro e w6⟨rfl,hb6⟩;have c0:=cbl c0 hb6;have c1:=cbl c1 hb6;have c2:=cbl c2 hb6;have c3:=cbl c3 hb6;have HB6:=hdd (HB5.out.trans (hb6.mono HB5.out.size));have B6:=hdd (hbl B5.out hb6);clear hb6)
  |(go_at_call 59
    with_reducible refine(CC.out _).mono ?_
    rintro e w7⟨rfl,hb7⟩;have c0:=cbl c0 hb7;have c1:=cbl c1 hb7;have c2:=cbl c2 hb7;have c3:=cbl c3 hb7;have HB7:=hdd (HB6.out.trans (hb7.mono HB6.out.size));have B7:=hdd (hbl B6.out hb7);obtain⟨e0,e1,e2,e3⟩:=aL B7.out;obtain⟨f0,f1,f2,f3⟩:=rT B7.out;clear hb7))
 go_wp2;obtain⟨x0,x1,x2,x3⟩:=aL (set4 B7.out (.int .i64 n) (.float .f64 r) (.float .f64 s) (.float .f64 t));refine bodyPost_ret (v:=.agg #[_,_,_,_]) (by simp[results,Tryz.results20,go_sem,x0,x1,x2,x3];first|exact⟨rfl,rfl,rfl,rfl⟩|rfl) rfl ?_;exact⟨rfl,(((HB7.out.setCell (bi9 _ 1) _).setCell (bi9 _ 1) _).setCell (bi9 _ 1) _).setCell (bi9 _ 1) _⟩
end Go.Proofs.YtjaafolhfihegaaGreatDoor
namespace Go.Proofs.YtjaafolhfihegaaGreatDoor
open Go.RowKit Go.Maps Ieee
theorem FnOk.up {f:FuncId}{g d d':Nat}{av:Array Value}{K0:List (Ex×Nat)}{V:List Nat->Value}{es:List Ex}(h:FnOk f g d av K0 V es)(hd:d<=d'):FnOk f g d' av K0 V es:=fun s N K l W hR hN hK=>
 (h s N K l W hR (by omega) hK).mono fun e W' ⟨ks,h1,h2,h3⟩=>⟨ks,h1,h2,h3.more (by omega)⟩
theorem aq5{T:Int}(h:T.natAbs<2^53):Iw (fl T) T:=⟨⟨(pE h).1,(pE h).2.1⟩,(pE h).2.2⟩
theorem aqJ{r:Nat}(h:pF r)(hf:fin r):∃m:Int,m.natAbs<=256/\Qw r m:=h.2.resolve_left fun k=>k hf
end Go.Proofs.YtjaafolhfihegaaGreatDoor
