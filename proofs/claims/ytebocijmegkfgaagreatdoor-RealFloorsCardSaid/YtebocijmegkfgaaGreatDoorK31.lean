/- A part of the proof: contracts of functions and plain laws (OwR, AlvQ). -/
import Derived.Test.YtebocijmegkfgaaGreatDoorK30
set_option linter.unusedVariables false
set_option linter.unusedSimpArgs false
set_option maxHeartbeats 25600000
set_option maxRecDepth 100000
namespace Go.Proofs.YtebocijmegkfgaaGreatDoor
section
open Go.RowKit Go.Maps
section
variable{s:Bs}{g N n n' sz g0 cap:Nat}{K:List (Ex×Nat)}{L lr:List (Nat×Obj)}{W w':World}{v:Value}{xs xs':List Value}{T:TypeId}
end
section
variable{s:Bs}{g N n sz:Nat}{K:List (Ex×Nat)}{L lr:List (Nat×Obj)}{W:World}{v:Value}{xs:List Value}{T:TypeId}
end
section
variable{s:Bs}{g N n sz:Nat}{K:List (Ex×Nat)}{L lr:List (Nat×Obj)}{W:World}{v:Value}{xs:List Value}{T:TypeId}
end
end
section
open Go.RowKit Go.Maps
open Re (rat)
open Rat renaming intCast_le_intCast->azN
abbrev a17:Ex:=.root (.leaf 4625478292286210048)
abbrev n17:Ex:=.sub (.leaf 0) a17
theorem ag5{x:Ex}{K jj:Nat}{v:Re}{bits:Int}{b:Bl}(hG:Gd K jj x v)(hs:bN (pw 0) x<=4000000)(hn:dA x (pw 0)=some b)(hw:fM b.lo b.hi bits=true):CloE x bits 0:=
 ⟨⟨v,hG.den⟩,hG.fin,hs,by decide,b,hn,hw⟩
theorem akJ:(∃q,lJ PT a17 q)/\(∃q,lJ PT n17 q)/\lJ PT (.sub a17 (.leaf 4616189618054758400)) 1/\CloE a17 1 0/\CloE n17 1 0:=by
 obtain⟨x,hx,ex⟩:=Re.exists_sqrt (show(0:Re)<=rat ((17:Int):Rat) by rw[Re.zero_rat,Re.rat_le];exact azN.2 (by decide));obtain⟨L,hL⟩:∃L:List Ex,L=[a17]:=⟨_,rfl⟩;have l1:L.length=1:=by rw[hL];rfl
 have f17:=xF (L:=L) (k:=17) 5 (by decide) (by decide);have f4:=xF (L:=L) (k:=4) 3 (by decide) (by decide);have f0:=xF (L:=L) (k:=0) 1 (by decide) (by decide);have X:=Fit.root f17 hx ex (by rw[hL];exact List.mem_singleton.2 rfl);have S:=Fit.sub X f4;have N:=Fit.sub f0 X;have hX:=X (by rw[l1];decide+kernel);have hN:=N (by rw[l1];decide+kernel);have gX:=hX.good (by rw[l1];decide+kernel);have gN:=hN.good (by rw[l1];decide+kernel);have h3:=S.sgn (P:=PT) (by rw[l1];decide+kernel);have e17:li 17=.leaf 4625478292286210048:=congrArg Ex.leaf (by decide+kernel);have e4:li 4=.leaf 4616189618054758400:=congrArg Ex.leaf (by decide+kernel);have e0:li 0=.leaf 0:=congrArg Ex.leaf (by decide+kernel);have hp:rat ((4:Int):Rat)<x:=by
  rcases Re.lt_or_ge (rat ((4:Int):Rat)) x with h|h
  . exact h
  . have h4:(0:Re)<=rat ((4:Int):Rat):=by rw[Re.zero_rat,Re.rat_le];exact azN.2 (by decide)
    have h5:=Re.mul_le_mul hx h hx h;rw[ex,<-Re.rat_mul,Re.rat_le,<-Rat.intCast_mul]at h5;exact absurd (azN.1 h5) (by decide)
 rw[Re.sgn_pos (Re.sub_pos.2 hp)]at h3;have sX:=(X.sgn (P:=PT) (by rw[l1];decide+kernel));have sN:=(N.sgn (P:=PT) (by rw[l1];decide+kernel));rw[e17]at gX gN h3 sX sN;rw[e0]at gN sN;rw[e4]at h3;exact⟨⟨_,sX⟩,⟨_,sN⟩,h3,ag5 (b:=⟨⟨2213575477,-29⟩,⟨1106787739,-28⟩⟩) gX (by decide+kernel) (by kernel_rfl) (by decide+kernel),ag5 (b:=⟨⟨-1106787739,-28⟩,⟨-2213575477,-29⟩⟩) gN (by decide+kernel) (by kernel_rfl) (by decide+kernel)⟩
theorem akK:(∀k b,k<=0->dA a17 (pw k)=some b->fM b.lo b.hi 1=true->b.hi.exp<0/\flrD b.hi=4/\cmpD (mkDy 4 0) b.lo<0)/\
 ∀k b,k<=0->dA n17 (pw k)=some b->fM b.lo b.hi 1=true->b.hi.exp<0/\flrD b.hi=-5/\cmpD (mkDy (-5) 0) b.lo<0:=by
 constructor
 . intro k b hk hn _
   obtain rfl:=Nat.le_zero.1 hk;obtain rfl:(⟨⟨2213575477,-29⟩,⟨1106787739,-28⟩⟩:Bl)=b:=Option.some.inj ((show dA a17 (pw 0)=some ⟨⟨2213575477,-29⟩,⟨1106787739,-28⟩⟩ by kernel_rfl).symm.trans hn);decide+kernel
 . intro k b hk hn _
   obtain rfl:=Nat.le_zero.1 hk;obtain rfl:(⟨⟨-1106787739,-28⟩,⟨-2213575477,-29⟩⟩:Bl)=b:=Option.some.inj ((show dA n17 (pw 0)=some ⟨⟨-1106787739,-28⟩,⟨-2213575477,-29⟩⟩ by kernel_rfl).symm.trans hn);decide+kernel
theorem dg_4:(if (4:Int)<0 then⟨#[45]⟩++dgS (4:Int).natAbs else dgS (4:Int).natAbs:ByteArray)=⟨#[52]⟩:=by decide+kernel
theorem akL:(if (-5:Int)<0 then⟨#[45]⟩++dgS (-5:Int).natAbs else dgS (-5:Int).natAbs:ByteArray)=⟨#[45,53]⟩:=by decide+kernel
end
end Go.Proofs.YtebocijmegkfgaaGreatDoor
