/- A part of the proof: contracts of functions and plain laws (MwA, LiB, LiC, FwA, FwB, LtA, GrA, MkA, TuC, MoA, QlV, QlX, MkD, QlU). -/
import Derived.Test.YtjaafolhfihegaaGreatDoorU40
import Derived.Test.YtjaafolhfihegaaGreatDoorU22
import Derived.Test.YtjaafolhfihegaaGreatDoorU12
import Derived.Test.YtjaafolhfihegaaGreatDoorU24
import Derived.Test.YtjaafolhfihegaaGreatDoorU23
set_option linter.unusedVariables false
set_option linter.unusedSimpArgs false
set_option maxHeartbeats 25600000
set_option maxRecDepth 100000
namespace Go.Proofs.YtjaafolhfihegaaGreatDoor
open Go.RowKit Go.Maps Go.Stop Go.Extern
variable{T:Int}{b:Nat}
abbrev w25:Nat:=4627730092099895296
abbrev w1:Nat:=4607182418800017408
theorem aqJ:Iw w25 25:=⟨⟨by decide,by decide⟩,by kernel_rfl⟩
theorem iw_1:Iw w1 1:=⟨⟨by decide,by decide⟩,aqI⟩
theorem nsub{x y:Int}{m n:Nat}(h:x.natAbs<=m)(g:y.natAbs<=n):(x-y).natAbs<=m+n:=by omega
theorem an6(h:Iw b T):Iw (b ^^^ 2^63) (-T):=by
 obtain⟨h1,h2,h3⟩:=nA h.1.1;refine⟨⟨h1,by unfold fin;rw[h2];exact h.1.2⟩,?_⟩;unfold fv;rw[h3,uJ,Int.neg_mul];exact congrArg (- ·) h.2
theorem aqK(h:Iw b T)(h0:0<=T):0<=fv b:=by rw[h.2];exact Int.mul_nonneg h0 (Int.natCast_nonneg _)
theorem aqL(h:Iw b T)(h0:T≠0):fv b≠0:=by
 rw[h.2];exact Int.mul_ne_zero h0 (by have:=an5;omega)
theorem al3(b:Nat)(w:World):(Op.unary UnOp.neg (.float .f64 b)).run Tryz.prog w=.ok (.float .f64 (b ^^^ 2^63)) w:=by kernel_rfl
end Go.Proofs.YtjaafolhfihegaaGreatDoor
namespace Go.Proofs.YtjaafolhfihegaaGreatDoor
open Go.RowKit Go.Maps
end Go.Proofs.YtjaafolhfihegaaGreatDoor
namespace Go.Proofs.YtjaafolhfihegaaGreatDoor
open Go.RowKit Go.Maps
open Ieee
end Go.Proofs.YtjaafolhfihegaaGreatDoor
namespace Go.Proofs.YtjaafolhfihegaaGreatDoor
open Go.RowKit Go.Maps Ieee
open Go.RowKit.Below renaming heap_setCell->biV
theorem adG{B:Nat}{w0 w1:World}{g:Nat}{T:TypeId}{z0 z1 z2 z3 a b c d:Value}(hb:Below B w0 w1)(hg:B<=g)(h:w1.heap[g]? =some (.cells #[z0,z1,z2,z3] T (0,0))):
 ∃w2,(((w1.setCell ⟨g,0,none⟩ a).setCell ⟨g,1,none⟩ b).setCell ⟨g,2,none⟩ c).setCell ⟨g,3,none⟩ d=w2/\Below B w0 w2/\w2.heap[g]? =some (.cells #[a,b,c,d] T (0,0))/\∀i,g≠i->w2.heap[i]? =w1.heap[i]? :=by
 refine⟨_,rfl,(((hb.setCell hg _).setCell hg _).setCell hg _).setCell hg _,set4 h _ _ _ _,fun i hi=> ?_⟩;rw[biV _ _ _ _ (by simp;omega),biV _ _ _ _ (by simp;omega),biV _ _ _ _ (by simp;omega),biV _ _ _ _ (by simp;omega)]
end Go.Proofs.YtjaafolhfihegaaGreatDoor
namespace Go.Proofs.YtjaafolhfihegaaGreatDoor
open Go.RowKit Go.Maps Go.Stop Go.Extern
open Go.RowKit.Below renaming heap_setCell->biW
variable{K0:List (Ex×Nat)}{B g i j k l wa wb wc:Nat}{T:TypeId}{a b z0 z1 z2 z3:Value}{W w w0 w1:World}
theorem ixp0(a b:Int)(w:World):(Instr.index 77 (.agg #[.int .i64 a,.int .i64 b]) (.int .i64 0)).run Tryz.prog w=.ok (.int .i64 a) w:=by kernel_rfl
theorem ixp1(a b:Int)(w:World):(Instr.index 77 (.agg #[.int .i64 a,.int .i64 b]) (.int .i64 1)).run Tryz.prog w=.ok (.int .i64 b) w:=by kernel_rfl
theorem al4(hb:Below B w0 w1)(hg:B<=g)(h:w1.heap[g]? =some (.cells #[z0,z1,z2,z3] T (0,0))):
 ∃w2,(w1.setCell ⟨g,0,none⟩ a).setCell ⟨g,1,none⟩ b=w2/\Below B w0 w2/\w2.heap[g]? =some (.cells #[a,b,z2,z3] T (0,0))/\∀i,g≠i->w2.heap[i]? =w1.heap[i]? :=
 ⟨_,rfl,(hb.setCell hg _).setCell hg _,mF (cs:=[a,z1,z2,z3]) (k:=1) (mF (cs:=[z0,z1,z2,z3]) (k:=0) h),fun i hi=>by rw[biW _ _ _ _ (by simp;omega),biW _ _ _ _ (by simp;omega)]⟩
theorem al5(hb:Below B w0 w1)(hg:B<=g)(h:w1.heap[g]? =some (.cells #[z0,z1,z2,z3] T (0,0))):
 ∃w2,(w1.setCell ⟨g,2,none⟩ a).setCell ⟨g,3,none⟩ b=w2/\Below B w0 w2/\w2.heap[g]? =some (.cells #[z0,z1,a,b] T (0,0))/\∀i,g≠i->w2.heap[i]? =w1.heap[i]? :=
 ⟨_,rfl,(hb.setCell hg _).setCell hg _,mF (cs:=[z0,z1,a,z3]) (k:=3) (mF (cs:=[z0,z1,z2,z3]) (k:=2) h),fun i hi=>by rw[biW _ _ _ _ (by simp;omega),biW _ _ _ _ (by simp;omega)]⟩
def gK(w:World)(b:Nat):Nat->List Value->World
 |_,[]=>w
 |k,v::vs=>gK (w.setCell ⟨b,k,none⟩ v) b (k+1) vs
theorem eH{b:Nat}:∀(vs:List Value) (k:Nat) (w:World),w.grownBy (gK w b k vs) (some b)
 |[],_,w=>kP w _
 |v::vs,k,w=>grownBy_trans (grownBy_set (kP w _) v) (eH vs (k+1) _)
theorem sN{b:Nat}{T:TypeId}:∀(vs pre rest:List Value) (w:World),w.heap[b]? =some (.cells (pre++rest).toArray T (0,0))->rest.length=vs.length->(gK w b pre.length vs).heap[b]? =some (.cells (pre++vs).toArray T (0,0))
 |[],pre,[],w,h,_=>h
 |[],_,_::_,_,_,e=>by simp at e
 |_::_,_,[],_,_,e=>by simp at e
 |v::vs,pre,r::rest,w,h,e=>by
  have h1:=mF (k:=pre.length) (v:=v) h;have e1:(pre++r::rest).set pre.length v=(pre++[v])++rest:=by simp
  rw[e1]at h1;have h2:=sN vs (pre++[v]) rest _ h1 (by simpa using e);rw[List.append_assoc]at h2;rw[List.length_append,List.length_singleton]at h2;exact h2
theorem jO{b:Nat}{cs vs:List Value}(h:w.heap[b]? =some (.cells cs.toArray T (0,0)))(e:cs.length=vs.length):(gK w b 0 vs).heap[b]? =some (.cells vs.toArray T (0,0)):=sN vs [] cs w h e
theorem m_lb{x y:Nat×Obj}{ln lb l:List (Nat×Obj)}(h:x∈lb):x∈y::(ln++(lb++l)):=List.mem_cons_of_mem _ (List.mem_append.2 (Or.inr (List.mem_append.2 (Or.inl h))))
theorem gY{b:Nat}{cs:Array Value}(h:w.heap[b]? =some (.cells cs T (0,0)))(k:Nat):w.frozen? ⟨b,k,none⟩=false:=by simp[World.frozen?,h]
def qA(g:Nat)(av:Value)(K0:List (Ex×Nat))(ok:Bool):Prop:=
 ∀(s:Bs) (N:Nat) (K:List (Ex×Nat)) (l:List (Nat×Obj)) (W:World),Run s g N K l W->N+20<=20000->(∀p∈K0,p∈K)->
  Calls Tryz.prog 16 #[.pointer (some ⟨g,0,none⟩),av] W (fun e W'=>∃r,e=.returned r/\(ok=true->r=.nilIface)/\(ok=false->∃t x,r=.iface t x)/\Run s g (N+20) K l W')
theorem kH{d:Nat}{av:Value}{ok:Bool}(h:FnOk 16 g d #[.pointer (some ⟨g,0,none⟩),av] K0 (fun _=>chkV ok) [])(hd:d<=20):qA g av K0 ok:=by
 intro s N K l W hR hN hK;refine(h s N K l W hR (by omega) hK).mono ?_;rintro e W'⟨ks,-,rfl,hR2⟩;refine⟨_,rfl,fun h=>by rw[h];rfl,fun h=> ?_,hR2.more (by omega)⟩;rw[h];exact⟨_,_,rfl⟩
theorem ErK.shape {S:Nat->Prop}{n:Nat}{v:Value}{k:Int}(h:ErK S w n v k):∃t x,v=.iface t x:=by cases h<;>exact⟨_,_,rfl⟩
theorem agC{ca cb cc:Nat}(ha:ca<18446744073709551616)(hb:cb<18446744073709551616)(hc:cc<18446744073709551616)(h:¬mE ca cb cc):qA g (arcW g 1 ca cb cc i j k l) K0 false:=by
 intro s N K ls W hR hN hK;obtain⟨w1,hw1,hb1,hs1,b1⟩:=pro1 W (.cells #[.int .i64 1,.float .f64 ca,.float .f64 cb,.float .f64 cc,.pointer (some ⟨g,0,none⟩),.int .i64 (i:Int),.pointer (some ⟨g,0,none⟩),.int .i64 (j:Int),.pointer (some ⟨g,0,none⟩),.int .i64 (k:Int),.pointer (some ⟨g,0,none⟩),.int .i64 (l:Int)] 35);have c0:=aA (k:=0) (v:=.int .i64 1) b1 rfl;have c1:=aA (k:=1) (v:=.float .f64 ca) b1 rfl;have c2:=aA (k:=2) (v:=.float .f64 cb) b1 rfl;have c3:=aA (k:=3) (v:=.float .f64 cc) b1 rfl;have HB:=hdd hb1;have HR:=hdd hR;have hN':=hdd hN;have HL:=hdd (yD (w:=w1) ha hb hc h);clear ha hb hc h hb1 hs1 b1 hR hN hK;go_enter Tryz.func16,Tryz.ntmps16
 go_wp2_with fail
 refine HL.out.mono ?_;rintro e w2⟨er,n,rfl,-,hk,hb2⟩;obtain⟨t,x,rfl⟩:=hk.shape;have HB2:=hdd (aC HB.out hb2);clear hk hb2 HL HB c0 c1 c2 c3 hw1;go_wp2_with fail
 refine(acI (t:=t) (x:=x)).mono ?_;rintro e w3⟨t2,x2,rfl,hb3⟩;have HF:=hdd ((HR.out.step (aC HB2.out hb3)).more (show N<=N+20 by omega));clear hb3 HB2 HR;go_wp2;go_ret;exact⟨_,rfl,fun h=>by simp at h,fun _=>⟨_,_,rfl⟩,HF.out⟩
theorem adH:Calls Tryz.prog 15 #[arcW g 2 wa wb wc i j k l] W (RetV W (arcW g 2 wa wb wc i j k l)):=by
 obtain⟨w1,hw1,hb1,hs1,b1,b2⟩:=pro2 W (.cells #[.int .i64 2,.float .f64 wa,.float .f64 wb,.float .f64 wc,.pointer (some ⟨g,0,none⟩),.int .i64 (i:Int),.pointer (some ⟨g,0,none⟩),.int .i64 (j:Int),.pointer (some ⟨g,0,none⟩),.int .i64 (k:Int),.pointer (some ⟨g,0,none⟩),.int .i64 (l:Int)] 35) (.cells #[.int .i64 0,.float .f64 0,.float .f64 0,.float .f64 0,.pointer none,.int .i64 0,.pointer none,.int .i64 0,.pointer none,.int .i64 0,.pointer none,.int .i64 0] 35);have x0:=aA (k:=0) (v:=.int .i64 2) b1 rfl;have x1:=aA (k:=1) (v:=.float .f64 wa) b1 rfl;have x2:=aA (k:=2) (v:=.float .f64 wb) b1 rfl;have x3:=aA (k:=3) (v:=.float .f64 wc) b1 rfl;have x4:=aA (k:=4) (v:=.pointer (some ⟨g,0,none⟩)) b1 rfl;have x5:=aA (k:=5) (v:=.int .i64 (i:Int)) b1 rfl;have x6:=aA (k:=6) (v:=.pointer (some ⟨g,0,none⟩)) b1 rfl;have x7:=aA (k:=7) (v:=.int .i64 (j:Int)) b1 rfl;have x8:=aA (k:=8) (v:=.pointer (some ⟨g,0,none⟩)) b1 rfl;have x9:=aA (k:=9) (v:=.int .i64 (k:Int)) b1 rfl;have x10:=aA (k:=10) (v:=.pointer (some ⟨g,0,none⟩)) b1 rfl;have x11:=aA (k:=11) (v:=.int .i64 (l:Int)) b1 rfl
 have y0:=aA (k:=0) (v:=.int .i64 0) b2 rfl;have y1:=aA (k:=1) (v:=.float .f64 0) b2 rfl;have y2:=aA (k:=2) (v:=.float .f64 0) b2 rfl;have y3:=aA (k:=3) (v:=.float .f64 0) b2 rfl;have y4:=aA (k:=4) (v:=.pointer none) b2 rfl;have y5:=aA (k:=5) (v:=.int .i64 0) b2 rfl;have y6:=aA (k:=6) (v:=.pointer none) b2 rfl;have y7:=aA (k:=7) (v:=.int .i64 0) b2 rfl;have y8:=aA (k:=8) (v:=.pointer none) b2 rfl;have y9:=aA (k:=9) (v:=.int .i64 0) b2 rfl;have y10:=aA (k:=10) (v:=.pointer none) b2 rfl;have y11:=aA (k:=11) (v:=.int .i64 0) b2 rfl;have z2:=gY b2;have z1:=gY b1;have B1:=hdd b1;have B2:=hdd b2;have HB:=hdd hb1;clear b1 b2 hb1 hs1;have hst:=aQ;go_enter Tryz.func15,Tryz.ntmps15
 go_wp2_with fail
 obtain⟨w5,hw5⟩:∃v,gK w1 (W.heap.size+1) 0 [.int .i64 2,.float .f64 wa,.float .f64 wb,.float .f64 wc,.pointer (some ⟨g,0,none⟩),.int .i64 (i:Int),.pointer (some ⟨g,0,none⟩),.int .i64 (j:Int),.pointer (some ⟨g,0,none⟩),.int .i64 (k:Int),.pointer (some ⟨g,0,none⟩),.int .i64 (l:Int)]=v:=⟨_,rfl⟩;have gw5:=eH (b:=W.heap.size+1) [.int .i64 2,.float .f64 wa,.float .f64 wb,.float .f64 wc,.pointer (some ⟨g,0,none⟩),.int .i64 (i:Int),.pointer (some ⟨g,0,none⟩),.int .i64 (j:Int),.pointer (some ⟨g,0,none⟩),.int .i64 (k:Int),.pointer (some ⟨g,0,none⟩),.int .i64 (l:Int)] 0 w1;have sw5:=jO (vs:=[.int .i64 2,.float .f64 wa,.float .f64 wb,.float .f64 wc,.pointer (some ⟨g,0,none⟩),.int .i64 (i:Int),.pointer (some ⟨g,0,none⟩),.int .i64 (j:Int),.pointer (some ⟨g,0,none⟩),.int .i64 (k:Int),.pointer (some ⟨g,0,none⟩),.int .i64 (l:Int)]) B2.out rfl;rw[hw5]at gw5 sw5;have HF:=hdd (HB.out.trans (Below.of_grown gw5 HB.out.size (Nat.le_succ _)));have F:=hdd sw5;simp only[gK]at hw5;clear x0 x1 x2 x3 x4 x5 x6 x7 x8 x9 x10 x11 y0 y1 y2 y3 y4 y5 y6 y7 y8 y9 y10 y11 z2 gw5 sw5
 simp only[hw5];clear hw5;have x0:=aA (k:=0) (v:=.int .i64 2) F.out rfl;have x1:=aA (k:=1) (v:=.float .f64 wa) F.out rfl;have x2:=aA (k:=2) (v:=.float .f64 wb) F.out rfl;have x3:=aA (k:=3) (v:=.float .f64 wc) F.out rfl;have x4:=aA (k:=4) (v:=.pointer (some ⟨g,0,none⟩)) F.out rfl;have x5:=aA (k:=5) (v:=.int .i64 (i:Int)) F.out rfl;have x6:=aA (k:=6) (v:=.pointer (some ⟨g,0,none⟩)) F.out rfl;have x7:=aA (k:=7) (v:=.int .i64 (j:Int)) F.out rfl;have x8:=aA (k:=8) (v:=.pointer (some ⟨g,0,none⟩)) F.out rfl;have x9:=aA (k:=9) (v:=.int .i64 (k:Int)) F.out rfl;have x10:=aA (k:=10) (v:=.pointer (some ⟨g,0,none⟩)) F.out rfl;have x11:=aA (k:=11) (v:=.int .i64 (l:Int)) F.out rfl;go_wp2;refine bodyPost_ret (v:=.agg #[_,_,_,_,_,_,_,_,_,_,_,_]) (by simp[results,Tryz.results15,go_sem,x0,x1,x2,x3,x4,x5,x6,x7,x8,x9,x10,x11];first|exact⟨rfl,rfl,rfl,rfl,rfl,rfl,rfl,rfl,rfl,rfl,rfl,rfl⟩|rfl) rfl ?_;exact⟨rfl,HF.out⟩
theorem adI:Calls Tryz.prog 15 #[arcW g 1 wa wb wc i j k l] W (RetV W (arcW g 1 wa wb wc k l i j)):=by
 obtain⟨w1,hw1,hb1,hs1,b1,b2⟩:=pro2 W (.cells #[.int .i64 1,.float .f64 wa,.float .f64 wb,.float .f64 wc,.pointer (some ⟨g,0,none⟩),.int .i64 (i:Int),.pointer (some ⟨g,0,none⟩),.int .i64 (j:Int),.pointer (some ⟨g,0,none⟩),.int .i64 (k:Int),.pointer (some ⟨g,0,none⟩),.int .i64 (l:Int)] 35) (.cells #[.int .i64 0,.float .f64 0,.float .f64 0,.float .f64 0,.pointer none,.int .i64 0,.pointer none,.int .i64 0,.pointer none,.int .i64 0,.pointer none,.int .i64 0] 35);have x0:=aA (k:=0) (v:=.int .i64 1) b1 rfl;have x1:=aA (k:=1) (v:=.float .f64 wa) b1 rfl;have x2:=aA (k:=2) (v:=.float .f64 wb) b1 rfl;have x3:=aA (k:=3) (v:=.float .f64 wc) b1 rfl;have x4:=aA (k:=4) (v:=.pointer (some ⟨g,0,none⟩)) b1 rfl;have x5:=aA (k:=5) (v:=.int .i64 (i:Int)) b1 rfl;have x6:=aA (k:=6) (v:=.pointer (some ⟨g,0,none⟩)) b1 rfl;have x7:=aA (k:=7) (v:=.int .i64 (j:Int)) b1 rfl;have x8:=aA (k:=8) (v:=.pointer (some ⟨g,0,none⟩)) b1 rfl;have x9:=aA (k:=9) (v:=.int .i64 (k:Int)) b1 rfl;have x10:=aA (k:=10) (v:=.pointer (some ⟨g,0,none⟩)) b1 rfl;have x11:=aA (k:=11) (v:=.int .i64 (l:Int)) b1 rfl
 have y0:=aA (k:=0) (v:=.int .i64 0) b2 rfl;have y1:=aA (k:=1) (v:=.float .f64 0) b2 rfl;have y2:=aA (k:=2) (v:=.float .f64 0) b2 rfl;have y3:=aA (k:=3) (v:=.float .f64 0) b2 rfl;have y4:=aA (k:=4) (v:=.pointer none) b2 rfl;have y5:=aA (k:=5) (v:=.int .i64 0) b2 rfl;have y6:=aA (k:=6) (v:=.pointer none) b2 rfl;have y7:=aA (k:=7) (v:=.int .i64 0) b2 rfl;have y8:=aA (k:=8) (v:=.pointer none) b2 rfl;have y9:=aA (k:=9) (v:=.int .i64 0) b2 rfl;have y10:=aA (k:=10) (v:=.pointer none) b2 rfl;have y11:=aA (k:=11) (v:=.int .i64 0) b2 rfl;have z2:=gY b2;have z1:=gY b1;have B1:=hdd b1;have B2:=hdd b2;have HB:=hdd hb1;clear b1 b2 hb1 hs1;have hst:=aQ;go_enter Tryz.func15,Tryz.ntmps15
 go_upto_region 3 with fail
 obtain⟨w2,hw2⟩:∃v,gK w1 (W.heap.size) 4 [.pointer (some ⟨g,0,none⟩),.int .i64 (k:Int),.pointer (some ⟨g,0,none⟩),.int .i64 (l:Int),.pointer (some ⟨g,0,none⟩),.int .i64 (i:Int),.pointer (some ⟨g,0,none⟩),.int .i64 (j:Int)]=v:=⟨_,rfl⟩;have gw2:=eH (b:=W.heap.size) [.pointer (some ⟨g,0,none⟩),.int .i64 (k:Int),.pointer (some ⟨g,0,none⟩),.int .i64 (l:Int),.pointer (some ⟨g,0,none⟩),.int .i64 (i:Int),.pointer (some ⟨g,0,none⟩),.int .i64 (j:Int)] 4 w1;have sw2:(gK w1 (W.heap.size) 4 [.pointer (some ⟨g,0,none⟩),.int .i64 (k:Int),.pointer (some ⟨g,0,none⟩),.int .i64 (l:Int),.pointer (some ⟨g,0,none⟩),.int .i64 (i:Int),.pointer (some ⟨g,0,none⟩),.int .i64 (j:Int)]).heap[W.heap.size]? =some (.cells #[.int .i64 1,.float .f64 wa,.float .f64 wb,.float .f64 wc,.pointer (some ⟨g,0,none⟩),.int .i64 (k:Int),.pointer (some ⟨g,0,none⟩),.int .i64 (l:Int),.pointer (some ⟨g,0,none⟩),.int .i64 (i:Int),.pointer (some ⟨g,0,none⟩),.int .i64 (j:Int)] 35):=sN [.pointer (some ⟨g,0,none⟩),.int .i64 (k:Int),.pointer (some ⟨g,0,none⟩),.int .i64 (l:Int),.pointer (some ⟨g,0,none⟩),.int .i64 (i:Int),.pointer (some ⟨g,0,none⟩),.int .i64 (j:Int)] [.int .i64 1,.float .f64 wa,.float .f64 wb,.float .f64 wc] _ _ B1.out rfl
 rw[hw2]at gw2 sw2;have B3:=hdd sw2;have B4:=hdd ((gw2.block (W.heap.size+1) (aG B2.out) (by simp)).trans B2.out);have HB2:=hdd (HB.out.trans (Below.of_grown gw2 HB.out.size nlr));simp only[gK]at hw2;clear x0 x1 x2 x3 x4 x5 x6 x7 x8 x9 x10 x11 y0 y1 y2 y3 y4 y5 y6 y7 y8 y9 y10 y11 z1 z2 gw2 sw2 B1 B2 HB hw1;simp only[hw2];clear hw2;have x0:=aA (k:=0) (v:=.int .i64 1) B3.out rfl;have x1:=aA (k:=1) (v:=.float .f64 wa) B3.out rfl;have x2:=aA (k:=2) (v:=.float .f64 wb) B3.out rfl;have x3:=aA (k:=3) (v:=.float .f64 wc) B3.out rfl;have x4:=aA (k:=4) (v:=.pointer (some ⟨g,0,none⟩)) B3.out rfl;have x5:=aA (k:=5) (v:=.int .i64 (k:Int)) B3.out rfl;have x6:=aA (k:=6) (v:=.pointer (some ⟨g,0,none⟩)) B3.out rfl;have x7:=aA (k:=7) (v:=.int .i64 (l:Int)) B3.out rfl;have x8:=aA (k:=8) (v:=.pointer (some ⟨g,0,none⟩)) B3.out rfl;have x9:=aA (k:=9) (v:=.int .i64 (i:Int)) B3.out rfl;have x10:=aA (k:=10) (v:=.pointer (some ⟨g,0,none⟩)) B3.out rfl;have x11:=aA (k:=11) (v:=.int .i64 (j:Int)) B3.out rfl
 have y0:=aA (k:=0) (v:=.int .i64 0) B4.out rfl;have y1:=aA (k:=1) (v:=.float .f64 0) B4.out rfl;have y2:=aA (k:=2) (v:=.float .f64 0) B4.out rfl;have y3:=aA (k:=3) (v:=.float .f64 0) B4.out rfl;have y4:=aA (k:=4) (v:=.pointer none) B4.out rfl;have y5:=aA (k:=5) (v:=.int .i64 0) B4.out rfl;have y6:=aA (k:=6) (v:=.pointer none) B4.out rfl;have y7:=aA (k:=7) (v:=.int .i64 0) B4.out rfl;have y8:=aA (k:=8) (v:=.pointer none) B4.out rfl;have y9:=aA (k:=9) (v:=.int .i64 0) B4.out rfl;have y10:=aA (k:=10) (v:=.pointer none) B4.out rfl;have y11:=aA (k:=11) (v:=.int .i64 0) B4.out rfl;have z2:=gY B4.out;go_wp2_with fail
 obtain⟨w5,hw5⟩:∃v,gK w2 (W.heap.size+1) 0 [.int .i64 1,.float .f64 wa,.float .f64 wb,.float .f64 wc,.pointer (some ⟨g,0,none⟩),.int .i64 (k:Int),.pointer (some ⟨g,0,none⟩),.int .i64 (l:Int),.pointer (some ⟨g,0,none⟩),.int .i64 (i:Int),.pointer (some ⟨g,0,none⟩),.int .i64 (j:Int)]=v:=⟨_,rfl⟩;have gw5:=eH (b:=W.heap.size+1) [.int .i64 1,.float .f64 wa,.float .f64 wb,.float .f64 wc,.pointer (some ⟨g,0,none⟩),.int .i64 (k:Int),.pointer (some ⟨g,0,none⟩),.int .i64 (l:Int),.pointer (some ⟨g,0,none⟩),.int .i64 (i:Int),.pointer (some ⟨g,0,none⟩),.int .i64 (j:Int)] 0 w2;have sw5:=jO (vs:=[.int .i64 1,.float .f64 wa,.float .f64 wb,.float .f64 wc,.pointer (some ⟨g,0,none⟩),.int .i64 (k:Int),.pointer (some ⟨g,0,none⟩),.int .i64 (l:Int),.pointer (some ⟨g,0,none⟩),.int .i64 (i:Int),.pointer (some ⟨g,0,none⟩),.int .i64 (j:Int)]) B4.out rfl;rw[hw5]at gw5 sw5;have HF:=hdd (HB2.out.trans (Below.of_grown gw5 HB2.out.size (Nat.le_succ _)));have F:=hdd sw5;simp only[gK]at hw5;clear x0 x1 x2 x3 x4 x5 x6 x7 x8 x9 x10 x11 y0 y1 y2 y3 y4 y5 y6 y7 y8 y9 y10 y11 z2 gw5 sw5
 simp only[hw5];clear hw5;have x0:=aA (k:=0) (v:=.int .i64 1) F.out rfl;have x1:=aA (k:=1) (v:=.float .f64 wa) F.out rfl;have x2:=aA (k:=2) (v:=.float .f64 wb) F.out rfl;have x3:=aA (k:=3) (v:=.float .f64 wc) F.out rfl;have x4:=aA (k:=4) (v:=.pointer (some ⟨g,0,none⟩)) F.out rfl;have x5:=aA (k:=5) (v:=.int .i64 (k:Int)) F.out rfl;have x6:=aA (k:=6) (v:=.pointer (some ⟨g,0,none⟩)) F.out rfl;have x7:=aA (k:=7) (v:=.int .i64 (l:Int)) F.out rfl;have x8:=aA (k:=8) (v:=.pointer (some ⟨g,0,none⟩)) F.out rfl;have x9:=aA (k:=9) (v:=.int .i64 (i:Int)) F.out rfl;have x10:=aA (k:=10) (v:=.pointer (some ⟨g,0,none⟩)) F.out rfl;have x11:=aA (k:=11) (v:=.int .i64 (j:Int)) F.out rfl;go_wp2;refine bodyPost_ret (v:=.agg #[_,_,_,_,_,_,_,_,_,_,_,_]) (by simp[results,Tryz.results15,go_sem,x0,x1,x2,x3,x4,x5,x6,x7,x8,x9,x10,x11];first|exact⟨rfl,rfl,rfl,rfl,rfl,rfl,rfl,rfl,rfl,rfl,rfl,rfl⟩|rfl) rfl ?_;exact⟨rfl,HF.out⟩
end Go.Proofs.YtjaafolhfihegaaGreatDoor
namespace Go.Proofs.YtjaafolhfihegaaGreatDoor
open Go.RowKit Go.Maps
open Int renaming lt_tmod_of_pos->biX,tmod_lt_of_pos->biY
variable{a:Int}
theorem aoO(k:Int):∃J:Nat,J<12/\(k.tmod 12+12).tmod 12=(J:Int):=by
 have h1:=biX k (show(0:Int)<12 by omega);have h3:0<=(k.tmod 12+12).tmod 12:=Int.tmod_nonneg _ (by omega);have h4:=biY (k.tmod 12+12) (show(0:Int)<12 by omega);exact⟨((k.tmod 12+12).tmod 12).toNat,by omega,by omega⟩
theorem flw(h:a.natAbs<=6):Iw (fl a) a:=⟨⟨(aeW (by omega)).1,(aeW (by omega)).2.1⟩,(aeW (by omega)).2.2⟩
theorem tmb(k:Int)(n:Nat)(h:0<n):(k.tmod (n:Int)).natAbs<=n-1:=by
 have h1:=biX k (show(0:Int)<(n:Int) by omega);have h2:=biY k (show(0:Int)<(n:Int) by omega);omega
theorem abA{J:Nat}(k:Int)(hJ:J<12)(e:k.tmod 7=a):Iw (fl a) a/\a.natAbs<=6/\(∃p,Op2 .add (fl a) (kX J) p/\Iw p (a+kXi J)/\(a+kXi J).natAbs<=12)/\∃p,Op2 .add (fl a) (kY J) p/\Iw p (a+kYi J)/\(a+kYi J).natAbs<=12:=by
 have h1:=biX k (show(0:Int)<7 by omega);have h2:=biY k (show(0:Int)<7 by omega);obtain⟨i1,i2⟩:=an3 hJ;obtain⟨b1,b2⟩:=an4 hJ;have h0:Iw (fl a) a:=flw (by omega);obtain⟨p,o1,p1⟩:=nV h0 i1 (by omega);obtain⟨q,o2,q1⟩:=nV h0 i2 (by omega);exact⟨h0,by omega,⟨p,o1,p1,by omega⟩,q,o2,q1,by omega⟩
theorem apV:Iw 4627730092099895296 25:=aqJ
end Go.Proofs.YtjaafolhfihegaaGreatDoor
namespace Go.Proofs.YtjaafolhfihegaaGreatDoor
open Go.RowKit Go.Maps
open Re (rat ofI ofN)
variable{A B C X Y:Int}{a b c x y:Nat}
theorem agD(hx:Iw x X)(hy:Iw y Y)(bx:X.natAbs<=22)(b_y:Y.natAbs<=22):gQ PT (.sub (.leaf x) (.leaf y)) (X-Y).sign:=
 ((hx.fit (L:=[]) 5 (nlt bx) (by decide)).rsub (hy.fit 5 (nlt b_y) (by decide))).sign 1 (by decide) (by push_cast;grind) (by kernel_rfl)
def cmpP(a1 a2 b1 b2:Int):Int:=if (a1-b1).sign=0 then(a2-b2).sign else(a1-b1).sign
theorem nW{a1 a2 b1 b2:Nat}{A1 A2 B1 B2:Int}(h1:Iw a1 A1)(h2:Iw a2 A2)(g1:Iw b1 B1)(g2:Iw b2 B2)(c1:A1.natAbs<=22)(c2:A2.natAbs<=22)(d1:B1.natAbs<=22)(d2:B2.natAbs<=22):iR PT (.leaf a1) (.leaf a2) (.leaf b1) (.leaf b2) (cmpP A1 A2 B1 B2):=
 ⟨(A1-B1).sign,(A2-B2).sign,trivial,agD h1 g1 c1 d1,fun _=>⟨trivial,agD h2 g2 c2 d2⟩,rfl⟩
theorem pF(a b:Int):cmpP a b a b=0:=by unfold cmpP;rw[Int.sub_self,Int.sub_self];rfl
theorem zT(a1 a2 b1 b2:Int):cmpP b1 b2 a1 a2=-cmpP a1 a2 b1 b2:=by
 have e:∀x y:Int,(y-x).sign=-(x-y).sign:=fun x y=>by rw[<-Int.sign_neg];congr 1;omega
 unfold cmpP;rw[e a1 b1,e a2 b2];by_cases h:(a1-b1).sign=0
 . rw[if_pos h,if_pos (by omega)]
 . rw[if_neg h,if_neg (by omega)]
theorem pG(ha:Iw a A)(hb:Iw b B)(hc:Iw c C)(hx:Iw x X)(hy:Iw y Y)(b1:A.natAbs<=6)(b2:B.natAbs<=6)(b3:C.natAbs<=36)(b4:X.natAbs<=22)(b5:Y.natAbs<=22):gQ PT (wX (.leaf x) (.leaf y) a b c) (A*X+B*Y-C).sign:=by
 have f1:=ha.fit (L:=[]) 3 (nlt b1) (by decide);have f2:=hb.fit (L:=[]) 3 (nlt b2) (by decide);have f3:=hc.fit (L:=[]) 6 (nlt b3) (by decide);have f4:=hx.fit (L:=[]) 5 (nlt b4) (by decide);have f5:=hy.fit (L:=[]) 5 (nlt b5) (by decide);exact(((f1.rmul f4).radd (f2.rmul f5)).rsub f3).sign 1 (by decide) (by push_cast;grind) (by kernel_rfl)
theorem adJ(ha:Iw a A)(hb:Iw b B)(hc:Iw c C)(hx:Iw x X)(hy:Iw y Y)(b1:A.natAbs<=6)(b2:B.natAbs<=6)(b3:C.natAbs<=36)(b4:X.natAbs<=22)(b5:Y.natAbs<=22):gQ PT (wW a b c (.leaf x) (.leaf y)) ((X-A)*(X-A)+(Y-B)*(Y-B)-C).sign:=by
 have f1:=ha.fit (L:=[]) 3 (nlt b1) (by decide);have f2:=hb.fit (L:=[]) 3 (nlt b2) (by decide);have f3:=hc.fit (L:=[]) 6 (nlt b3) (by decide);have f4:=hx.fit (L:=[]) 5 (nlt b4) (by decide);have f5:=hy.fit (L:=[]) 5 (nlt b5) (by decide);exact((((f4.rsub f1).rmul (f4.rsub f1)).radd ((f5.rsub f2).rmul (f5.rsub f2))).rsub f3).sign 1 (by decide) (by push_cast;grind) (by kernel_rfl)
end Go.Proofs.YtjaafolhfihegaaGreatDoor
namespace Go.Proofs.YtjaafolhfihegaaGreatDoor
open Go.RowKit Go.Maps Go.Stop Go.Extern
abbrev aW(r:Bool)(x y u v i k o:Int):Value:=.agg #[.bool r,.int .i64 x,.int .i64 y,.int .i64 u,.int .i64 v,.int .i64 i,.int .i64 k,.int .i64 o]
abbrev aP(r:Bool)(x y u v i k o:Int):Obj:=.cells #[.bool r,.int .i64 x,.int .i64 y,.int .i64 u,.int .i64 v,.int .i64 i,.int .i64 k,.int .i64 o] 23
abbrev refW(kd:Int)(wa wb wc n:Nat):Value:=.agg #[.int .i64 kd,.float .f64 wa,.float .f64 wb,.float .f64 wc,.int .i64 (n:Int),.int .i64 ((n:Int)+1),.int .i64 ((n:Int)+2),.int .i64 ((n:Int)+2+1)]
def adK(X Y U V I Kk:Int)(wx wy:Nat)(r:Bool)(kd:Int)(wa wb wc p0 p1 q0 q1:Nat):Prop:=
 fl (X.tmod 7)=wx/\fl (Y.tmod 7)=wy/\
 ((r=true/\kd=2/\wa=wx/\wb=wy/\wc=4627730092099895296/\∃J L:Nat,J<12/\(I.tmod 12+12).tmod 12=(J:Int)/\L<12/\(Kk.tmod 12+12).tmod 12=(L:Int)/\Op2 .add wx (kX J) p0/\Op2 .add wy (kY J) p1/\Op2 .add wx (kX L) q0/\Op2 .add wy (kY L) q1)\/
  (r=false/\kd=1/\∃wu ws wt m1 m2 a1 a2 b1 b2:Nat,fl (U.tmod 4)=wu/\fl (V.tmod 4)=wa/\wb=wu ^^^ 2^63/\Op2 .mul wa wx m1/\Op2 .mul wu wy m2/\Op2 .sub m1 m2 wc/\fl (I.tmod 6)=ws/\fl (Kk.tmod 6)=wt/\Op2 .mul ws wu a1/\Op2 .add wx a1 p0/\Op2 .mul ws wa a2/\Op2 .add wy a2 p1/\Op2 .mul wt wu b1/\Op2 .add wx b1 q0/\Op2 .mul wt wa b2/\Op2 .add wy b2 q1))
def adL(oo:Int)(p0 q1 P0 Q1:Nat):Prop:=∃o,Go.bits BinOp.and IntKind.i64 oo 15=o/\
 (((o==1)=true/\(o==2)=false/\Op2 .add p0 4607182418800017408 P0/\Q1=q1)\/((o==1)=false/\(o==2)=true/\P0=p0/\Op2 .add q1 4607182418800017408 Q1)\/((o==1)=false/\(o==2)=false/\P0=p0/\Q1=q1))
theorem vD{B:Nat}{w0 w1:World}{g k:Nat}{T:TypeId}{cs:List Value}{a:Value}(hb:Below B w0 w1)(hg:B<=g)(h:w1.heap[g]? =some (.cells cs.toArray T (0,0))):
 ∃w2,w1.setCell ⟨g,k,none⟩ a=w2/\Below B w0 w2/\w2.heap[g]? =some (.cells (cs.set k a).toArray T (0,0))/\∀i,g≠i->w2.heap[i]? =w1.heap[i]? :=
 ⟨_,rfl,hb.setCell hg _,mF h,fun i hi=>by rw[Below.heap_setCell _ _ _ _ (by simp;omega)]⟩
end Go.Proofs.YtjaafolhfihegaaGreatDoor
namespace Go.Proofs.YtjaafolhfihegaaGreatDoor
open Go.RowKit Go.Maps
open Re (rat ofI ofN)
open Nat renaming le_trans->biZ
def al6(kd:Int)(wa wb wc:Nat)(A1 A2 B1 B2:Ex):Prop:=
 ∃(T1 T2 T3 T4 E1 E2 E3 E4 F1 F2 F3 F4:Ex) (ok:Bool),(iR PT E1 E2 F1 F2 0/\iR PT E3 E4 F3 F4 0)/\
  (∀g i j k m,qA g (arcW g kd wa wb wc i j k m) [(A1,i),(A2,j),(B1,k),(B2,m)] ok)/\(∀g i j k m,qA g (arcW g kd wa wb wc i j k m) [(T1,i),(T2,j),(T3,k),(T4,m)] ok)/\
  (∀g i j k m,FnOk 17 g 2 #[arcW g kd wa wb wc i j k m] [(A1,i),(A2,j),(B1,k),(B2,m)] (fun ks=>.tuple #[eO g (ks.getD 0 0) (ks.getD 1 0),eO g (ks.getD 2 0) (ks.getD 3 0),.nilIface]) [E1,E2,E3,E4])/\
  (∀g i j k m,FnOk 17 g 2 #[arcW g kd wa wb wc i j k m] [(T1,i),(T2,j),(T3,k),(T4,m)] (fun ks=>.tuple #[eO g (ks.getD 0 0) (ks.getD 1 0),eO g (ks.getD 2 0) (ks.getD 3 0),.nilIface]) [F1,F2,F3,F4])/\
  ((kd=2/\T1=A1/\T2=A2/\T3=B1/\T4=B2)\/(kd=1/\T1=B1/\T2=B2/\T3=A1/\T4=A2))
section
variable{wa wb wc P0 P1 Q0 Q1:Nat}{A B C a1 a2 b1 b2:Int}(ha:Iw wa A)(hb:Iw wb B)(hc:Iw wc C)(h1:Iw P0 a1)(h2:Iw P1 a2)(h3:Iw Q0 b1)(h4:Iw Q1 b2)(c1:A.natAbs<=6)(c2:B.natAbs<=6)(c3:C.natAbs<=36)(d1:a1.natAbs<=22)(d2:a2.natAbs<=22)(d3:b1.natAbs<=22)(d4:b2.natAbs<=22)
include ha hb hc h1 h2 h3 h4 c1 c2 c3 d1 d2 d3 d4
theorem aiB(h0:(FloatKind.f64.format.order wc 0==some Ordering.eq)=false)(hn:0<=C):al6 2 wa wb wc (.leaf P0) (.leaf P1) (.leaf Q0) (.leaf Q1):=by
 have h:=nW h1 h2 h3 h4 d1 d2 d3 d4;have z1:iR PT (.leaf P0) (.leaf P1) (.leaf P0) (.leaf P1) 0:=pF a1 a2▸nW h1 h2 h1 h2 d1 d2 d1 d2;have z2:iR PT (.leaf Q0) (.leaf Q1) (.leaf Q0) (.leaf Q1) 0:=pF b1 b2▸nW h3 h4 h3 h4 d3 d4 d3 d4;have hC:wP wa wb wc:=⟨ha.1,hb.1,hc.1,aqK hc hn⟩;have t1:=adJ ha hb hc h1 h2 c1 c2 c3 d1 d2;have t2:=adJ ha hb hc h3 h4 c1 c2 c3 d3 d4;by_cases hp:0<cmpP a1 a2 b1 b2
 . exact⟨_,_,_,_,_,_,_,_,_,_,_,_,_,⟨z2,z1⟩,fun g i j k m=>kH (uR hC h0 t1 t2) (by omega),fun g i j k m=>kH (uR hC h0 t1 t2) (by omega),fun g i j k m=>uT h (decide_eq_true hp),fun g i j k m=>uT h (decide_eq_true hp),Or.inl ⟨rfl,rfl,rfl,rfl,rfl⟩⟩
 . exact⟨_,_,_,_,_,_,_,_,_,_,_,_,_,⟨z1,z2⟩,fun g i j k m=>kH (uR hC h0 t1 t2) (by omega),fun g i j k m=>kH (uR hC h0 t1 t2) (by omega),fun g i j k m=>oO h (decide_eq_false hp),fun g i j k m=>oO h (decide_eq_false hp),Or.inl ⟨rfl,rfl,rfl,rfl,rfl⟩⟩
theorem al7:∃ok,(∀g i j k m,qA g (arcW g 1 wa wb wc i j k m) [(.leaf P0,i),(.leaf P1,j),(.leaf Q0,k),(.leaf Q1,m)] ok)/\∀g i j k m,qA g (arcW g 1 wa wb wc i j k m) [(.leaf Q0,i),(.leaf Q1,j),(.leaf P0,k),(.leaf P1,m)] ok:=by
 by_cases hl:mE wa wb wc
 . have h:=nW h1 h2 h3 h4 d1 d2 d3 d4
   have h':=nW h3 h4 h1 h2 d3 d4 d1 d2;have t1:=pG ha hb hc h1 h2 c1 c2 c3 d1 d2;have t2:=pG ha hb hc h3 h4 c1 c2 c3 d3 d4;refine⟨_,fun g i j k m=>kH (uS hl t1 t2 h) (by omega),fun g i j k m=> ?_⟩;have e:=kH (g:=g) (uS (g:=g) (i:=i) (j:=j) (k:=k) (l:=m) hl t2 t1 h') (by omega);rw[zT a1 a2 b1 b2,show((-cmpP a1 a2 b1 b2==0):Bool)=(cmpP a1 a2 b1 b2==0) by rw[Bool.eq_iff_iff,beq_iff_eq,beq_iff_eq];omega,Bool.and_comm ((A*b1+B*b2-C).sign==0)]at e;exact e
 . exact⟨false,fun g i j k m=>agC ha.1.1 hb.1.1 hc.1.1 hl,fun g i j k m=>agC ha.1.1 hb.1.1 hc.1.1 hl⟩
theorem aiC:al6 1 wa wb wc (.leaf P0) (.leaf P1) (.leaf Q0) (.leaf Q1):=by
 have h:=nW h1 h2 h3 h4 d1 d2 d3 d4;have h':=nW h3 h4 h1 h2 d3 d4 d1 d2;have z1:iR PT (.leaf P0) (.leaf P1) (.leaf P0) (.leaf P1) 0:=pF a1 a2▸nW h1 h2 h1 h2 d1 d2 d1 d2;have z2:iR PT (.leaf Q0) (.leaf Q1) (.leaf Q0) (.leaf Q1) 0:=pF b1 b2▸nW h3 h4 h3 h4 d3 d4 d3 d4;obtain⟨ok,hk1,hk2⟩:=al7 ha hb hc h1 h2 h3 h4 c1 c2 c3 d1 d2 d3 d4;have e:=zT a1 a2 b1 b2;rcases Int.lt_trichotomy (cmpP a1 a2 b1 b2) 0 with hp|hp|hp
 . exact⟨_,_,_,_,_,_,_,_,_,_,_,_,ok,⟨z1,z2⟩,hk1,hk2,fun g i j k m=>oO h (decide_eq_false (by omega)),fun g i j k m=>uT h' (decide_eq_true (by omega)),Or.inr ⟨rfl,rfl,rfl,rfl,rfl⟩⟩
 . have y1:iR PT (.leaf P0) (.leaf P1) (.leaf Q0) (.leaf Q1) 0:=hp▸h
   have y2:iR PT (.leaf Q0) (.leaf Q1) (.leaf P0) (.leaf P1) 0:=(show cmpP b1 b2 a1 a2=0 by omega)▸h';exact⟨_,_,_,_,_,_,_,_,_,_,_,_,ok,⟨y1,y2⟩,hk1,hk2,fun g i j k m=>oO h (decide_eq_false (by omega)),fun g i j k m=>oO h' (decide_eq_false (by omega)),Or.inr ⟨rfl,rfl,rfl,rfl,rfl⟩⟩
 . exact⟨_,_,_,_,_,_,_,_,_,_,_,_,ok,⟨z2,z1⟩,hk1,hk2,fun g i j k m=>uT h (decide_eq_true (by omega)),fun g i j k m=>oO h' (decide_eq_false (by omega)),Or.inr ⟨rfl,rfl,rfl,rfl,rfl⟩⟩
end
def aqM(X Y U V I Kk:Int)(r:Bool)(p0 p1 q0 q1 wx wy wa wb wc:Nat)(kd A B C a1 a2 b1 b2:Int):Prop:=
 adK X Y U V I Kk wx wy r kd wa wb wc p0 p1 q0 q1/\(kd=1\/kd=2/\wc=4627730092099895296/\C=25)/\(Iw wa A/\Iw wb B/\Iw wc C/\Iw p0 a1/\Iw p1 a2/\Iw q0 b1/\Iw q1 b2)/\A.natAbs<=6/\B.natAbs<=6/\C.natAbs<=36/\a1.natAbs<=21/\a2.natAbs<=21/\b1.natAbs<=21/\b2.natAbs<=21
theorem aeY(r:Bool)(X Y U V I Kk:Int):∃p0 p1 q0 q1 wx wy wa wb wc kd A B C a1 a2 b1 b2,aqM X Y U V I Kk r p0 p1 q0 q1 wx wy wa wb wc kd A B C a1 a2 b1 b2:=by
 cases r
 . have bx:(X.tmod 7).natAbs<=6:=tmb X 7 (by decide);have b_y:(Y.tmod 7).natAbs<=6:=tmb Y 7 (by decide)
   have bu:(U.tmod 4).natAbs<=3:=tmb U 4 (by decide);have bv:(V.tmod 4).natAbs<=3:=tmb V 4 (by decide);have bs:(I.tmod 6).natAbs<=5:=tmb I 6 (by decide);have bt:(Kk.tmod 6).natAbs<=5:=tmb Kk 6 (by decide);have wx:=flw bx;have wy:=flw b_y;have wu:=flw (biZ bu (by decide));have wv:=flw (biZ bv (by decide));have ws:=flw (biZ bs (by decide));have wt:=flw (biZ bt (by decide));have p1:=nab bv bx;have p2:=nab bu b_y;have p3:=nab bs bu;have p4:=nab bs bv;have p5:=nab bt bu;have p6:=nab bt bv;have z0:=nsub p1 p2;have z1:=nadd bx p3;have z2:=nadd b_y p4;have z3:=nadd bx p5;have z4:=nadd b_y p6;obtain⟨m1,n1,i1⟩:=pE wv wx (nlt p1);obtain⟨m2,n2,i2⟩:=pE wu wy (nlt p2);obtain⟨wc,n3,i3⟩:=apU i1 i2 (nlt z0);obtain⟨a1,o1,j1⟩:=pE ws wu (nlt p3);obtain⟨q1,o2,k1⟩:=nV wx j1 (nlt z1);obtain⟨a2,o3,j2⟩:=pE ws wv (nlt p4);obtain⟨q2,o4,k2⟩:=nV wy j2 (nlt z2);obtain⟨a3,o5,j3⟩:=pE wt wu (nlt p5);obtain⟨q3,o6,k3⟩:=nV wx j3 (nlt z3);obtain⟨a4,o7,j4⟩:=pE wt wv (nlt p6);obtain⟨q4,o8,k4⟩:=nV wy j4 (nlt z4)
   exact⟨q1,q2,q3,q4,_,_,_,_,wc,1,_,_,_,_,_,_,_,⟨rfl,rfl,Or.inr ⟨rfl,rfl,_,_,_,m1,m2,a1,a2,a3,a4,rfl,rfl,rfl,n1,n2,n3,rfl,rfl,o1,o2,o3,o4,o5,o6,o7,o8⟩⟩,Or.inl rfl,⟨wv,an6 wu,i3,k1,k2,k3,k4⟩,biZ bv (by decide),by rw[Int.natAbs_neg];exact biZ bu (by decide),z0,z1,z2,z3,z4⟩
 . obtain⟨J,hJ,hI⟩:=aoO I;obtain⟨L,hL,hK⟩:=aoO Kk
   obtain⟨hx,bx,⟨p0,a1,i1,b1⟩,-⟩:=abA X hJ rfl;obtain⟨hy,b_y,-,p1,a2,i2,b2⟩:=abA Y hJ rfl;obtain⟨-,-,⟨q0,a3,i3,b3⟩,-⟩:=abA X hL rfl;obtain⟨-,-,-,q1,a4,i4,b4⟩:=abA Y hL rfl;exact⟨p0,p1,q0,q1,_,_,_,_,_,_,_,_,_,_,_,_,_,⟨rfl,rfl,Or.inl ⟨rfl,rfl,rfl,rfl,rfl,J,L,hJ,hI,hL,hK,a1,a2,a3,a4⟩⟩,Or.inr ⟨rfl,rfl,rfl⟩,⟨hx,hy,apV,i1,i2,i3,i4⟩,by omega,by omega,by omega,by omega,by omega,by omega,by omega⟩
theorem aiD{oo:Int}{p0 q1:Nat}{a b:Int}(i1:Iw p0 a)(i4:Iw q1 b)(b1:a.natAbs<=21)(b4:b.natAbs<=21):∃P0 Q1 a' b',adL oo p0 q1 P0 Q1/\Iw P0 a'/\Iw Q1 b'/\a'.natAbs<=22/\b'.natAbs<=22:=by
 cases h1:(Go.bits BinOp.and IntKind.i64 oo 15==1)
 . cases h2:(Go.bits BinOp.and IntKind.i64 oo 15==2)
   . exact⟨p0,q1,_,_,⟨_,rfl,Or.inr (Or.inr ⟨h1,h2,rfl,rfl⟩)⟩,i1,i4,by omega,by omega⟩
   . obtain⟨r,o,i⟩:=nV i4 iw_1 (by omega)
     exact⟨p0,r,_,_,⟨_,rfl,Or.inr (Or.inl ⟨h1,h2,rfl,o⟩)⟩,i1,i,by omega,by omega⟩
 . obtain⟨r,o,i⟩:=nV i1 iw_1 (by omega)
   exact⟨r,q1,_,_,⟨_,rfl,Or.inl ⟨h1,by rw[beq_iff_eq.1 h1];rfl,o,rfl⟩⟩,i,i4,by omega,by omega⟩
theorem aeZ(r:Bool)(X Y U V I Kk oo:Int):∃(kd:Int) (wa wb wc p0 p1 q0 q1 P0 Q1 wx wy:Nat),adK X Y U V I Kk wx wy r kd wa wb wc p0 p1 q0 q1/\adL oo p0 q1 P0 Q1/\(FlOk P0/\FlOk p1/\FlOk q0/\FlOk Q1)/\(FlOk wa/\FlOk wb/\FlOk wc)/\al6 kd wa wb wc (.leaf P0) (.leaf p1) (.leaf q0) (.leaf Q1):=by
 obtain⟨p0,p1,q0,q1,wx,wy,wa,wb,wc,kd,A,B,C,a1,a2,b1,b2,hM,hk,⟨ha,hb,hc,h1,h2,h3,h4⟩,c1,c2,c3,d1,d2,d3,d4⟩:=aeY r X Y U V I Kk;obtain⟨P0,Q1,a',b',hO,g1,g4,e1,e4⟩:=aiD (oo:=oo) h1 h4 d1 d4;refine⟨kd,wa,wb,wc,p0,p1,q0,q1,P0,Q1,wx,wy,hM,hO,⟨g1.1,h2.1,h3.1,g4.1⟩,⟨ha.1,hb.1,hc.1⟩,?_⟩;rcases hk with rfl|⟨rfl,rfl,rfl⟩
 . exact aiC ha hb hc g1 h2 h3 g4 c1 c2 c3 e1 (by omega) (by omega) e4
 . exact aiB ha hb hc g1 h2 h3 g4 c1 c2 c3 e1 (by omega) (by omega) e4 (by decide) (by decide)
end Go.Proofs.YtjaafolhfihegaaGreatDoor
