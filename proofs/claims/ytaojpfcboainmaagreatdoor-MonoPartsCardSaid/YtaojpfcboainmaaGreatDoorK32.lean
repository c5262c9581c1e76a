/- A part of the proof: contracts of functions and plain laws (SymC, SpE, QlA, FtB, FeB, FnA, FlA, FlB, FlC, FlD, FlE, FlF, FlG, CkA, CkB, LiA, QlL, MtA, SymD, FnC, SymE). -/
import Derived.Test.YtaojpfcboainmaaGreatDoorK31
import Derived.Test.YtaojpfcboainmaaGreatDoorK16
import Derived.Deep.Cut
import Derived.Deep.DeepCutAuto
import Derived.Test.YtaojpfcboainmaaGreatDoorK30
import Derived.Test.YtaojpfcboainmaaGreatDoorK10
import Derived.Test.YtaojpfcboainmaaGreatDoorK13
import Derived.LaidEql
import Derived.Lib.IfaceEq
import Derived.Stop.Asserts
import Derived.Recover
import Derived.Defers
set_option linter.unusedVariables false
set_option linter.unusedSimpArgs false
set_option maxHeartbeats 25600000
set_option maxRecDepth 100000
namespace Go.Proofs.YtaojpfcboainmaaGreatDoor
open Go.RowKit Go.Maps
open List renaming setIfInBounds_toArray->bhJ,mem_cons_of_mem->bhK,mem_append->bhL,mem_singleton->bhM,mem_cons->bhN,set->bhO
variable{c d:Nat}{lst:Nat->Bool}{ν:Nat->Nat}{v:Value}{w w':World}
def runW(s:Bs)(g:Nat):Wk Ex where
 G:=fun c K l w=>Run s g c K l w
 weak:=fun h hc hK hl hn=>((h.more hc).few hK).sub hl hn
 heap:=fun h p hp=>h.kept p hp
 alloc:=fun h o=>h.alloc o
 write:=fun h hg ho=>h.write hg ho
 drew:=fun h=>h.drew
abbrev numS(g n:Nat):SV:=.w (.agg [.v (.pointer (some ⟨g,0,none⟩)),.id n])
abbrev bJ(g m n:Nat):SV:=.w (.agg [.v (.pointer (some ⟨g,0,none⟩)),.id m,.v (.pointer (some ⟨g,0,none⟩)),.id n])
abbrev noS:SV:=.w (.c (.v undef))
abbrev numC(g n:Nat):List SC:=[.v (.pointer (some ⟨g,0,none⟩)),.id n]
abbrev aN(g m n:Nat):List SC:=[.v (.pointer (some ⟨g,0,none⟩)),.id m,.v (.pointer (some ⟨g,0,none⟩)),.id n]
abbrev valS(v:Value):SV:=.w (.c (.v v))
abbrev ansS(v:Value):SV:=.tup [.c (.v v),.c (.v .nilIface)]
section
variable{S:Spec Ex}{w0:Bs}{g c0:Nat}{a0:Act}{ν0:Nat->Nat}{i:Nat}{Q:Exit->Act->World->Prop}
def Spec.made (S:Spec Ex)(i:Nat):List (Nat×Ex):=S.know.filter fun p=>S.cr p.1==some i
theorem rA{p:Ex×Nat}(h:p∈S.newK i ν):∃q∈S.made i,p=(q.2,ν q.1):=by
 obtain⟨q,h1,h2⟩:=List.mem_filterMap.1 h
 split at h2
 . rename_i hc
   exact⟨q,List.mem_filter.2 ⟨h1,by simp[hc]⟩,(Option.some.inj h2).symm⟩
 . cases h2
theorem ret1{k t:Nat}{x:Ex}{l:List (Nat×Obj)}(ht:S.cr t=some i)(hk:S.made i=[(t,x)])(hR:Run w0 g c ((x,k)::S.K lst ν) l w'):
 ∃ν',(∀n,S.cr n≠some i->ν' n=ν n)/\ν' t=k/\Run w0 g c (S.newK i ν'++S.K lst ν) l w':=by
 refine⟨fun n=>if n=t then k else ν n,fun n hn=>if_neg fun e=>hn (by rw[e];exact ht),if_pos rfl,hR.few fun p hp=> ?_⟩;rcases bhL.1 hp with h|h
 . obtain⟨q,h1,rfl⟩:=rA h
   rw[hk]at h1;rw[bhM.1 h1];simp
 . exact bhK _ h
theorem ret2{k k' t t':Nat}{x y:Ex}{l:List (Nat×Obj)}(ht:S.cr t=some i)(ht':S.cr t'=some i)(hne:t'≠t)(hk:S.made i=[(t,x),(t',y)])(hR:Run w0 g c ((x,k)::(y,k')::S.K lst ν) l w'):
 ∃ν',(∀n,S.cr n≠some i->ν' n=ν n)/\ν' t=k/\ν' t'=k'/\Run w0 g c (S.newK i ν'++S.K lst ν) l w':=by
 refine⟨fun n=>if n=t then k else if n=t' then k' else ν n,fun n hn=> ?_,if_pos rfl,?_,hR.few fun p hp=> ?_⟩
 . show(if n=t then k else if n=t' then k' else ν n)=ν n
   rw[if_neg (fun e=>hn (by rw[e];exact ht)),if_neg (fun e=>hn (by rw[e];exact ht'))]
 . show(if t'=t then k else if t'=t' then k' else ν t')=k'
   rw[if_neg hne,if_pos rfl]
 . rcases bhL.1 hp with h|h
   . obtain⟨q,h1,rfl⟩:=rA h
     rw[hk]at h1;rcases bhN.1 h1 with rfl|h1
     . simp
     . rw[bhM.1 h1]
       simp[hne]
   . exact bhK _ (bhK _ h)
theorem ret0{l:List (Nat×Obj)}(hk:S.made i=[])(hR:Run w0 g c (S.K lst ν) l w'):Run w0 g c (S.newK i ν++S.K lst ν) l w':=
 hR.few fun p hp=>by
  rcases bhL.1 hp with h|h
  . obtain⟨q,h1,-⟩:=rA h
    rw[hk]at h1;cases h1
  . exact h
abbrev iA(S:Spec Ex)(w0:Bs)(g c0 i:Nat)(f:FuncId)(args:(Nat->Nat)->Array Value):Prop:=
 ∀(lst:Nat->Bool) (ν:Nat->Nat) (c:Nat) (w:World),(∀d∈S.D i,lst d=true)->c+S.cost i<=c0+S.total->(runW w0 g).G c (S.K lst ν) (S.L lst ν) w->
    Calls Tryz.prog f (args ν) w (fun e w'=>∃ν',(∀n,S.cr n≠some i->ν' n=ν n)/\e=.returned ((S.val i).den ν')/\(runW w0 g).G (c+S.cost i) (S.newK i ν'++S.K lst ν) (S.L lst ν) w')
theorem afF{n:Nat}{B:Blk}(hB:B∈S.blocks)(pB:S.pre i B.b=true)(hI:B.init=[.v (.pointer (some ⟨g,0,none⟩)),.id n])(hT:B.T=35)(hst:B.st=none)(hD:∀d∈S.D i,lst d=true)
 (h:Run w0 g c (S.K lst ν) (S.L lst ν) w):w.heap[ν B.b]? =some (numO g (ν n)):=by
 have:=h.at (wZ (S:=S) (ν:=ν) hB (pre_on pB hD));rw[this];unfold Blk.obj Blk.cont;rw[hst,hI,hT];rfl
variable(hM:c0+S.total<=20000){m n m' n' m2 n2 t t':Nat}{x y x' y' x2 y2:Ex}{q:Int}
include hM
theorem nS{f:FuncId}{args:(Nat->Nat)->Array Value}(hc:S.cost i=d+1)(hv:S.val i=numS g t)(ht:S.cr t=some i)(hk:S.made i=[(t,x)])
 (h:∀(lst:Nat->Bool) (ν:Nat->Nat) (c:Nat) (w:World),(∀d∈S.D i,lst d=true)->c+d<20000->Run w0 g c (S.K lst ν) (S.L lst ν) w->Calls Tryz.prog f (args ν) w (RtR w0 g (c+(d+1)) (S.K lst ν) (S.L lst ν) x)):iA S w0 g c0 i f args:=by
 intro lst ν c w hD hl hG;refine(h lst ν c w hD (by omega) hG).mono ?_;rintro e w'⟨k,rfl,hR⟩;obtain⟨ν',h1,h2,h3⟩:=ret1 ht hk hR;refine⟨ν',h1,?_,by rw[hc];exact h3⟩;rw[hv];show _=Ending.returned (numV g (ν' t));rw[h2]
theorem ahO{f:FuncId}{args:(Nat->Nat)->Array Value}(hc:S.cost i=d+1)(hv:S.val i=bJ g t t')(ht:S.cr t=some i)(ht':S.cr t'=some i)(hne:t'≠t)(hk:S.made i=[(t,x),(t',y)])
 (h:∀(lst:Nat->Bool) (ν:Nat->Nat) (c:Nat) (w:World),(∀d∈S.D i,lst d=true)->c+d<20000->Run w0 g c (S.K lst ν) (S.L lst ν) w->Calls Tryz.prog f (args ν) w (RtP w0 g (c+(d+1)) (S.K lst ν) (S.L lst ν) x y)):iA S w0 g c0 i f args:=by
 intro lst ν c w hD hl hG;refine(h lst ν c w hD (by omega) hG).mono ?_;rintro e w'⟨k,k',rfl,hR⟩;obtain⟨ν',h1,h2,h2',h3⟩:=ret2 ht ht' hne hk hR;refine⟨ν',h1,?_,by rw[hc];exact h3⟩;rw[hv];show _=Ending.returned (bY g (ν' t) (ν' t'));rw[h2,h2']
theorem nT{f:FuncId}{args:(Nat->Nat)->Array Value}(hc:S.cost i=d)(hv:∀ν,(S.val i).den ν=v)(hk:S.made i=[])
 (h:∀(lst:Nat->Bool) (ν:Nat->Nat) (c:Nat) (w:World),(∀d∈S.D i,lst d=true)->c+d<=20000->Run w0 g c (S.K lst ν) (S.L lst ν) w->Calls Tryz.prog f (args ν) w (RtA w0 g (c+d) (S.K lst ν) (S.L lst ν) v)):iA S w0 g c0 i f args:=by
 intro lst ν c w hD hl hG;refine(h lst ν c w hD (by omega) hG).mono ?_;rintro e w'⟨rfl,hR⟩;exact⟨ν,fun _ _=>rfl,by rw[hv],by rw[hc];exact ret0 hk hR⟩
section
variable(hx:(m,x)∈S.know)(hy:(n,y)∈S.know)(px:S.pre i m=true)(py:S.pre i n=true)
include hx px
theorem ao5(hc:S.cost i=1)(hv:S.val i=numS g t)(ht:S.cr t=some i)(hk:S.made i=[(t,.root x)]):iA S w0 g c0 i 81 (fun ν=>#[numV g (ν m)]):=
 nS hM (d:=0) hc hv ht hk fun lst ν c w hD hl h=>h.sqrt hl (fP hx (pre_on px hD))
theorem ak6(hc:S.cost i=0)(hv:S.val i=ansS (.int .i64 q))(hk:S.made i=[])(hS:dQ PT x q):iA S w0 g c0 i 48 (fun ν=>#[numV g (ν m)]):=
 nT hM (d:=0) hc (fun ν=>by rw[hv];rfl) hk fun lst ν c w hD hl h=>h.sign (fP hx (pre_on px hD)) hS
include hy py
theorem rC(hc:S.cost i=1)(hv:S.val i=numS g t)(ht:S.cr t=some i)(hk:S.made i=[(t,.sub x y)]):iA S w0 g c0 i 62 (fun ν=>#[numV g (ν m),numV g (ν n)]):=
 nS hM (d:=0) hc hv ht hk fun lst ν c w hD hl h=>h.sub2 hl (fP hx (pre_on px hD)) (fP hy (pre_on py hD))
theorem afG{B:Blk}(hB:B∈S.blocks)(pB:S.pre i B.b=true)(hI:B.init=[.v (.pointer (some ⟨g,0,none⟩)),.id n])(hT:B.T=35)(hst:B.st=none)(hc:S.cost i=1)(hv:S.val i=numS g t)(ht:S.cr t=some i)(hk:S.made i=[(t,.mul x y)]):
 iA S w0 g c0 i 66 (fun ν=>#[numV g (ν m),.slice (some ⟨ν B.b,0,none⟩) 1 1]):=
 nS hM (d:=0) hc hv ht hk fun lst ν c w hD hl h=>h.mul2 hl (fP hx (pre_on px hD)) (fP hy (pre_on py hD)) (afF hB pB hI hT hst hD h)
theorem anY{B:Blk}(hB:B∈S.blocks)(pB:S.pre i B.b=true)(hI:B.init=[.v (.pointer (some ⟨g,0,none⟩)),.id n])(hT:B.T=35)(hst:B.st=none)(hc:S.cost i=1)(hv:S.val i=numS g t)(ht:S.cr t=some i)(hk:S.made i=[(t,.add x y)]):
 iA S w0 g c0 i 63 (fun ν=>#[numV g (ν m),.slice (some ⟨ν B.b,0,none⟩) 1 1]):=
 nS hM (d:=0) hc hv ht hk fun lst ν c w hD hl h=>h.add2 hl (fP hx (pre_on px hD)) (fP hy (pre_on py hD)) (afF hB pB hI hT hst hD h)
section
variable(hx':(m',x')∈S.know)(hy':(n',y')∈S.know)(px':S.pre i m'=true)(py':S.pre i n'=true)
include hx' hy' px' py'
theorem c_cmpS(hc:S.cost i=2)(hv:S.val i=ansS (.int .i64 q))(hk:S.made i=[])(hS:iK PT x y x' y' q):iA S w0 g c0 i 29 (fun ν=>#[bY g (ν m) (ν n),bY g (ν m') (ν n')]):=
 nT hM (d:=2) hc (fun ν=>by rw[hv];rfl) hk fun lst ν c w hD hl h=>h.cmpS (by omega) (fP hx (pre_on px hD)) (fP hy (pre_on py hD)) (fP hx' (pre_on px' hD)) (fP hy' (pre_on py' hD)) hS
theorem xB(hc:S.cost i=2)(hv:S.val i=ansS (.bool (q==0)))(hk:S.made i=[])(hS:iK PT x y x' y' q):iA S w0 g c0 i 14 (fun ν=>#[bY g (ν m) (ν n),bY g (ν m') (ν n')]):=
 nT hM (d:=2) hc (fun ν=>by rw[hv];rfl) hk fun lst ν c w hD hl h=>h.same (by omega) (fP hx (pre_on px hD)) (fP hy (pre_on py hD)) (fP hx' (pre_on px' hD)) (fP hy' (pre_on py' hD)) hS
end
end
theorem c_of{v:Nat}(hv1:v<18446744073709551616)(hf:fin v)(hc:S.cost i=1)(hv:S.val i=numS g t)(ht:S.cr t=some i)(hk:S.made i=[(t,.leaf v)]):iA S w0 g c0 i 36 (fun _=>#[.pointer (some ⟨g,0,none⟩),.float .f64 v]):=
 nS hM (d:=0) hc hv ht hk fun lst ν c w hD hl h=>h.of hl hv1 hf
theorem c_at{v u:Nat}(hv1:v<18446744073709551616)(hu1:u<18446744073709551616)(hf:fin v)(hu:fin u)(hc:S.cost i=2)(hv:S.val i=bJ g t t')(ht:S.cr t=some i)(ht':S.cr t'=some i)(hne:t'≠t)(hk:S.made i=[(t,.leaf v),(t',.leaf u)]):
 iA S w0 g c0 i 17 (fun _=>#[.pointer (some ⟨g,0,none⟩),.float .f64 v,.float .f64 u]):=
 ahO hM (d:=1) hc hv ht ht' hne hk fun lst ν c w hD hl h=>h.spot hl hv1 hu1 hf hu
theorem ad7{f:FuncId}{args:Array Value}(hc:S.cost i=0)(hv:S.val i=valS v)(hk:S.made i=[])(h:∀w,Calls Tryz.prog f args w (RetV w v)):iA S w0 g c0 i f (fun _=>args):=
 nT hM (d:=0) hc (fun ν=>by rw[hv];rfl) hk fun lst ν c w hD hl hR=>(h w).mono fun _ _ hr=>⟨hr.1,hR.step hr.2⟩
end
abbrev apW(ax ay bx ey cx cy:Ex):Ex:=.sub (.mul (.sub bx ax) (.sub cy ay)) (.mul (.sub ey ay) (.sub cx ax))
abbrev xC(P:Ex->Prop)(ax ay bx ey cx cy:Ex)(s:Int):Prop:=dQ P (apW ax ay bx ey cx cy) s
theorem ak7{B N:Nat}{g ax ay bx ey cx cy:Nat}{ns:List Nd}{AX AY BX EY CX CY:Ex}{q:Int}(hs:St PT B N w g ns)(hN:N+7<=20000)(hax:Is ns AX ax)(hay:Is ns AY ay)(hbx:Is ns BX bx)(hey:Is ns EY ey)(hcx:Is ns CX cx)(hcy:Is ns CY cy)(HQ:Hid (xC PT AX AY BX EY CX CY q)):
 Calls Tryz.prog 64 #[bY g ax ay,bY g bx ey,bY g cx cy] w (RetQ PT B (N+7) w g ns (.tuple #[.int .i64 q,.nilIface])):=by
 have R1:=hdd (Run.enter (K:=[(AX,ax),(AY,ay),(BX,bx),(EY,ey),(CX,cx),(CY,cy)]) hs (by
  intro p hp;simp only[bhN,List.not_mem_nil,or_false]at hp;rcases hp with rfl|rfl|rfl|rfl|rfl|rfl<;>assumption))
 clear hs hax hay hbx hey hcx hcy;go_enter Tryz.func64,Tryz.ntmps64
 go_upto_region 0 with fail
 refine Spec.run (S:=⟨_,fun i=>([.w (.c (.ptr 6 0)),.w (.c (.ptr 7 0)),.w (.c (.ptr 8 0)),.w (.c (.v (Value.int IntKind.i64 0))),.w (.c (.v Value.nilIface))]:List SV).getD i noS,fun n=>([none,none,none,none,none,none,some 0,some 1,some 2]:List (Option Nat)).getD n none,
  [(0,AX),(1,AY),(2,BX),(3,EY),(4,CX),(5,CY)],[⟨6,37,aN g 0 1,none⟩,⟨7,37,aN g 2 3,none⟩,⟨8,37,aN g 4 5,none⟩],
  fun i=>([0,0,0,0,0]:List Nat).getD i 0,fun i=>([[],[],[],[],[]]:List (List Nat)).getD i [],[(0,bJ g 0 1),(1,bJ g 2 3),(2,bJ g 4 5)]⟩)
  (W:=runW ⟨w,B,ns⟩ g) (ν0:=fun n=>([ax,ay,bx,ey,cx,cy]:List Nat).getD n 0) (c0:=N)
  (fs:=fun ν=>[(3,.pointer (some ⟨(ν 6),0,none⟩)),(4,.pointer (some ⟨(ν 7),0,none⟩)),(5,.pointer (some ⟨(ν 8),0,none⟩)),(6,(Value.int IntKind.i64 0)),(7,Value.nilIface)]) 5 N [] []
  ⟨Spec.wf_of (by kernel_rfl),gZ (by kernel_rfl),fB ⟨rfl,rfl,rfl,trivial⟩⟩ R1.out (Run.nodup R1.out) (by omega)
  (fun b hM=>aA (aA (aA (aA (aA aL
    (aS b m0))
    (aS b m1))
    (aS b m2))
    (aD b))
    (aD b)) ?_
 intro ν W2 hν hR;replace hR:Run ⟨w,B,ns⟩ g N [(AX,ν 0),(AY,ν 1),(BX,ν 2),(EY,ν 3),(CX,ν 4),(CY,ν 5)] [((ν 6),aQ g (ν 0) (ν 1)),((ν 7),aQ g (ν 2) (ν 3)),((ν 8),aQ g (ν 4) (ν 5))] W2:=hR;have e0:ν 0=ax:=hν 0 rfl;have e1:ν 1=ay:=hν 1 rfl;have e2:ν 2=bx:=hν 2 rfl;have e3:ν 3=ey:=hν 3 rfl;have e4:ν 4=cx:=hν 4 rfl;have e5:ν 5=cy:=hν 5 rfl;simp only[e0,e1,e2,e3,e4,e5]at hR|-;clear hν e0 e1 e2 e3 e4 e5;generalize ν 6=b1 at hR|-;generalize ν 7=b2 at hR|-;generalize ν 8=b3 at hR|-;have R2:=hdd hR;clear hR R1;simp only[putL,bhJ,bhO]
 go_upto_region 1 with fail
 refine Spec.run (S:=⟨_,fun i=>([.w (.c (.ptr 7 0)),numS g 2,.w (.c (.ptr 6 0)),numS g 0,numS g 9,.w (.c (.ptr 8 2)),numS g 5,.w (.c (.ptr 6 2)),numS g 1,numS g 10,.w (.c (.sl 11 1)),numS g 12,.w (.c (.ptr 13 0)),noS]:List SV).getD i noS,fun n=>([none,none,none,none,none,none,none,none,none,some 4,some 9,some 10,some 11,some 12]:List (Option Nat)).getD n none,
  [(0,AX),(1,AY),(2,BX),(3,EY),(4,CX),(5,CY),(9,(.sub BX AX)),(10,(.sub CY AY)),(12,(.mul (.sub BX AX) (.sub CY AY)))],[⟨6,37,aN g 0 1,none⟩,⟨7,37,aN g 2 3,none⟩,⟨8,37,aN g 4 5,none⟩,⟨11,35,numC g 10,none⟩,⟨13,35,[.v (.pointer none),.v (.int .i64 0)],some (13,numC g 12)⟩],
  fun i=>([0,0,0,0,1,0,0,0,0,1,0,1,0,0]:List Nat).getD i 0,fun i=>([[],[0],[],[2],[0,1,2,3],[],[5],[],[7],[5,6,7,8],[5,6,7,8,9],[0,1,2,3,4,5,6,7,8,9,10],[],[0,1,2,3,4,5,6,7,8,9,10,11,12]]:List (List Nat)).getD i [],[(4,.w (.c (.ptr 7 0))),(3,.w (.c (.ptr 6 0))),(5,.w (.c (.ptr 8 0)))]⟩)
  (W:=runW ⟨w,B,ns⟩ g) (ν0:=fun n=>([ax,ay,bx,ey,cx,cy,b1,b2,b3]:List Nat).getD n 0) (c0:=N)
  (fs:=fun ν=>[(10,.pointer (some ⟨(ν 7),0,none⟩)),(11,numV g (ν 2)),(12,.pointer (some ⟨(ν 6),0,none⟩)),(13,numV g (ν 0)),(14,numV g (ν 9)),(15,.pointer (some ⟨(ν 8),2,none⟩)),(16,numV g (ν 5)),(17,.pointer (some ⟨(ν 6),2,none⟩)),(18,numV g (ν 1)),(19,numV g (ν 10)),(20,.slice (some ⟨(ν 11),0,none⟩) 1 1),(21,numV g (ν 12)),(8,.pointer (some ⟨(ν 13),0,none⟩))]) 14 (N+3) [] []
  ⟨Spec.wf_of (by kernel_rfl),gZ (by kernel_rfl),fB ⟨rfl,rfl,rfl,trivial⟩⟩ R2.out (Run.nodup R2.out) (by omega)
  (fun b hM=>aA (aA (aA (aA (aA (aA (aA (aA (aA (aA (aA (aA (aA (aA aL
    (aD b))
    (aK b 2 m1))
    (aD b))
    (aK b 2 m0))
    (bF b (rC hM m2 m0 rfl rfl rfl rfl rfl rfl)))
    (aD b))
    (aK b 2 m2))
    (aD b))
    (aK b 2 m0))
    (bF b (rC hM m5 m1 rfl rfl rfl rfl rfl rfl)))
    (oP b m3))
    (bF b (afG hM m6 m7 rfl rfl m3 rfl rfl rfl rfl rfl rfl rfl rfl)))
    (aS b m4))
    (dM b 2 m4)) ?_
 intro ν W3 hν hR;replace hR:Run ⟨w,B,ns⟩ g (N+3) [(AX,ν 0),(AY,ν 1),(BX,ν 2),(EY,ν 3),(CX,ν 4),(CY,ν 5),((.sub BX AX),ν 9),((.sub CY AY),ν 10),((.mul (.sub BX AX) (.sub CY AY)),ν 12)] [((ν 6),aQ g (ν 0) (ν 1)),((ν 7),aQ g (ν 2) (ν 3)),((ν 8),aQ g (ν 4) (ν 5)),((ν 11),numO g (ν 10)),((ν 13),numO g (ν 12))] W3:=hR;have e0:ν 0=ax:=hν 0 rfl;have e1:ν 1=ay:=hν 1 rfl;have e2:ν 2=bx:=hν 2 rfl;have e3:ν 3=ey:=hν 3 rfl;have e4:ν 4=cx:=hν 4 rfl;have e5:ν 5=cy:=hν 5 rfl;have e6:ν 6=b1:=hν 6 rfl;have e7:ν 7=b2:=hν 7 rfl;have e8:ν 8=b3:=hν 8 rfl;simp only[e0,e1,e2,e3,e4,e5,e6,e7,e8]at hR|-;clear hν e0 e1 e2 e3 e4 e5 e6 e7 e8;generalize ν 9=n4 at hR|-;generalize ν 10=n5 at hR|-;generalize ν 11=b6 at hR|-;generalize ν 12=n7 at hR|-;generalize ν 13=b8 at hR|-;have R3:=hdd hR;clear hR R2;simp only[putL,bhJ,bhO]
 go_upto_region 2 with fail
 refine Spec.run (S:=⟨_,fun i=>([.w (.c (.ptr 7 2)),numS g 3,.w (.c (.ptr 6 2)),numS g 1,numS g 11,.w (.c (.ptr 8 0)),numS g 4,.w (.c (.ptr 6 0)),numS g 0,numS g 12,.w (.c (.sl 13 1)),numS g 14,.w (.c (.ptr 15 0)),noS]:List SV).getD i noS,fun n=>([none,none,none,none,none,none,none,none,none,none,none,some 4,some 9,some 10,some 11,some 12]:List (Option Nat)).getD n none,
  [(0,AX),(1,AY),(2,BX),(3,EY),(4,CX),(5,CY),(9,(.mul (.sub BX AX) (.sub CY AY))),(11,(.sub EY AY)),(12,(.sub CX AX)),(14,(.mul (.sub EY AY) (.sub CX AX)))],[⟨6,37,aN g 0 1,none⟩,⟨7,37,aN g 2 3,none⟩,⟨8,37,aN g 4 5,none⟩,⟨10,35,numC g 9,none⟩,⟨13,35,numC g 12,none⟩,⟨15,35,[.v (.pointer none),.v (.int .i64 0)],some (13,numC g 14)⟩],
  fun i=>([0,0,0,0,1,0,0,0,0,1,0,1,0,0]:List Nat).getD i 0,fun i=>([[],[0],[],[2],[0,1,2,3],[],[5],[],[7],[5,6,7,8],[5,6,7,8,9],[0,1,2,3,4,5,6,7,8,9,10],[],[0,1,2,3,4,5,6,7,8,9,10,11,12]]:List (List Nat)).getD i [],[(4,.w (.c (.ptr 7 0))),(3,.w (.c (.ptr 6 0))),(5,.w (.c (.ptr 8 0)))]⟩)
  (W:=runW ⟨w,B,ns⟩ g) (ν0:=fun n=>([ax,ay,bx,ey,cx,cy,b1,b2,b3,n7,b8]:List Nat).getD n 0) (c0:=(N+3))
  (fs:=fun ν=>[(22,.pointer (some ⟨(ν 7),2,none⟩)),(23,numV g (ν 3)),(24,.pointer (some ⟨(ν 6),2,none⟩)),(25,numV g (ν 1)),(26,numV g (ν 11)),(27,.pointer (some ⟨(ν 8),0,none⟩)),(28,numV g (ν 4)),(29,.pointer (some ⟨(ν 6),0,none⟩)),(30,numV g (ν 0)),(31,numV g (ν 12)),(32,.slice (some ⟨(ν 13),0,none⟩) 1 1),(33,numV g (ν 14)),(9,.pointer (some ⟨(ν 15),0,none⟩))]) 14 (N+6) [true,true,true,true,true,true,false,false] [true,true,true,false]
  ⟨Spec.wf_of (by kernel_rfl),gZ (by kernel_rfl),fB ⟨rfl,rfl,rfl,trivial⟩⟩ R3.out (Run.nodup R3.out) (by omega)
  (fun b hM=>aA (aA (aA (aA (aA (aA (aA (aA (aA (aA (aA (aA (aA (aA aL
    (aD b))
    (aK b 2 m1))
    (aD b))
    (aK b 2 m0))
    (bF b (rC hM m3 m1 rfl rfl rfl rfl rfl rfl)))
    (aD b))
    (aK b 2 m2))
    (aD b))
    (aK b 2 m0))
    (bF b (rC hM m4 m0 rfl rfl rfl rfl rfl rfl)))
    (oP b m4))
    (bF b (afG hM m7 m8 rfl rfl m4 rfl rfl rfl rfl rfl rfl rfl rfl)))
    (aS b m5))
    (dM b 2 m5)) ?_
 intro ν W4 hν hR;replace hR:Run ⟨w,B,ns⟩ g (N+6) [(AX,ν 0),(AY,ν 1),(BX,ν 2),(EY,ν 3),(CX,ν 4),(CY,ν 5),((.mul (.sub BX AX) (.sub CY AY)),ν 9),((.sub EY AY),ν 11),((.sub CX AX),ν 12),((.mul (.sub EY AY) (.sub CX AX)),ν 14)] [((ν 6),aQ g (ν 0) (ν 1)),((ν 7),aQ g (ν 2) (ν 3)),((ν 8),aQ g (ν 4) (ν 5)),((ν 10),numO g (ν 9)),((ν 13),numO g (ν 12)),((ν 15),numO g (ν 14))] W4:=hR;have e0:ν 0=ax:=hν 0 rfl;have e1:ν 1=ay:=hν 1 rfl;have e2:ν 2=bx:=hν 2 rfl;have e3:ν 3=ey:=hν 3 rfl;have e4:ν 4=cx:=hν 4 rfl;have e5:ν 5=cy:=hν 5 rfl;have e6:ν 6=b1:=hν 6 rfl;have e7:ν 7=b2:=hν 7 rfl;have e8:ν 8=b3:=hν 8 rfl;have e9:ν 9=n7:=hν 9 rfl;have e10:ν 10=b8:=hν 10 rfl;simp only[e0,e1,e2,e3,e4,e5,e6,e7,e8,e9,e10]at hR|-;clear hν e0 e1 e2 e3 e4 e5 e6 e7 e8 e9 e10;generalize ν 11=n9 at hR|-;generalize ν 12=n10 at hR|-;generalize ν 13=b11 at hR|-;generalize ν 14=n12 at hR|-;generalize ν 15=b13 at hR|-;have R4:=hdd hR;clear hR R3;simp only[putL,bhJ,bhO]
 go_upto_region 3 with fail
 refine Spec.run (S:=⟨_,fun i=>([numS g 0,numS g 2,numS g 4,.tup [.c (.v (.int .i64 q)),.c (.v .nilIface)],.w (.c (.v (.int .i64 q))),.w (.c (.v .nilIface)),.w (.c (.v (.int .i64 q))),.w (.c (.v .nilIface))]:List SV).getD i noS,fun n=>([none,none,none,none,some 2]:List (Option Nat)).getD n none,
  [(0,(.mul (.sub BX AX) (.sub CY AY))),(2,(.mul (.sub EY AY) (.sub CX AX))),(4,(.sub (.mul (.sub BX AX) (.sub CY AY)) (.mul (.sub EY AY) (.sub CX AX))))],[⟨1,35,numC g 0,none⟩,⟨3,35,numC g 2,none⟩],
  fun i=>([0,0,1,0,0,0,0,0]:List Nat).getD i 0,fun i=>([[],[],[0,1],[0,1,2],[0,1,2,3],[0,1,2,3],[0,1,2,3,4],[0,1,2,3,5]]:List (List Nat)).getD i [],[(8,.w (.c (.ptr 1 0))),(9,.w (.c (.ptr 3 0)))]⟩)
  (W:=runW ⟨w,B,ns⟩ g) (ν0:=fun n=>([n7,b8,n12,b13]:List Nat).getD n 0) (c0:=(N+6))
  (fs:=fun ν=>[(34,numV g (ν 0)),(35,numV g (ν 2)),(36,numV g (ν 4)),(37,.tuple #[(.int .i64 q),.nilIface]),(38,(.int .i64 q)),(39,.nilIface),(6,(.int .i64 q)),(7,.nilIface)]) 8 (N+7) [false,false,false,false,false,false,true,false,false] [false,false,false,true,false]
  ⟨Spec.wf_of (by kernel_rfl),gZ (by kernel_rfl),fB ⟨rfl,rfl,trivial⟩⟩ R4.out (Run.nodup R4.out) (by omega)
  (fun b hM=>aA (aA (aA (aA (aA (aA (aA (aA aL
    (aK b 2 m0))
    (aK b 2 m1))
    (bF b (rC hM m0 m1 rfl rfl rfl rfl rfl rfl)))
    (bF b (ak6 hM m2 rfl rfl rfl rfl HQ.out)))
    (aD b))
    (aD b))
    (aD b))
    (aD b)) ?_
 intro ν W5 hν hR;replace hR:Run ⟨w,B,ns⟩ g (N+7) [((.mul (.sub BX AX) (.sub CY AY)),ν 0),((.mul (.sub EY AY) (.sub CX AX)),ν 2),((.sub (.mul (.sub BX AX) (.sub CY AY)) (.mul (.sub EY AY) (.sub CX AX))),ν 4)] [((ν 1),numO g (ν 0)),((ν 3),numO g (ν 2))] W5:=hR;have e0:ν 0=n7:=hν 0 rfl;have e1:ν 1=b8:=hν 1 rfl;have e2:ν 2=n12:=hν 2 rfl;have e3:ν 3=b13:=hν 3 rfl;simp only[e0,e1,e2,e3]at hR|-;clear hν e0 e1 e2 e3;generalize ν 4=n14 at hR|-;have R5:=hdd hR;clear hR R4;simp only[putL,bhJ,bhO];go_wp2;have HB:=hdd (R5.out.ans (v:=.tuple #[.int .i64 q,.nilIface]));clear R5
 go_ret2
 exact HB.out
section
variable{s:Bs}{W:World}{g N i j k i' j' k':Nat}{K:List (Ex×Nat)}{l:List (Nat×Obj)}{x px py qx qy rx ry:Ex}{q:Int}
theorem Run.turn (h:Run s g N K l W)(hN:N+7<=20000)(h1:(px,i)∈K)(h2:(py,i')∈K)(h3:(qx,j)∈K)(h4:(qy,j')∈K)(h5:(rx,k)∈K)(h6:(ry,k')∈K)(hc:xC PT px py qx qy rx ry q):
 Calls Tryz.prog 64 #[bY g i i',bY g j j',bY g k k'] W (RtA s g (N+7) K l (.tuple #[.int .i64 q,.nilIface])):=by
 obtain⟨ns,hs,hK⟩:=h;exact(ak7 hs.st hN (hK _ h1) (hK _ h2) (hK _ h3) (hK _ h4) (hK _ h5) (hK _ h6) (hdd hc)).mono fun _ _ hr=>vV hs hK hr
end
section
variable{S:Spec Ex}{w0:Bs}{g c0:Nat}{i:Nat}(hM:c0+S.total<=20000){m n m' n' m2 n2 t:Nat}{x y x' y' x2 y2:Ex}{q:Int}(hx:(m,x)∈S.know)(hy:(n,y)∈S.know)(px:S.pre i m=true)(py:S.pre i n=true)
include hM hx px
include hy py
variable(hx':(m',x')∈S.know)(hy':(n',y')∈S.know)(px':S.pre i m'=true)(py':S.pre i n'=true)
include hx' hy' px' py'
theorem ao6(hx2:(m2,x2)∈S.know)(hy2:(n2,y2)∈S.know)(px2:S.pre i m2=true)(py2:S.pre i n2=true)(hc:S.cost i=7)(hv:S.val i=ansS (.int .i64 q))(hk:S.made i=[])(hS:xC PT x y x' y' x2 y2 q):
 iA S w0 g c0 i 64 (fun ν=>#[bY g (ν m) (ν n),bY g (ν m') (ν n'),bY g (ν m2) (ν n2)]):=
 nT hM (d:=7) hc (fun ν=>by rw[hv];rfl) hk fun lst ν c w hD hl h=>h.turn (by omega) (fP hx (pre_on px hD)) (fP hy (pre_on py hD)) (fP hx' (pre_on px' hD)) (fP hy' (pre_on py' hD)) (fP hx2 (pre_on px2 hD)) (fP hy2 (pre_on py2 hD)) hS
end
end Go.Proofs.YtaojpfcboainmaaGreatDoor
namespace Go.Proofs.YtaojpfcboainmaaGreatDoor
open Go.RowKit Go.Maps
open Re (rat ofI ofN)
variable{P:Ex->Prop}
section
variable{L:List Ex}{A B C D A' B' C':Ex}{a b c d a' b' c':Re}{i j k l i' j' k':Nat}
end
theorem apX:fv 0=(0:Int)*(U74:Int):=by kernel_rfl
theorem anZ:fv 4607182418800017408=(1:Int)*(U74:Int):=by kernel_rfl
def fl(k:Int):Nat:=FloatKind.f64.nearest k
theorem ad8{k:Int}(h:k.natAbs<2^53):fl k<18446744073709551616/\fin (fl k)/\fv (fl k)=k*(U74:Int):=by
 obtain⟨h1,h2,h3⟩:=acN h;obtain⟨u,hu,hU⟩:=iJ;exact⟨h1,h2,by rw[hU,hu];exact h3⟩
section
variable{L:List Ex}{s t:Sh}{a b:Ex}{p q:Rat}
theorem Fit.radd (h:Fit L s a (rat p))(g:Fit L t b (rat q)):Fit L (.add s t) (.add a b) (rat (p+q)):=by rw[Re.rat_add];exact h.add g
theorem Fit.rsub (h:Fit L s a (rat p))(g:Fit L t b (rat q)):Fit L (.add s t) (.sub a b) (rat (p-q)):=by rw[Re.rat_sub];exact h.sub g
theorem Fit.rmul (h:Fit L s a (rat p))(g:Fit L t b (rat q)):Fit L (.mul s t) (.mul a b) (rat (p*q)):=by rw[Re.rat_mul];exact h.mul g
theorem Fit.rroot (h:Fit L s a (rat p))(h0:0<=q)(hq:q*q=p)(hm:Ex.root a∈L):Fit L (.root s) (.root a) (rat q):=
 Fit.root h (by rw[Re.zero_rat];exact Re.rat_le.2 h0) (by rw[<-Re.rat_mul,hq]) hm
theorem Fit.pos (h:Fit L s a (rat p))(hp:0<p)(hs:(s.ok L.length&&s.top L.length)=true):dQ P a 1:=by
 have:=h.sgn (P:=P) hs;rwa[Re.sgn_pos (by rw[Re.zero_rat];exact Re.rat_lt.2 hp)]at this
theorem Fit.neg (h:Fit L s a (rat p))(hp:p<0)(hs:(s.ok L.length&&s.top L.length)=true):dQ P a (-1):=by
 have:=h.sgn (P:=P) hs;rwa[Re.sgn_neg (by rw[Re.zero_rat];exact Re.rat_lt.2 hp)]at this
theorem Fit.zero (h:Fit L s a (rat p))(hp:p=0)(hs:(s.ok L.length&&s.top L.length)=true):dQ P a 0:=by
 have:=h.sgn (P:=P) hs;rwa[hp,<-Re.zero_rat,Re.sgn_zero]at this
end
end Go.Proofs.YtaojpfcboainmaaGreatDoor
namespace Go.Proofs.YtaojpfcboainmaaGreatDoor
open Ieee
open Re (rat ofI ofN)
end Go.Proofs.YtaojpfcboainmaaGreatDoor
namespace Go.Proofs.YtaojpfcboainmaaGreatDoor
open Go.RowKit Go.Maps
open List renaming mem_append->bhP,mem_cons->bhQ,zip_cons_cons->bhR,all_eq_true->bhS,map_cons->bhT,mem_map->bhU
def RtN(s:Bs)(g N:Nat)(K:List (Ex×Nat))(l:List (Nat×Obj))(V:List Nat->Value)(es:List Ex)(e:Ending)(W':World):Prop:=
 ∃ks:List Nat,ks.length=es.length/\e=.returned (V ks)/\Run s g N (es.zip ks++K) l W'
def FnOk(f:FuncId)(g d:Nat)(av:Array Value)(K0:List (Ex×Nat))(V:List Nat->Value)(es:List Ex):Prop:=
 ∀(s:Bs) (N:Nat) (K:List (Ex×Nat)) (l:List (Nat×Obj)) (W:World),Run s g N K l W->N+d<=20000->(∀p∈K0,p∈K)->Calls Tryz.prog f av W (RtN s g (N+d) K l V es)
def lU(w:World)(B:Nat)(ns:List Nd)(g N:Nat)(V:List Nat->Value)(es:List Ex)(e:Ending)(W':World):Prop:=
 ∃ks:List Nat,ks.length=es.length/\e=.returned (V ks)/\∃l',Run ⟨w,B,ns⟩ g N (es.zip ks) l' W'
section
variable{f:FuncId}{g d:Nat}{av:Array Value}{K0:List (Ex×Nat)}{V:List Nat->Value}{es:List Ex}
theorem FnOk.of (h:∀w B ns N,Run ⟨w,B,ns⟩ g N K0 [] w->N+d<=20000->Calls Tryz.prog f av w (lU w B ns g (N+d) V es)):FnOk f g d av K0 V es:=by
 intro s N K l W hR hN hK;obtain⟨ns',hs,hI⟩:=hR;refine(h W s.B ns' N (Run.enter hs.st (fun p hp=>hI p (hK p hp))) hN).mono ?_;rintro e W'⟨ks,h1,rfl,l',ns'',hs2,hI2⟩;refine⟨ks,h1,rfl,ns'',hs.step hs2.st hs2.pre hs2.grew.2.2,fun p hp=> ?_⟩;rcases bhP.1 hp with hp|hp
 . exact hI2 p hp
 . exact(hI p hp).mono hs2.pre
theorem gF{α:Type}{K K':List α}(ix:List Nat)(h:K'=ix.filterMap (K[·]?):=by rfl):∀p∈K',p∈K:=fun p hp=>by
 rw[h]at hp;obtain⟨j,-,h2⟩:=List.mem_filterMap.1 hp;exact List.mem_of_getElem? h2
end
def letters:List Nat->List Nat->(Nat->Nat)->Nat->Nat
 |t::ts,k::ks,ν,n=>if n=t then k else letters ts ks ν n
 |_,_,ν,n=>ν n
theorem sU:∀(ts ks:List Nat) (ν:Nat->Nat) (n:Nat),n∉ts->letters ts ks ν n=ν n
 |[],_,_,_,_=>rfl
 |_::_,[],_,_,_=>rfl
 |t::ts,k::ks,ν,n,h=>by
  rw[bhQ]at h;show(if n=t then k else letters ts ks ν n)=ν n;rw[if_neg (fun e=>h (Or.inl e)),sU ts ks ν n (fun e=>h (Or.inr e))]
theorem sV:∀(ts ks:List Nat) (ν:Nat->Nat),ts.Nodup->ks.length=ts.length->ts.map (letters ts ks ν)=ks
 |[],[],_,_,_=>rfl
 |[],_::_,_,_,h=>by simp at h
 |_::_,[],_,_,h=>by simp at h
 |t::ts,k::ks,ν,hn,h=>by
  rw[List.nodup_cons]at hn;have e:ts.map (letters (t::ts) (k::ks) ν)=ts.map (letters ts ks ν):=List.map_congr_left fun n hm=>by
   show(if n=t then k else letters ts ks ν n)=_;rw[if_neg (fun e=>hn.1 (by rw[<-e];exact hm))]
  rw[bhT,e,sV ts ks ν hn.2 (by simpa using h)];show(if t=t then k else _)::ks=k::ks;rw[if_pos rfl]
theorem sW{α:Type}{h:Nat->Nat}{q:Nat×α}:∀{ts:List Nat} {es:List α},q∈ts.zip es->(q.2,h q.1)∈es.zip (ts.map h)
 |[],_,hq=>by simp at hq
 |_::_,[],hq=>by simp at hq
 |t::ts,e::es,hq=>by
  rw[bhR,bhQ]at hq;rw[bhT,bhR,bhQ];rcases hq with rfl|hq
  . exact Or.inl rfl
  . exact Or.inr (sW hq)
section
variable{S:Spec Ex}{w0:Bs}{g c0 i d:Nat}{f:FuncId}{args:(Nat->Nat)->Array Value}{ix ts:List Nat}{V:List Nat->Value}{es:List Ex}
theorem retL{lst:Nat->Bool}{ν:Nat->Nat}{c:Nat}{l:List (Nat×Obj)}{w':World}{ks:List Nat}(ht:(ts.all fun t=>S.cr t==some i)=true)(hn:ts.Nodup)(hk:S.made i=ts.zip es)(h1:ks.length=ts.length)(hR:Run w0 g c (es.zip ks++S.K lst ν) l w'):
 ∃ν',(∀n,S.cr n≠some i->ν' n=ν n)/\ts.map ν'=ks/\Run w0 g c (S.newK i ν'++S.K lst ν) l w':=by
 have hm:=sV ts ks ν hn h1;refine⟨letters ts ks ν,fun n h=>sU ts ks ν n fun hin=>h (by have:=bhS.1 ht n hin;simpa using this),hm,hR.few fun p hp=> ?_⟩;rcases bhP.1 hp with h|h
 . obtain⟨q,h2,rfl⟩:=rA h
   rw[hk]at h2;have:=sW (h:=letters ts ks ν) h2;rw[hm]at this;exact bhP.2 (Or.inl this)
 . exact bhP.2 (Or.inr h)
theorem c_fn(hM:c0+S.total<=20000)(F:∀ν,FnOk f g d (args ν) ((ix.map fun j=>S.know.getD j (0,.leaf 0)).map fun q=>(q.2,ν q.1)) V es)
 (hix:(ix.all fun j=>decide (j<S.know.length)&&S.pre i (S.know.getD j (0,.leaf 0)).1)=true:=by kernel_rfl) (hc:S.cost i=d:=by rfl) (hv:∀ν,(S.val i).den ν=V (ts.map ν):=by intro _;rfl)
 (ht:(ts.all fun t=>S.cr t==some i)=true:=by kernel_rfl) (hk:S.made i=ts.zip es:=by rfl) (hn:ts.Nodup:=by decide) (hl:ts.length=es.length:=by rfl):iA S w0 g c0 i f args:=by
 intro lst ν c w hD hcl hG;rw[hc]at hcl;refine(F ν w0 c _ _ w hG (by omega) fun p hp=> ?_).mono ?_
 . obtain⟨q,h1,rfl⟩:=bhU.1 hp
   obtain⟨j,h2,rfl⟩:=bhU.1 h1;have h3:=bhS.1 hix j h2;rw[Bool.and_eq_true,decide_eq_true_eq]at h3;refine fP ?_ (pre_on h3.2 hD);rw[List.getD_eq_getElem?_getD,List.getElem?_eq_getElem h3.1];exact List.getElem_mem h3.1
 . rintro e w'⟨ks,k1,rfl,hR⟩
   obtain⟨ν',a1,a2,a3⟩:=retL ht hn hk (by omega) hR;exact⟨ν',a1,by rw[hv,a2],by rw[hc];exact a3⟩
end
end Go.Proofs.YtaojpfcboainmaaGreatDoor
namespace Go.Proofs.YtaojpfcboainmaaGreatDoor
open Go.RowKit Go.Maps Go.Stop Go.Extern
variable{b:Nat}
abbrev curV(k:Int)(a b c:Nat):Value:=.agg #[.int .i64 k,.float .f64 a,.float .f64 b,.float .f64 c]
abbrev curO(k:Int)(a b c:Nat):Obj:=.cells #[.int .i64 k,.float .f64 a,.float .f64 b,.float .f64 c] 33
abbrev FlOk(b:Nat):Prop:=b<18446744073709551616/\fin b
theorem ahP:0<=sr b↔0<=fv b:=by
 unfold fv;rw[<-vB,dY]
theorem afH{w:World}{a c:Nat}(ha:FlOk a)(hb:FlOk b)(hc:FlOk c)(h0:0<=fv c):Calls Tryz.prog 43 #[curV 2 a b c] w (RetV w .nilIface):=by
 obtain⟨w1,hw1,hb1,hs1,b1⟩:=pro1 w (curO 2 a b c);obtain⟨c0,c1,c2,c3⟩:=aW b1;have HB:=hdd hb1;have FA:Hid (∀w',Calls Tryz.prog 65 #[.float .f64 a] w' (RetB w' true)):=hdd fun w'=>by have:=fU (w:=w') ha.1;rwa[decide_eq_true ha.2]at this
 have FB:Hid (∀w',Calls Tryz.prog 65 #[.float .f64 b] w' (RetB w' true)):=hdd fun w'=>by have:=fU (w:=w') hb.1;rwa[decide_eq_true hb.2]at this
 have FC:Hid (∀w',Calls Tryz.prog 65 #[.float .f64 c] w' (RetB w' true)):=hdd fun w'=>by have:=fU (w:=w') hc.1;rwa[decide_eq_true hc.2]at this
 have hg:=ai5 (b:=c) hc.2.num num0;rw[sr0,decide_eq_true (ahP.2 h0)]at hg;clear ha hb hc h0 hb1 hs1 b1;go_enter Tryz.func43,Tryz.ntmps43
 go_wp2_with fail
 refine(FA.out _).mono ?_;rintro e w2⟨rfl,hw⟩;obtain rfl:=hw;go_wp2_with fail
 refine(FB.out _).mono ?_;rintro e w2⟨rfl,hw⟩;obtain rfl:=hw;go_wp2_with fail
 refine(FC.out _).mono ?_;rintro e w2⟨rfl,hw⟩;obtain rfl:=hw;go_wp2;go_ret;exact⟨rfl,HB.out⟩
end Go.Proofs.YtaojpfcboainmaaGreatDoor
namespace Go.Proofs.YtaojpfcboainmaaGreatDoor
open Go.RowKit Go.Maps
end Go.Proofs.YtaojpfcboainmaaGreatDoor
namespace Go.Proofs.YtaojpfcboainmaaGreatDoor
open Go.RowKit Go.Maps
open Re (rat ofI ofN)
theorem Fit.sign {P:Ex->Prop}{L:List Ex}{s:Sh}{a:Ex}{q:Rat}{v:Int}(h:Fit L s a (rat q))(c:Nat)(hc:0<c)(hq:q*(c:Rat)=(v:Rat))(hs:(s.ok L.length&&s.top L.length)=true):dQ P a v.sign:=by
 have hc':(0:Rat)<(c:Rat):=by rw[<-Rat.intCast_natCast];exact Rat.intCast_pos.2 (by omega)
 rcases Int.lt_trichotomy v 0 with g|g|g
 . rw[Int.sign_eq_neg_one_iff_neg.2 g]
   refine h.neg ?_ hs;apply Classical.byContradiction;intro k;have h1:0<=q*(c:Rat):=Rat.mul_nonneg (by grind) (by grind);rw[hq]at h1;have h2:(v:Rat)<((0:Int):Rat):=Rat.intCast_lt_intCast.2 g;have h3:((0:Int):Rat)=0:=rfl;grind
 . rw[g]
   refine h.zero ?_ hs;rw[g]at hq;rcases Rat.mul_eq_zero.1 (hq.trans (show((0:Int):Rat)=0 from rfl))with k|k
   . exact k
   . grind
 . rw[Int.sign_eq_one_iff_pos.2 g]
   refine h.pos ?_ hs;apply Classical.byContradiction;intro k;have h1:0<=-q*(c:Rat):=Rat.mul_nonneg (by grind) (by grind);have h2:((0:Int):Rat)<(v:Rat):=Rat.intCast_lt_intCast.2 g;have h3:((0:Int):Rat)=0:=rfl;grind
def Iw(b:Nat)(T:Int):Prop:=FlOk b/\fv b=T*(U74:Int)
end Go.Proofs.YtaojpfcboainmaaGreatDoor
namespace Go.Proofs.YtaojpfcboainmaaGreatDoor
open Go.RowKit Go.Maps Go.Stop Go.Extern
theorem ak8:FlOk 0:=⟨by decide,by decide⟩
def lK(a b c:Nat):Prop:=FlOk a/\FlOk b/\FlOk c/\0<=fv c
theorem yZ{w:World}{a b c:Nat}(h:lK a b c):Calls Tryz.prog 25 #[curV 2 a b c] w (RetV w .nilIface):=by
 obtain⟨w1,hw1,hb1,hs1,b1⟩:=pro1 w (curO 2 a b c);obtain⟨c0,c1,c2,c3⟩:=aW b1;have HB:=hdd hb1;have HL:=hdd (afH (w:=w1) h.1 h.2.1 h.2.2.1 h.2.2.2);clear h hb1 hs1 b1;go_enter Tryz.func25,Tryz.ntmps25
 go_wp2_with fail
 refine HL.out.mono ?_;rintro e w2⟨rfl,hb⟩;have HB2:=hdd (HB.out.trans (hb.mono HB.out.size));clear hb;go_wp2;go_ret;exact⟨rfl,HB2.out⟩
end Go.Proofs.YtaojpfcboainmaaGreatDoor
namespace Go.Proofs.YtaojpfcboainmaaGreatDoor
open Go.RowKit Go.Maps
section
variable{E:Type}{S:Spec E}{W:Wk E}{P:Program}{Q:Exit->Act->World->Prop}{c0:Nat}{a0:Act}{ν0:Nat->Nat}{i:Nat}{o:Oper}
end
section
variable{f:FuncId}{g d:Nat}{av:Array Value}{K0:List (Ex×Nat)}{V:List Nat->Nat->Value}{es:List Ex}{O:List Nat->Obj}
end
section
variable{S:Spec Ex}{w0:Bs}{g c0 i d:Nat}{f:FuncId}{args:(Nat->Nat)->Array Value}{ix ts:List Nat}{V:List Nat->Nat->Value}{es:List Ex}{O:List Nat->Obj}{B:Blk}
end
def AllN:Nat->(List Nat->Prop)->Prop
 |0,P=>P []
 |m+1,P=>∀a:Nat,AllN m fun l=>P (a::l)
theorem AllN.at:∀{m:Nat} {P:List Nat->Prop},AllN m P->∀l:List Nat,l.length=m->P l
 |0,_,h,[],_=>h
 |_+1,_,h,a::l,e=>(h a).at l (Nat.succ.inj e)
def nuU:List Nat->(Nat->Nat)->Nat->Nat
 |[],ν,n=>ν n
 |a::_,_,0=>a
 |_::l,ν,n+1=>nuU l ν n
def nuT:List Nat->List Nat->(Nat->Nat)->Nat->Nat
 |[],t,ν,n=>nuU t ν n
 |a::_,_,_,0=>a
 |_::l,t,ν,n+1=>nuT l t ν n
section
variable{a n:Nat}{l t:List Nat}{ν:Nat->Nat}
theorem nuU0:nuU (a::t) ν 0=a:=rfl
theorem nuU1:nuU (a::t) ν (n+1)=nuU t ν n:=rfl
theorem nuTn:nuT [] t ν n=nuU t ν n:=rfl
theorem nuT0:nuT (a::l) t ν 0=a:=rfl
theorem nuT1:nuT (a::l) t ν (n+1)=nuT l t ν n:=rfl
end
def y8:Nat->(Nat->Nat)->List Nat
 |0,_=>[]
 |m+1,ν=>ν 0::y8 m fun n=>ν (n+1)
theorem afI:∀(m:Nat) (ν:Nat->Nat),(y8 m ν).length=m
 |0,_=>rfl
 |m+1,ν=>congrArg (· +1) (afI m fun n=>ν (n+1))
theorem ak9:∀(m:Nat) (ν:Nat->Nat) (n:Nat),nuU (y8 m ν) (fun k=>ν (k+m)) n=ν n
 |0,_,_=>rfl
 |_+1,_,0=>rfl
 |m+1,ν,n+1=>ak9 m (fun k=>ν (k+1)) n
theorem alA{m:Nat}:∀(l:List Nat) (ν:Nat->Nat),(∀n,n<l.length->ν n=l.getD n 0)->∀n,nuT l (y8 m fun k=>ν (k+l.length)) (fun k=>ν (k+m+l.length)) n=ν n
 |[],ν,_,n=>ak9 m ν n
 |a::l,ν,h,0=>(h 0 (Nat.succ_pos _)).symm
 |a::l,ν,h,n+1=>alA (m:=m) l (fun k=>ν (k+1)) (fun k hk=>h (k+1) (Nat.succ_lt_succ hk)) n
abbrev mkS(ops:Array Oper)(k:Nat)(vals:List SV)(cr:List Nat)(know:List (Nat×Ex))(blocks:List Blk)(cost:List Nat)(D:List (List Nat))(outs:List (Nat×SV)):Spec Ex:=
 ⟨ops,fun i=>vals.getD i noS,fun n=>(List.replicate k none++cr.map some).getD n none,know,blocks,fun i=>cost.getD i 0,fun i=>D.getD i [],outs⟩
abbrev rgn(n:Nat):List Nat:=List.range n
abbrev curC(k:Int)(a b c:Nat):List SC:=[.v (.int .i64 k),.v (.float .f64 a),.v (.float .f64 b),.v (.float .f64 c)]
def fsOf:List Nat->List SV->(Nat->Nat)->List (Nat×Value)
 |0::ds,_::vs,ν=>fsOf ds vs ν
 |(d+1)::ds,v::vs,ν=>(d,v.den ν)::fsOf ds vs ν
 |_,_,_=>[]
section
variable{d:Nat}{ds:List Nat}{v:SV}{vs:List SV}{ν:Nat->Nat}{a:Act}{x:Value}{l:List (Nat×Value)}{b:SW}{lw:List SW}{c:SC}{lc:List SC}{n o:Nat}
theorem fs0:fsOf (0::ds) (v::vs) ν=fsOf ds vs ν:=rfl
theorem fs1:fsOf ((d+1)::ds) (v::vs) ν=(d,v.den ν)::fsOf ds vs ν:=rfl
theorem fsn:fsOf [] [] ν=[]:=rfl
theorem dSw:(SV.w b).den ν=b.den ν:=rfl
theorem dSt:(SV.tup lw).den ν=.tuple (lw.map (SW.den ν)).toArray:=rfl
theorem dWc:(SW.c c).den ν=c.den ν:=rfl
theorem dWa:(SW.agg lc).den ν=.agg (lc.map (SC.den ν)).toArray:=rfl
theorem dv:(SC.v x).den ν=x:=rfl
theorem di:(SC.id n).den ν=.int .i64 ((ν n:Nat):Int):=rfl
theorem dp:(SC.ptr n o).den ν=.pointer (some ⟨ν n,o,none⟩):=rfl
theorem ds':(SC.sl n o).den ν=.slice (some ⟨ν n,0,none⟩) o o:=rfl
end
theorem Spec.go {ops:Array Oper}{w0:Bs}{g c0:Nat}{a0:Act}{Q:Exit->Act->World->Prop}{id:Nat}{draw:Bool}{w:World}{K:List (Ex×Nat)}{l:List (Nat×Obj)}(vals:List SV)(cr:List Nat)(know:List (Nat×Ex))(blocks:List Blk)(cost:List Nat)(D:List (List Nat))(outs:List (Nat×SV))(ds old:List Nat)(n c1:Nat)(mK ml:List Bool)(hG:Run w0 g c0 K l w)
 (hok:(mkS ops old.length vals cr know blocks cost D outs).Base a0 (fun n=>old.getD n 0)->c0+(mkS ops old.length vals cr know blocks cost D outs).total<=20000->∀i,i<n->(mkS ops old.length vals cr know blocks cost D outs).Ok (runW w0 g) Tryz.prog Q c0 a0 (fun n=>old.getD n 0) i)
 (hfin:AllN cr.length fun t=>∀(ν:Nat->Nat) (w:World),Run w0 g c1 ((mkS ops old.length vals cr know blocks cost D outs).K (mkS ops old.length vals cr know blocks cost D outs).full (nuT old t ν)) ((mkS ops old.length vals cr know blocks cost D outs).L (mkS ops old.length vals cr know blocks cost D outs).full (nuT old t ν)) w->Q .normal (putL a0 (fsOf ds vals (nuT old t ν))) w)
 (hb:(mkS ops old.length vals cr know blocks cost D outs).Base a0 (fun n=>old.getD n 0):=by exact⟨Spec.wf_of (by kernel_rfl),gZ (by kernel_rfl),fB (by repeat (first|exact trivial|refine And.intro rfl ?_))⟩) (hM:c1<=20000:=by omega) (ho:((List.range old.length).all fun n=>(mkS ops old.length vals cr know blocks cost D outs).cr n==none)=true:=by kernel_rfl)
 (hK:(mkS ops old.length vals cr know blocks cost D outs).K (fun _=>false) (fun n=>old.getD n 0)=selB K mK:=by kernel_rfl) (hL:(mkS ops old.length vals cr know blocks cost D outs).L (fun _=>false) (fun n=>old.getD n 0)=selB l ml:=by kernel_rfl) (hz:ops.size=n:=by rfl) (hc1:c0+(mkS ops old.length vals cr know blocks cost D outs).total=c1:=by kernel_rfl) (hf:∀ν,(mkS ops old.length vals cr know blocks cost D outs).fins ν=fsOf ds vals ν:=by intro ν;kernel_rfl)
 (hm:Tryz.prog.follows .mixedOrders=true:=by rfl):(Code.region id ops draw).wp Tryz.prog Q a0 w:=
 Spec.run (S:=mkS ops old.length vals cr know blocks cost D outs) (W:=runW w0 g) n c1 mK ml hb hG (Run.nodup hG) hM hok (fun ν w hν hw=>by
  have e:nuT old (y8 cr.length fun k=>ν (k+old.length)) (fun k=>ν (k+cr.length+old.length))=ν:=funext fun n=>alA old ν (fun k hk=>hν k (by
   have:=List.all_eq_true.1 ho k (List.mem_range.2 hk);simpa using this)) n
  have h:=hfin.at (y8 cr.length fun k=>ν (k+old.length)) (afI _ _) (fun k=>ν (k+cr.length+old.length)) w;rw[e]at h;exact h hw) hK hL hz hc1 hf hm
end Go.Proofs.YtaojpfcboainmaaGreatDoor
