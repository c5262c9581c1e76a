/- A part of the proof: contracts of functions and plain laws (FnA, SymD, FnC, SymE, SymF, SpE, SnA, FlA, FlB, FlC, FlD, FlE, FlF, FlG, CkA, CkB, MtA). -/
import Derived.Test.YtebdolonckjpiaaGreatDoorK18
import Derived.Deep.Cut
import Derived.Deep.DeepCutAuto
import Derived.Test.YtebdolonckjpiaaGreatDoorK15
import Derived.LaidEql
import Derived.Lib.IfaceEq
import Derived.Stop.Asserts
import Derived.Recover
import Derived.Defers
set_option linter.unusedVariables false
set_option linter.unusedSimpArgs false
set_option maxHeartbeats 25600000
set_option maxRecDepth 100000
namespace Go.Proofs.YtebdolonckjpiaaGreatDoor
open Go.RowKit Go.Maps
open List renaming setIfInBounds_toArray->baO,map_cons->baP,map_nil->baQ,set->baR,mem_append->baS,mem_cons->baT,all_eq_true->baU,zip_cons_cons->baV,mem_map->baW,range->baX
variable{A1 A2 B1 B2 X1 X2:Ex}{w:World}
def RtN(s:Bs)(g N:Nat)(K:List (Ex×Nat))(l:List (Nat×Obj))(V:List Nat->Value)(es:List Ex)(e:Ending)(W':World):Prop:=
 ∃ks:List Nat,ks.length=es.length/\e=.returned (V ks)/\Run s g N (es.zip ks++K) l W'
def FnOk(f:FuncId)(g d:Nat)(av:Array Value)(K0:List (Ex×Nat))(V:List Nat->Value)(es:List Ex):Prop:=
 ∀(s:Bs) (N:Nat) (K:List (Ex×Nat)) (l:List (Nat×Obj)) (W:World),Run s g N K l W->N+d<=20000->(∀p∈K0,p∈K)->Calls Tryz.prog f av W (RtN s g (N+d) K l V es)
def uS(w:World)(B:Nat)(ns:List Nd)(g N:Nat)(V:List Nat->Value)(es:List Ex)(e:Ending)(W':World):Prop:=
 ∃ks:List Nat,ks.length=es.length/\e=.returned (V ks)/\∃l',Run ⟨w,B,ns⟩ g N (es.zip ks) l' W'
section
variable{f:FuncId}{g d:Nat}{av:Array Value}{K0:List (Ex×Nat)}{V:List Nat->Value}{es:List Ex}
theorem FnOk.of (h:∀w B ns N,Run ⟨w,B,ns⟩ g N K0 [] w->N+d<=20000->Calls Tryz.prog f av w (uS w B ns g (N+d) V es)):FnOk f g d av K0 V es:=by
 intro s N K l W hR hN hK;obtain⟨ns',hs,hI⟩:=hR;refine(h W s.B ns' N (Run.enter hs.st (fun p hp=>hI p (hK p hp))) hN).mono ?_;rintro e W'⟨ks,h1,rfl,l',ns'',hs2,hI2⟩;refine⟨ks,h1,rfl,ns'',hs.step hs2.st hs2.pre hs2.grew.2.2,fun p hp=> ?_⟩;rcases baS.1 hp with hp|hp
 . exact hI2 p hp
 . exact(hI p hp).mono hs2.pre
theorem nS{α:Type}{K K':List α}(ix:List Nat)(h:K'=ix.filterMap (K[·]?):=by rfl):∀p∈K',p∈K:=fun p hp=>by
 rw[h]at hp;obtain⟨j,-,h2⟩:=List.mem_filterMap.1 hp;exact List.mem_of_getElem? h2
end
def letters:List Nat->List Nat->(Nat->Nat)->Nat->Nat
 |t::ts,k::ks,ν,n=>if n=t then k else letters ts ks ν n
 |_,_,ν,n=>ν n
theorem qX:∀(ts ks:List Nat) (ν:Nat->Nat) (n:Nat),n∉ts->letters ts ks ν n=ν n
 |[],_,_,_,_=>rfl
 |_::_,[],_,_,_=>rfl
 |t::ts,k::ks,ν,n,h=>by
  rw[baT]at h;show(if n=t then k else letters ts ks ν n)=ν n;rw[if_neg (fun e=>h (Or.inl e)),qX ts ks ν n (fun e=>h (Or.inr e))]
theorem qY:∀(ts ks:List Nat) (ν:Nat->Nat),ts.Nodup->ks.length=ts.length->ts.map (letters ts ks ν)=ks
 |[],[],_,_,_=>rfl
 |[],_::_,_,_,h=>by simp at h
 |_::_,[],_,_,h=>by simp at h
 |t::ts,k::ks,ν,hn,h=>by
  rw[List.nodup_cons]at hn;have e:ts.map (letters (t::ts) (k::ks) ν)=ts.map (letters ts ks ν):=List.map_congr_left fun n hm=>by
   show(if n=t then k else letters ts ks ν n)=_;rw[if_neg (fun e=>hn.1 (by rw[<-e];exact hm))]
  rw[baP,e,qY ts ks ν hn.2 (by simpa using h)];show(if t=t then k else _)::ks=k::ks;rw[if_pos rfl]
theorem qZ{α:Type}{h:Nat->Nat}{q:Nat×α}:∀{ts:List Nat} {es:List α},q∈ts.zip es->(q.2,h q.1)∈es.zip (ts.map h)
 |[],_,hq=>by simp at hq
 |_::_,[],hq=>by simp at hq
 |t::ts,e::es,hq=>by
  rw[baV,baT]at hq;rw[baP,baV,baT];rcases hq with rfl|hq
  . exact Or.inl rfl
  . exact Or.inr (qZ hq)
section
variable{S:Spec Ex}{w0:Bs}{g c0 i d:Nat}{f:FuncId}{args:(Nat->Nat)->Array Value}{ix ts:List Nat}{V:List Nat->Value}{es:List Ex}
theorem retL{lst:Nat->Bool}{ν:Nat->Nat}{c:Nat}{l:List (Nat×Obj)}{w':World}{ks:List Nat}(ht:(ts.all fun t=>S.cr t==some i)=true)(hn:ts.Nodup)(hk:S.made i=ts.zip es)(h1:ks.length=ts.length)(hR:Run w0 g c (es.zip ks++S.K lst ν) l w'):
 ∃ν',(∀n,S.cr n≠some i->ν' n=ν n)/\ts.map ν'=ks/\Run w0 g c (S.newK i ν'++S.K lst ν) l w':=by
 have hm:=qY ts ks ν hn h1;refine⟨letters ts ks ν,fun n h=>qX ts ks ν n fun hin=>h (by have:=baU.1 ht n hin;simpa using this),hm,hR.few fun p hp=> ?_⟩;rcases baS.1 hp with h|h
 . obtain⟨q,h2,rfl⟩:=o9 h
   rw[hk]at h2;have:=qZ (h:=letters ts ks ν) h2;rw[hm]at this;exact baS.2 (Or.inl this)
 . exact baS.2 (Or.inr h)
theorem c_fn(hM:c0+S.total<=20000)(F:∀ν,FnOk f g d (args ν) ((ix.map fun j=>S.know.getD j (0,.leaf 0)).map fun q=>(q.2,ν q.1)) V es)
 (hix:(ix.all fun j=>decide (j<S.know.length)&&S.pre i (S.know.getD j (0,.leaf 0)).1)=true:=by kernel_rfl) (hc:S.cost i=d:=by rfl) (hv:∀ν,(S.val i).den ν=V (ts.map ν):=by intro _;rfl)
 (ht:(ts.all fun t=>S.cr t==some i)=true:=by kernel_rfl) (hk:S.made i=ts.zip es:=by rfl) (hn:ts.Nodup:=by decide) (hl:ts.length=es.length:=by rfl):gZ S w0 g c0 i f args:=by
 intro lst ν c w hD hcl hG;rw[hc]at hcl;refine(F ν w0 c _ _ w hG (by omega) fun p hp=> ?_).mono ?_
 . obtain⟨q,h1,rfl⟩:=baW.1 hp
   obtain⟨j,h2,rfl⟩:=baW.1 h1;have h3:=baU.1 hix j h2;rw[Bool.and_eq_true,decide_eq_true_eq]at h3;refine fG ?_ (pre_on h3.2 hD);rw[List.getD_eq_getElem?_getD,List.getElem?_eq_getElem h3.1];exact List.getElem_mem h3.1
 . rintro e w'⟨ks,k1,rfl,hR⟩
   obtain⟨ν',a1,a2,a3⟩:=retL ht hn hk (by omega) hR;exact⟨ν',a1,by rw[hv,a2],by rw[hc];exact a3⟩
end
section
variable{E:Type}{S:Spec E}{W:Wk E}{P:Program}{Q:Exit->Act->World->Prop}{c0:Nat}{a0:Act}{ν0:Nat->Nat}{i:Nat}{o:Oper}
end
section
variable{f:FuncId}{g d:Nat}{av:Array Value}{K0:List (Ex×Nat)}{V:List Nat->Nat->Value}{es:List Ex}{O:List Nat->Obj}
end
section
variable{S:Spec Ex}{w0:Bs}{g c0 i d:Nat}{f:FuncId}{args:(Nat->Nat)->Array Value}{ix ts:List Nat}{V:List Nat->Nat->Value}{es:List Ex}{O:List Nat->Obj}{B:Blk}
end
def AllN:Nat->(List Nat->Prop)->Prop
 |0,P=>P []
 |m+1,P=>∀a:Nat,AllN m fun l=>P (a::l)
theorem AllN.at:∀{m:Nat} {P:List Nat->Prop},AllN m P->∀l:List Nat,l.length=m->P l
 |0,_,h,[],_=>h
 |_+1,_,h,a::l,e=>(h a).at l (Nat.succ.inj e)
def nuU:List Nat->(Nat->Nat)->Nat->Nat
 |[],ν,n=>ν n
 |a::_,_,0=>a
 |_::l,ν,n+1=>nuU l ν n
def nuT:List Nat->List Nat->(Nat->Nat)->Nat->Nat
 |[],t,ν,n=>nuU t ν n
 |a::_,_,_,0=>a
 |_::l,t,ν,n+1=>nuT l t ν n
section
variable{a n:Nat}{l t:List Nat}{ν:Nat->Nat}
theorem nuU0:nuU (a::t) ν 0=a:=rfl
theorem nuU1:nuU (a::t) ν (n+1)=nuU t ν n:=rfl
theorem nuTn:nuT [] t ν n=nuU t ν n:=rfl
theorem nuT0:nuT (a::l) t ν 0=a:=rfl
theorem nuT1:nuT (a::l) t ν (n+1)=nuT l t ν n:=rfl
end
def wW:Nat->(Nat->Nat)->List Nat
 |0,_=>[]
 |m+1,ν=>ν 0::wW m fun n=>ν (n+1)
theorem adL:∀(m:Nat) (ν:Nat->Nat),(wW m ν).length=m
 |0,_=>rfl
 |m+1,ν=>congrArg (· +1) (adL m fun n=>ν (n+1))
theorem aiI:∀(m:Nat) (ν:Nat->Nat) (n:Nat),nuU (wW m ν) (fun k=>ν (k+m)) n=ν n
 |0,_,_=>rfl
 |_+1,_,0=>rfl
 |m+1,ν,n+1=>aiI m (fun k=>ν (k+1)) n
theorem aiJ{m:Nat}:∀(l:List Nat) (ν:Nat->Nat),(∀n,n<l.length->ν n=l.getD n 0)->∀n,nuT l (wW m fun k=>ν (k+l.length)) (fun k=>ν (k+m+l.length)) n=ν n
 |[],ν,_,n=>aiI m ν n
 |a::l,ν,h,0=>(h 0 (Nat.succ_pos _)).symm
 |a::l,ν,h,n+1=>aiJ (m:=m) l (fun k=>ν (k+1)) (fun k hk=>h (k+1) (Nat.succ_lt_succ hk)) n
abbrev mkS(ops:Array Oper)(k:Nat)(vals:List SV)(cr:List Nat)(know:List (Nat×Ex))(blocks:List Blk)(cost:List Nat)(D:List (List Nat))(outs:List (Nat×SV)):Spec Ex:=
 ⟨ops,fun i=>vals.getD i noS,fun n=>(List.replicate k none++cr.map some).getD n none,know,blocks,fun i=>cost.getD i 0,fun i=>D.getD i [],outs⟩
abbrev rgn(n:Nat):List Nat:=baX n
abbrev curC(k:Int)(a b c:Nat):List SC:=[.v (.int .i64 k),.v (.float .f64 a),.v (.float .f64 b),.v (.float .f64 c)]
def fsOf:List Nat->List SV->(Nat->Nat)->List (Nat×Value)
 |0::ds,_::vs,ν=>fsOf ds vs ν
 |(d+1)::ds,v::vs,ν=>(d,v.den ν)::fsOf ds vs ν
 |_,_,_=>[]
section
variable{d:Nat}{ds:List Nat}{v:SV}{vs:List SV}{ν:Nat->Nat}{a:Act}{x:Value}{l:List (Nat×Value)}{b:SW}{lw:List SW}{c:SC}{lc:List SC}{n o:Nat}
theorem fs0:fsOf (0::ds) (v::vs) ν=fsOf ds vs ν:=rfl
theorem fs1:fsOf ((d+1)::ds) (v::vs) ν=(d,v.den ν)::fsOf ds vs ν:=rfl
theorem fsn:fsOf [] [] ν=[]:=rfl
theorem dSw:(SV.w b).den ν=b.den ν:=rfl
theorem dSt:(SV.tup lw).den ν=.tuple (lw.map (SW.den ν)).toArray:=rfl
theorem dWc:(SW.c c).den ν=c.den ν:=rfl
theorem dWa:(SW.agg lc).den ν=.agg (lc.map (SC.den ν)).toArray:=rfl
theorem dv:(SC.v x).den ν=x:=rfl
theorem di:(SC.id n).den ν=.int .i64 ((ν n:Nat):Int):=rfl
theorem dp:(SC.ptr n o).den ν=.pointer (some ⟨ν n,o,none⟩):=rfl
theorem ds':(SC.sl n o).den ν=.slice (some ⟨ν n,0,none⟩) o o:=rfl
end
theorem Spec.go {ops:Array Oper}{w0:Bs}{g c0:Nat}{a0:Act}{Q:Exit->Act->World->Prop}{id:Nat}{draw:Bool}{K:List (Ex×Nat)}{l:List (Nat×Obj)}(vals:List SV)(cr:List Nat)(know:List (Nat×Ex))(blocks:List Blk)(cost:List Nat)(D:List (List Nat))(outs:List (Nat×SV))(ds old:List Nat)(n c1:Nat)(mK ml:List Bool)(hG:Run w0 g c0 K l w)
 (hok:(mkS ops old.length vals cr know blocks cost D outs).Base a0 (fun n=>old.getD n 0)->c0+(mkS ops old.length vals cr know blocks cost D outs).total<=20000->∀i,i<n->(mkS ops old.length vals cr know blocks cost D outs).Ok (runW w0 g) Tryz.prog Q c0 a0 (fun n=>old.getD n 0) i)
 (hfin:AllN cr.length fun t=>∀(ν:Nat->Nat) (w:World),Run w0 g c1 ((mkS ops old.length vals cr know blocks cost D outs).K (mkS ops old.length vals cr know blocks cost D outs).full (nuT old t ν)) ((mkS ops old.length vals cr know blocks cost D outs).L (mkS ops old.length vals cr know blocks cost D outs).full (nuT old t ν)) w->Q .normal (putL a0 (fsOf ds vals (nuT old t ν))) w)
 (hb:(mkS ops old.length vals cr know blocks cost D outs).Base a0 (fun n=>old.getD n 0):=by exact⟨Spec.wf_of (by kernel_rfl),uI (by kernel_rfl),nA (by repeat (first|exact trivial|refine And.intro rfl ?_))⟩) (hM:c1<=20000:=by omega) (ho:((baX old.length).all fun n=>(mkS ops old.length vals cr know blocks cost D outs).cr n==none)=true:=by kernel_rfl)
 (hK:(mkS ops old.length vals cr know blocks cost D outs).K (fun _=>false) (fun n=>old.getD n 0)=selB K mK:=by kernel_rfl) (hL:(mkS ops old.length vals cr know blocks cost D outs).L (fun _=>false) (fun n=>old.getD n 0)=selB l ml:=by kernel_rfl) (hz:ops.size=n:=by rfl) (hc1:c0+(mkS ops old.length vals cr know blocks cost D outs).total=c1:=by kernel_rfl) (hf:∀ν,(mkS ops old.length vals cr know blocks cost D outs).fins ν=fsOf ds vals ν:=by intro ν;kernel_rfl)
 (hm:Tryz.prog.follows .mixedOrders=true:=by rfl):(Code.region id ops draw).wp Tryz.prog Q a0 w:=
 Spec.run (S:=mkS ops old.length vals cr know blocks cost D outs) (W:=runW w0 g) n c1 mK ml hb hG (Run.nodup hG) hM hok (fun ν w hν hw=>by
  have e:nuT old (wW cr.length fun k=>ν (k+old.length)) (fun k=>ν (k+cr.length+old.length))=ν:=funext fun n=>aiJ old ν (fun k hk=>hν k (by
   have:=baU.1 ho k (List.mem_range.2 hk);simpa using this)) n
  have h:=hfin.at (wW cr.length fun k=>ν (k+old.length)) (adL _ _) (fun k=>ν (k+cr.length+old.length)) w;rw[e]at h;exact h hw) hK hL hz hc1 hf hm
section
variable{E:Type}{S:Spec E}{W:Wk E}{P:Program}{Q:Exit->Act->World->Prop}{c0:Nat}{a0:Act}{ν0:Nat->Nat}{i:Nat}{o:Oper}
end
abbrev am3(ax ay bx ey cx cy:Ex):Ex:=.sub (.mul (.sub bx ax) (.sub cy ay)) (.mul (.sub ey ay) (.sub cx ax))
abbrev qF(P:Ex->Prop)(ax ay bx ey cx cy:Ex)(s:Int):Prop:=gY P (am3 ax ay bx ey cx cy) s
theorem aiK{B N:Nat}{g ax ay bx ey cx cy:Nat}{ns:List Nd}{AX AY BX EY CX CY:Ex}{q:Int}(hs:St PT B N w g ns)(hN:N+7<=20000)(hax:Is ns AX ax)(hay:Is ns AY ay)(hbx:Is ns BX bx)(hey:Is ns EY ey)(hcx:Is ns CX cx)(hcy:Is ns CY cy)(HQ:Hid (qF PT AX AY BX EY CX CY q)):
 Calls Tryz.prog 121 #[dE g ax ay,dE g bx ey,dE g cx cy] w (RetQ PT B (N+7) w g ns (.tuple #[.int .i64 q,.nilIface])):=by
 have R1:=hdd (Run.enter (K:=[(AX,ax),(AY,ay),(BX,bx),(EY,ey),(CX,cx),(CY,cy)]) hs (by
  intro p hp;simp only[baT,List.not_mem_nil,or_false]at hp;rcases hp with rfl|rfl|rfl|rfl|rfl|rfl<;>assumption))
 clear hs hax hay hbx hey hcx hcy;go_enter Tryz.func121,Tryz.ntmps121
 go_upto_region 0 with fail
 refine Spec.run (S:=⟨_,fun i=>([.w (.c (.ptr 6 0)),.w (.c (.ptr 7 0)),.w (.c (.ptr 8 0)),.w (.c (.v (Value.int IntKind.i64 0))),.w (.c (.v Value.nilIface))]:List SV).getD i noS,fun n=>([none,none,none,none,none,none,some 0,some 1,some 2]:List (Option Nat)).getD n none,
  [(0,AX),(1,AY),(2,BX),(3,EY),(4,CX),(5,CY)],[⟨6,43,aW g 0 1,none⟩,⟨7,43,aW g 2 3,none⟩,⟨8,43,aW g 4 5,none⟩],
  fun i=>([0,0,0,0,0]:List Nat).getD i 0,fun i=>([[],[],[],[],[]]:List (List Nat)).getD i [],[(0,cB g 0 1),(1,cB g 2 3),(2,cB g 4 5)]⟩)
  (W:=runW ⟨w,B,ns⟩ g) (ν0:=fun n=>([ax,ay,bx,ey,cx,cy]:List Nat).getD n 0) (c0:=N)
  (fs:=fun ν=>[(3,.pointer (some ⟨(ν 6),0,none⟩)),(4,.pointer (some ⟨(ν 7),0,none⟩)),(5,.pointer (some ⟨(ν 8),0,none⟩)),(6,(Value.int IntKind.i64 0)),(7,Value.nilIface)]) 5 N [] []
  ⟨Spec.wf_of (by kernel_rfl),uI (by kernel_rfl),nA ⟨rfl,rfl,rfl,trivial⟩⟩ R1.out (Run.nodup R1.out) (by omega)
  (fun b hM=>aA (aA (aA (aA (aA bV
    (dF b m0))
    (dF b m1))
    (dF b m2))
    (aD b))
    (aD b)) ?_
 intro ν W2 hν hR;replace hR:Run ⟨w,B,ns⟩ g N [(AX,ν 0),(AY,ν 1),(BX,ν 2),(EY,ν 3),(CX,ν 4),(CY,ν 5)] [((ν 6),fT g (ν 0) (ν 1)),((ν 7),fT g (ν 2) (ν 3)),((ν 8),fT g (ν 4) (ν 5))] W2:=hR;have e0:ν 0=ax:=hν 0 rfl;have e1:ν 1=ay:=hν 1 rfl;have e2:ν 2=bx:=hν 2 rfl;have e3:ν 3=ey:=hν 3 rfl;have e4:ν 4=cx:=hν 4 rfl;have e5:ν 5=cy:=hν 5 rfl;simp only[e0,e1,e2,e3,e4,e5]at hR|-;clear hν e0 e1 e2 e3 e4 e5;generalize ν 6=b1 at hR|-;generalize ν 7=b2 at hR|-;generalize ν 8=b3 at hR|-;have R2:=hdd hR;clear hR R1;simp only[putL,baO,baR]
 go_upto_region 1 with fail
 refine Spec.run (S:=⟨_,fun i=>([.w (.c (.ptr 7 0)),numS g 2,.w (.c (.ptr 6 0)),numS g 0,numS g 9,.w (.c (.ptr 8 2)),numS g 5,.w (.c (.ptr 6 2)),numS g 1,numS g 10,.w (.c (.sl 11 1)),numS g 12,.w (.c (.ptr 13 0)),noS]:List SV).getD i noS,fun n=>([none,none,none,none,none,none,none,none,none,some 4,some 9,some 10,some 11,some 12]:List (Option Nat)).getD n none,
  [(0,AX),(1,AY),(2,BX),(3,EY),(4,CX),(5,CY),(9,(.sub BX AX)),(10,(.sub CY AY)),(12,(.mul (.sub BX AX) (.sub CY AY)))],[⟨6,43,aW g 0 1,none⟩,⟨7,43,aW g 2 3,none⟩,⟨8,43,aW g 4 5,none⟩,⟨11,27,numC g 10,none⟩,⟨13,27,[.v (.pointer none),.v (.int .i64 0)],some (13,numC g 12)⟩],
  fun i=>([0,0,0,0,1,0,0,0,0,1,0,1,0,0]:List Nat).getD i 0,fun i=>([[],[0],[],[2],[0,1,2,3],[],[5],[],[7],[5,6,7,8],[5,6,7,8,9],[0,1,2,3,4,5,6,7,8,9,10],[],[0,1,2,3,4,5,6,7,8,9,10,11,12]]:List (List Nat)).getD i [],[(4,.w (.c (.ptr 7 0))),(3,.w (.c (.ptr 6 0))),(5,.w (.c (.ptr 8 0)))]⟩)
  (W:=runW ⟨w,B,ns⟩ g) (ν0:=fun n=>([ax,ay,bx,ey,cx,cy,b1,b2,b3]:List Nat).getD n 0) (c0:=N)
  (fs:=fun ν=>[(10,.pointer (some ⟨(ν 7),0,none⟩)),(11,numV g (ν 2)),(12,.pointer (some ⟨(ν 6),0,none⟩)),(13,numV g (ν 0)),(14,numV g (ν 9)),(15,.pointer (some ⟨(ν 8),2,none⟩)),(16,numV g (ν 5)),(17,.pointer (some ⟨(ν 6),2,none⟩)),(18,numV g (ν 1)),(19,numV g (ν 10)),(20,.slice (some ⟨(ν 11),0,none⟩) 1 1),(21,numV g (ν 12)),(8,.pointer (some ⟨(ν 13),0,none⟩))]) 14 (N+3) [] []
  ⟨Spec.wf_of (by kernel_rfl),uI (by kernel_rfl),nA ⟨rfl,rfl,rfl,trivial⟩⟩ R2.out (Run.nodup R2.out) (by omega)
  (fun b hM=>aA (aA (aA (aA (aA (aA (aA (aA (aA (aA (aA (aA (aA (aA bV
    (aD b))
    (bA b 2 m1))
    (aD b))
    (bA b 2 m0))
    (bP b (qW hM m2 m0 rfl rfl rfl rfl rfl rfl)))
    (aD b))
    (bA b 2 m2))
    (aD b))
    (bA b 2 m0))
    (bP b (qW hM m5 m1 rfl rfl rfl rfl rfl rfl)))
    (oV b m3))
    (bP b (adK hM m6 m7 rfl rfl m3 rfl rfl rfl rfl rfl rfl rfl rfl)))
    (dF b m4))
    (jW b 2 m4)) ?_
 intro ν W3 hν hR;replace hR:Run ⟨w,B,ns⟩ g (N+3) [(AX,ν 0),(AY,ν 1),(BX,ν 2),(EY,ν 3),(CX,ν 4),(CY,ν 5),((.sub BX AX),ν 9),((.sub CY AY),ν 10),((.mul (.sub BX AX) (.sub CY AY)),ν 12)] [((ν 6),fT g (ν 0) (ν 1)),((ν 7),fT g (ν 2) (ν 3)),((ν 8),fT g (ν 4) (ν 5)),((ν 11),numO g (ν 10)),((ν 13),numO g (ν 12))] W3:=hR;have e0:ν 0=ax:=hν 0 rfl;have e1:ν 1=ay:=hν 1 rfl;have e2:ν 2=bx:=hν 2 rfl;have e3:ν 3=ey:=hν 3 rfl;have e4:ν 4=cx:=hν 4 rfl;have e5:ν 5=cy:=hν 5 rfl;have e6:ν 6=b1:=hν 6 rfl;have e7:ν 7=b2:=hν 7 rfl;have e8:ν 8=b3:=hν 8 rfl;simp only[e0,e1,e2,e3,e4,e5,e6,e7,e8]at hR|-;clear hν e0 e1 e2 e3 e4 e5 e6 e7 e8;generalize ν 9=n4 at hR|-;generalize ν 10=n5 at hR|-;generalize ν 11=b6 at hR|-;generalize ν 12=n7 at hR|-;generalize ν 13=b8 at hR|-;have R3:=hdd hR;clear hR R2;simp only[putL,baO,baR]
 go_upto_region 2 with fail
 refine Spec.run (S:=⟨_,fun i=>([.w (.c (.ptr 7 2)),numS g 3,.w (.c (.ptr 6 2)),numS g 1,numS g 11,.w (.c (.ptr 8 0)),numS g 4,.w (.c (.ptr 6 0)),numS g 0,numS g 12,.w (.c (.sl 13 1)),numS g 14,.w (.c (.ptr 15 0)),noS]:List SV).getD i noS,fun n=>([none,none,none,none,none,none,none,none,none,none,none,some 4,some 9,some 10,some 11,some 12]:List (Option Nat)).getD n none,
  [(0,AX),(1,AY),(2,BX),(3,EY),(4,CX),(5,CY),(9,(.mul (.sub BX AX) (.sub CY AY))),(11,(.sub EY AY)),(12,(.sub CX AX)),(14,(.mul (.sub EY AY) (.sub CX AX)))],[⟨6,43,aW g 0 1,none⟩,⟨7,43,aW g 2 3,none⟩,⟨8,43,aW g 4 5,none⟩,⟨10,27,numC g 9,none⟩,⟨13,27,numC g 12,none⟩,⟨15,27,[.v (.pointer none),.v (.int .i64 0)],some (13,numC g 14)⟩],
  fun i=>([0,0,0,0,1,0,0,0,0,1,0,1,0,0]:List Nat).getD i 0,fun i=>([[],[0],[],[2],[0,1,2,3],[],[5],[],[7],[5,6,7,8],[5,6,7,8,9],[0,1,2,3,4,5,6,7,8,9,10],[],[0,1,2,3,4,5,6,7,8,9,10,11,12]]:List (List Nat)).getD i [],[(4,.w (.c (.ptr 7 0))),(3,.w (.c (.ptr 6 0))),(5,.w (.c (.ptr 8 0)))]⟩)
  (W:=runW ⟨w,B,ns⟩ g) (ν0:=fun n=>([ax,ay,bx,ey,cx,cy,b1,b2,b3,n7,b8]:List Nat).getD n 0) (c0:=(N+3))
  (fs:=fun ν=>[(22,.pointer (some ⟨(ν 7),2,none⟩)),(23,numV g (ν 3)),(24,.pointer (some ⟨(ν 6),2,none⟩)),(25,numV g (ν 1)),(26,numV g (ν 11)),(27,.pointer (some ⟨(ν 8),0,none⟩)),(28,numV g (ν 4)),(29,.pointer (some ⟨(ν 6),0,none⟩)),(30,numV g (ν 0)),(31,numV g (ν 12)),(32,.slice (some ⟨(ν 13),0,none⟩) 1 1),(33,numV g (ν 14)),(9,.pointer (some ⟨(ν 15),0,none⟩))]) 14 (N+6) [true,true,true,true,true,true,false,false] [true,true,true,false]
  ⟨Spec.wf_of (by kernel_rfl),uI (by kernel_rfl),nA ⟨rfl,rfl,rfl,trivial⟩⟩ R3.out (Run.nodup R3.out) (by omega)
  (fun b hM=>aA (aA (aA (aA (aA (aA (aA (aA (aA (aA (aA (aA (aA (aA bV
    (aD b))
    (bA b 2 m1))
    (aD b))
    (bA b 2 m0))
    (bP b (qW hM m3 m1 rfl rfl rfl rfl rfl rfl)))
    (aD b))
    (bA b 2 m2))
    (aD b))
    (bA b 2 m0))
    (bP b (qW hM m4 m0 rfl rfl rfl rfl rfl rfl)))
    (oV b m4))
    (bP b (adK hM m7 m8 rfl rfl m4 rfl rfl rfl rfl rfl rfl rfl rfl)))
    (dF b m5))
    (jW b 2 m5)) ?_
 intro ν W4 hν hR;replace hR:Run ⟨w,B,ns⟩ g (N+6) [(AX,ν 0),(AY,ν 1),(BX,ν 2),(EY,ν 3),(CX,ν 4),(CY,ν 5),((.mul (.sub BX AX) (.sub CY AY)),ν 9),((.sub EY AY),ν 11),((.sub CX AX),ν 12),((.mul (.sub EY AY) (.sub CX AX)),ν 14)] [((ν 6),fT g (ν 0) (ν 1)),((ν 7),fT g (ν 2) (ν 3)),((ν 8),fT g (ν 4) (ν 5)),((ν 10),numO g (ν 9)),((ν 13),numO g (ν 12)),((ν 15),numO g (ν 14))] W4:=hR;have e0:ν 0=ax:=hν 0 rfl;have e1:ν 1=ay:=hν 1 rfl;have e2:ν 2=bx:=hν 2 rfl;have e3:ν 3=ey:=hν 3 rfl;have e4:ν 4=cx:=hν 4 rfl;have e5:ν 5=cy:=hν 5 rfl;have e6:ν 6=b1:=hν 6 rfl;have e7:ν 7=b2:=hν 7 rfl;have e8:ν 8=b3:=hν 8 rfl;have e9:ν 9=n7:=hν 9 rfl;have e10:ν 10=b8:=hν 10 rfl;simp only[e0,e1,e2,e3,e4,e5,e6,e7,e8,e9,e10]at hR|-;clear hν e0 e1 e2 e3 e4 e5 e6 e7 e8 e9 e10;generalize ν 11=n9 at hR|-;generalize ν 12=n10 at hR|-;generalize ν 13=b11 at hR|-;generalize ν 14=n12 at hR|-;generalize ν 15=b13 at hR|-;have R4:=hdd hR;clear hR R3;simp only[putL,baO,baR]
 go_upto_region 3 with fail
 refine Spec.run (S:=⟨_,fun i=>([numS g 0,numS g 2,numS g 4,.tup [.c (.v (.int .i64 q)),.c (.v .nilIface)],.w (.c (.v (.int .i64 q))),.w (.c (.v .nilIface)),.w (.c (.v (.int .i64 q))),.w (.c (.v .nilIface))]:List SV).getD i noS,fun n=>([none,none,none,none,some 2]:List (Option Nat)).getD n none,
  [(0,(.mul (.sub BX AX) (.sub CY AY))),(2,(.mul (.sub EY AY) (.sub CX AX))),(4,(.sub (.mul (.sub BX AX) (.sub CY AY)) (.mul (.sub EY AY) (.sub CX AX))))],[⟨1,27,numC g 0,none⟩,⟨3,27,numC g 2,none⟩],
  fun i=>([0,0,1,0,0,0,0,0]:List Nat).getD i 0,fun i=>([[],[],[0,1],[0,1,2],[0,1,2,3],[0,1,2,3],[0,1,2,3,4],[0,1,2,3,5]]:List (List Nat)).getD i [],[(8,.w (.c (.ptr 1 0))),(9,.w (.c (.ptr 3 0)))]⟩)
  (W:=runW ⟨w,B,ns⟩ g) (ν0:=fun n=>([n7,b8,n12,b13]:List Nat).getD n 0) (c0:=(N+6))
  (fs:=fun ν=>[(34,numV g (ν 0)),(35,numV g (ν 2)),(36,numV g (ν 4)),(37,.tuple #[(.int .i64 q),.nilIface]),(38,(.int .i64 q)),(39,.nilIface),(6,(.int .i64 q)),(7,.nilIface)]) 8 (N+7) [false,false,false,false,false,false,true,false,false] [false,false,false,true,false]
  ⟨Spec.wf_of (by kernel_rfl),uI (by kernel_rfl),nA ⟨rfl,rfl,trivial⟩⟩ R4.out (Run.nodup R4.out) (by omega)
  (fun b hM=>aA (aA (aA (aA (aA (aA (aA (aA bV
    (bA b 2 m0))
    (bA b 2 m1))
    (bP b (qW hM m0 m1 rfl rfl rfl rfl rfl rfl)))
    (bP b (aiH hM m2 rfl rfl rfl rfl HQ.out)))
    (aD b))
    (aD b))
    (aD b))
    (aD b)) ?_
 intro ν W5 hν hR;replace hR:Run ⟨w,B,ns⟩ g (N+7) [((.mul (.sub BX AX) (.sub CY AY)),ν 0),((.mul (.sub EY AY) (.sub CX AX)),ν 2),((.sub (.mul (.sub BX AX) (.sub CY AY)) (.mul (.sub EY AY) (.sub CX AX))),ν 4)] [((ν 1),numO g (ν 0)),((ν 3),numO g (ν 2))] W5:=hR;have e0:ν 0=n7:=hν 0 rfl;have e1:ν 1=b8:=hν 1 rfl;have e2:ν 2=n12:=hν 2 rfl;have e3:ν 3=b13:=hν 3 rfl;simp only[e0,e1,e2,e3]at hR|-;clear hν e0 e1 e2 e3;generalize ν 4=n14 at hR|-;have R5:=hdd hR;clear hR R4;simp only[putL,baO,baR];go_wp2;have HB:=hdd (R5.out.ans (v:=.tuple #[.int .i64 q,.nilIface]));clear R5
 go_ret2
 exact HB.out
section
variable{s:Bs}{W:World}{g N i j k i' j' k':Nat}{K:List (Ex×Nat)}{l:List (Nat×Obj)}{x px py qx qy rx ry:Ex}{q:Int}
theorem Run.turn (h:Run s g N K l W)(hN:N+7<=20000)(h1:(px,i)∈K)(h2:(py,i')∈K)(h3:(qx,j)∈K)(h4:(qy,j')∈K)(h5:(rx,k)∈K)(h6:(ry,k')∈K)(hc:qF PT px py qx qy rx ry q):
 Calls Tryz.prog 121 #[dE g i i',dE g j j',dE g k k'] W (RtA s g (N+7) K l (.tuple #[.int .i64 q,.nilIface])):=by
 obtain⟨ns,hs,hK⟩:=h;exact(aiK hs.st hN (hK _ h1) (hK _ h2) (hK _ h3) (hK _ h4) (hK _ h5) (hK _ h6) (hdd hc)).mono fun _ _ hr=>uR hs hK hr
end
section
variable{S:Spec Ex}{w0:Bs}{g c0:Nat}{i:Nat}(hM:c0+S.total<=20000){m n m' n' m2 n2 t:Nat}{x y x' y' x2 y2:Ex}{q:Int}(hx:(m,x)∈S.know)(hy:(n,y)∈S.know)(px:S.pre i m=true)(py:S.pre i n=true)
include hM hx px
include hy py
variable(hx':(m',x')∈S.know)(hy':(n',y')∈S.know)(px':S.pre i m'=true)(py':S.pre i n'=true)
include hx' hy' px' py'
theorem amK(hx2:(m2,x2)∈S.know)(hy2:(n2,y2)∈S.know)(px2:S.pre i m2=true)(py2:S.pre i n2=true)(hc:S.cost i=7)(hv:S.val i=ansS (.int .i64 q))(hk:S.made i=[])(hS:qF PT x y x' y' x2 y2 q):
 gZ S w0 g c0 i 121 (fun ν=>#[dE g (ν m) (ν n),dE g (ν m') (ν n'),dE g (ν m2) (ν n2)]):=
 mD hM (d:=7) hc (fun ν=>by rw[hv];rfl) hk fun lst ν c w hD hl h=>h.turn (by omega) (fG hx (pre_on px hD)) (fG hy (pre_on py hD)) (fG hx' (pre_on px' hD)) (fG hy' (pre_on py' hD)) (fG hx2 (pre_on px2 hD)) (fG hy2 (pre_on py2 hD)) hS
end
abbrev arcC(g a b c i j k l:Nat):List SC:=curC 2 a b c++aW g i j++aW g k l
abbrev dL(g i j k l:Nat):List SC:=aW g i j++aW g k l
abbrev arcV(g a b c i j k l:Nat):Value:=.agg #[.int .i64 2,.float .f64 a,.float .f64 b,.float .f64 c,.pointer (some ⟨g,0,none⟩),.int .i64 ((i:Nat):Int),.pointer (some ⟨g,0,none⟩),.int .i64 ((j:Nat):Int),.pointer (some ⟨g,0,none⟩),.int .i64 ((k:Nat):Int),.pointer (some ⟨g,0,none⟩),.int .i64 ((l:Nat):Int)]
section
variable{g a b c i j k l i' j' k' l' i'' j'' k'' l'':Nat}{ν:Nat->Nat}
theorem dA12:(SW.agg (arcC g a b c i j k l)).den ν=arcV g a b c (ν i) (ν j) (ν k) (ν l):=rfl
theorem dP8:(SW.agg (dL g i j k l)).den ν=.agg #[.pointer (some ⟨g,0,none⟩),.int .i64 ((ν i:Nat):Int),.pointer (some ⟨g,0,none⟩),.int .i64 ((ν j:Nat):Int),.pointer (some ⟨g,0,none⟩),.int .i64 ((ν k:Nat):Int),.pointer (some ⟨g,0,none⟩),.int .i64 ((ν l:Nat):Int)]:=rfl
theorem dP24:(SW.agg (dL g i j k l++dL g i' j' k' l'++dL g i'' j'' k'' l'')).den ν=.agg #[.pointer (some ⟨g,0,none⟩),.int .i64 ((ν i:Nat):Int),.pointer (some ⟨g,0,none⟩),.int .i64 ((ν j:Nat):Int),.pointer (some ⟨g,0,none⟩),.int .i64 ((ν k:Nat):Int),.pointer (some ⟨g,0,none⟩),.int .i64 ((ν l:Nat):Int),.pointer (some ⟨g,0,none⟩),.int .i64 ((ν i':Nat):Int),.pointer (some ⟨g,0,none⟩),.int .i64 ((ν j':Nat):Int),.pointer (some ⟨g,0,none⟩),.int .i64 ((ν k':Nat):Int),.pointer (some ⟨g,0,none⟩),.int .i64 ((ν l':Nat):Int),.pointer (some ⟨g,0,none⟩),.int .i64 ((ν i'':Nat):Int),.pointer (some ⟨g,0,none⟩),.int .i64 ((ν j'':Nat):Int),.pointer (some ⟨g,0,none⟩),.int .i64 ((ν k'':Nat):Int),.pointer (some ⟨g,0,none⟩),.int .i64 ((ν l'':Nat):Int)]:=rfl
end
theorem aiL{g i j k l m n:Nat}{c1 c2 c3 q:Int}(h1:gL PT A1 A2 B1 B2 c1)(h2:gL PT X1 X2 A1 A2 c2)(h3:gL PT X1 X2 B1 B2 c3)(h4:qF PT A1 A2 X1 X2 B1 B2 q):FnOk 70 g 13 #[dE g i j,dE g k l,dE g m n] [(A1,i),(A2,j),(B1,k),(B2,l),(X1,m),(X2,n)] (fun ks=>.tuple #[.bool ((c1==0)||(c2==0)||(c3==0)||(q==1)),.nilIface]) []:=FnOk.of fun w B ns N hR hN=>by
 have R1:=hdd hR;clear hR;go_enter Tryz.func70,Tryz.ntmps70
 go_upto_region 0 with fail
 refine Spec.go [.w (.c (.ptr 6 0)),.w (.c (.ptr 7 0)),.w (.c (.ptr 8 0)),.w (.c (.v (Value.bool false))),.w (.c (.v Value.nilIface))] [0,1,2]
  [(0,A1),(1,A2),(2,B1),(3,B2),(4,X1),(5,X2)] [⟨6,43,aW g 0 1,none⟩,⟨7,43,aW g 2 3,none⟩,⟨8,43,aW g 4 5,none⟩]
  [0,0,0,0,0] [[],[],[],[],[]] [(0,cB g 0 1),(1,cB g 2 3),(2,cB g 4 5)]
  [4,5,6,7,8] [i,j,k,l,m,n] 5 N [] [] R1.out
  (fun b hM=>aA (aA (aA (aA (aA bV
    (dF b m0))
    (dF b m1))
    (dF b m2))
    (aD b))
    (aD b)) ?_
 intro b1 b2 b3 ν W2 hR;have R2:=hdd hR;clear hR R1;simp only[putL,baO,baR,fs0,fs1,fsn,dSw,dSt,dWc,dWa,dv,di,dp,ds',baP,baQ,nuTn,nuT0,nuT1,nuU0,nuU1,dA12,dP8,dP24]
 go_upto_region 1 with fail
 refine Spec.go [cB g 0 1,cB g 2 3,.w (.agg ((dL g 0 1 2 3))),cB g 4 5,cB g 0 1,.w (.agg ((dL g 4 5 0 1))),cB g 4 5,cB g 2 3,.w (.agg ((dL g 4 5 2 3))),.w (.agg (((dL g 0 1 2 3)++(dL g 4 5 0 1)++(dL g 4 5 2 3)))),.w (.c (.v (Value.int IntKind.i64 0)))] []
  [(0,A1),(1,A2),(2,B1),(3,B2),(4,X1),(5,X2)] [⟨6,43,aW g 0 1,none⟩,⟨7,43,aW g 2 3,none⟩,⟨8,43,aW g 4 5,none⟩]
  [0,0,0,0,0,0,0,0,0,0,0] [[],[],[0,1],[],[],[3,4],[],[],[6,7],rgn 9,[]] [(3,.w (.c (.ptr 6 0))),(4,.w (.c (.ptr 7 0))),(5,.w (.c (.ptr 8 0)))]
  [15,16,17,18,19,20,21,22,23,24,25] [i,j,k,l,m,n,b1,b2,b3] 11 N [] [] R2.out
  (fun b hM=>aA (aA (aA (aA (aA (aA (aA (aA (aA (aA (aA bV
    (bA b 4 m0))
    (bA b 4 m1))
    (aD b))
    (bA b 4 m2))
    (bA b 4 m0))
    (aD b))
    (bA b 4 m2))
    (bA b 4 m1))
    (aD b))
    (aD b))
    (aD b)) ?_
 intro ν W3 hR;have R3:=hdd hR;clear hR R2;simp only[putL,baO,baR,fs0,fs1,fsn,dSw,dSt,dWc,dWa,dv,di,dp,ds',baP,baQ,nuTn,nuT0,nuT1,nuU0,nuU1,dA12,dP8,dP24];go_wp2_with fail
 refine wp_loop_rounds 4 ?_;rw[rounds_succ]
 go_upto_region 3 with fail
 refine Spec.go [.w (.agg ((dL g 0 1 2 3))),.w (.c (.ptr 9 0)),noS] [1]
  [(0,A1),(1,A2),(2,B1),(3,B2),(4,X1),(5,X2)] [⟨6,43,aW g 0 1,none⟩,⟨7,43,aW g 2 3,none⟩,⟨8,43,aW g 4 5,none⟩,⟨9,155,[.v (.pointer none),.v (.int .i64 0),.v (.pointer none),.v (.int .i64 0),.v (.pointer none),.v (.int .i64 0),.v (.pointer none),.v (.int .i64 0)],some (2,(dL g 0 1 2 3))⟩]
  [0,0,0] [[],[],[0,1]] [(23,.w (.agg (((dL g 0 1 2 3)++(dL g 4 5 0 1)++(dL g 4 5 2 3))))),(24,.w (.c (.v (.int .i64 0))))]
  [27,10,0] [i,j,k,l,m,n,b1,b2,b3] 3 N [] [] R3.out
  (fun b hM=>aA (aA (aA bV
    (aD b))
    (dF b m3))
    (jW b 8 m3)) ?_
 intro b4 ν W4 hR;have R4:=hdd hR;clear hR R3;simp only[putL,baO,baR,fs0,fs1,fsn,dSw,dSt,dWc,dWa,dv,di,dp,ds',baP,baQ,nuTn,nuT0,nuT1,nuU0,nuU1,dA12,dP8,dP24]
 go_upto_region 4 with fail
 refine Spec.go [.w (.c (.ptr 9 0)),cB g 0 1,.w (.c (.ptr 9 4)),cB g 2 3,.tup [.c (.v (.bool (c1==0))),.c (.v .nilIface)],.tup [.c (.v (.bool (c1==0))),.c (.v .nilIface)],.w (.c (.v (.bool (c1==0)))),.w (.c (.v .nilIface)),.w (.c (.v (.bool (c1==0)))),.w (.c (.v .nilIface))] []
  [(0,A1),(1,A2),(2,B1),(3,B2),(4,X1),(5,X2)] [⟨6,43,aW g 0 1,none⟩,⟨7,43,aW g 2 3,none⟩,⟨8,43,aW g 4 5,none⟩,⟨9,155,(dL g 0 1 2 3),none⟩]
  [0,0,0,0,2,0,0,0,0,0] [[],[0],[],[2],rgn 4,rgn 5,rgn 6,rgn 6,rgn 7,[0,1,2,3,4,5,7]] [(9,.w (.c (.ptr 9 0)))]
  [29,30,31,32,33,28,34,35,11,12] [i,j,k,l,m,n,b1,b2,b3,b4] 10 (N+2) [] [] R4.out
  (fun b hM=>aA (aA (aA (aA (aA (aA (aA (aA (aA (aA bV
    (aD b))
    (bA b 4 m3))
    (aD b))
    (bA b 4 m3))
    (bP b (acF hM m0 m1 rfl rfl m2 m3 rfl rfl rfl rfl rfl h1)))
    (aD b))
    (aD b))
    (aD b))
    (aD b))
    (aD b)) ?_
 intro ν W5 hR;have R5:=hdd hR;clear hR R4;simp only[putL,baO,baR,fs0,fs1,fsn,dSw,dSt,dWc,dWa,dv,di,dp,ds',baP,baQ,nuTn,nuT0,nuT1,nuU0,nuU1,dA12,dP8,dP24]
 cases e1:(c1==0)
 . go_wp2_with fail
   rw[rounds_succ]
   go_upto_region 3 with fail
   refine Spec.go [.w (.agg ((dL g 4 5 0 1))),.w (.c (.ptr 10 0)),noS] [1]
    [(0,A1),(1,A2),(2,B1),(3,B2),(4,X1),(5,X2)] [⟨6,43,aW g 0 1,none⟩,⟨7,43,aW g 2 3,none⟩,⟨8,43,aW g 4 5,none⟩,⟨9,155,(dL g 0 1 2 3),none⟩,⟨10,155,[.v (.pointer none),.v (.int .i64 0),.v (.pointer none),.v (.int .i64 0),.v (.pointer none),.v (.int .i64 0),.v (.pointer none),.v (.int .i64 0)],some (2,(dL g 4 5 0 1))⟩]
    [0,0,0] [[],[],[0,1]] [(23,.w (.agg (((dL g 0 1 2 3)++(dL g 4 5 0 1)++(dL g 4 5 2 3))))),(24,.w (.c (.v (.int .i64 1))))]
    [27,10,0] [i,j,k,l,m,n,b1,b2,b3,b4] 3 (N+2) [] [] R5.out
    (fun b hM=>aA (aA (aA bV
      (aD b))
      (dF b m4))
      (jW b 8 m4)) ?_
   intro b5 ν W6 hR;have R6:=hdd hR;clear hR R5;simp only[putL,baO,baR,fs0,fs1,fsn,dSw,dSt,dWc,dWa,dv,di,dp,ds',baP,baQ,nuTn,nuT0,nuT1,nuU0,nuU1,dA12,dP8,dP24]
   go_upto_region 4 with fail
   refine Spec.go [.w (.c (.ptr 10 0)),cB g 4 5,.w (.c (.ptr 10 4)),cB g 0 1,.tup [.c (.v (.bool (c2==0))),.c (.v .nilIface)],.tup [.c (.v (.bool (c2==0))),.c (.v .nilIface)],.w (.c (.v (.bool (c2==0)))),.w (.c (.v .nilIface)),.w (.c (.v (.bool (c2==0)))),.w (.c (.v .nilIface))] []
    [(0,A1),(1,A2),(2,B1),(3,B2),(4,X1),(5,X2)] [⟨6,43,aW g 0 1,none⟩,⟨7,43,aW g 2 3,none⟩,⟨8,43,aW g 4 5,none⟩,⟨9,155,(dL g 0 1 2 3),none⟩,⟨10,155,(dL g 4 5 0 1),none⟩]
    [0,0,0,0,2,0,0,0,0,0] [[],[0],[],[2],rgn 4,rgn 5,rgn 6,rgn 6,rgn 7,[0,1,2,3,4,5,7]] [(9,.w (.c (.ptr 10 0)))]
    [29,30,31,32,33,28,34,35,11,12] [i,j,k,l,m,n,b1,b2,b3,b4,b5] 10 (N+4) [] [] R6.out
    (fun b hM=>aA (aA (aA (aA (aA (aA (aA (aA (aA (aA bV
      (aD b))
      (bA b 4 m4))
      (aD b))
      (bA b 4 m4))
      (bP b (acF hM m4 m5 rfl rfl m0 m1 rfl rfl rfl rfl rfl h2)))
      (aD b))
      (aD b))
      (aD b))
      (aD b))
      (aD b)) ?_
   intro ν W7 hR;have R7:=hdd hR;clear hR R6;simp only[putL,baO,baR,fs0,fs1,fsn,dSw,dSt,dWc,dWa,dv,di,dp,ds',baP,baQ,nuTn,nuT0,nuT1,nuU0,nuU1,dA12,dP8,dP24]
   cases e2:(c2==0)
   . go_wp2_with fail
     rw[rounds_succ]
     go_upto_region 3 with fail
     refine Spec.go [.w (.agg ((dL g 4 5 2 3))),.w (.c (.ptr 10 0)),noS] [1]
      [(0,A1),(1,A2),(2,B1),(3,B2),(4,X1),(5,X2)] [⟨6,43,aW g 0 1,none⟩,⟨7,43,aW g 2 3,none⟩,⟨8,43,aW g 4 5,none⟩,⟨9,155,(dL g 4 5 0 1),none⟩,⟨10,155,[.v (.pointer none),.v (.int .i64 0),.v (.pointer none),.v (.int .i64 0),.v (.pointer none),.v (.int .i64 0),.v (.pointer none),.v (.int .i64 0)],some (2,(dL g 4 5 2 3))⟩]
      [0,0,0] [[],[],[0,1]] [(23,.w (.agg (((dL g 0 1 2 3)++(dL g 4 5 0 1)++(dL g 4 5 2 3))))),(24,.w (.c (.v (.int .i64 2))))]
      [27,10,0] [i,j,k,l,m,n,b1,b2,b3,b5] 3 (N+4) [] [true,true,true,false] R7.out
      (fun b hM=>aA (aA (aA bV
        (aD b))
        (dF b m4))
        (jW b 8 m4)) ?_
     intro b6 ν W8 hR;have R8:=hdd hR;clear hR R7;simp only[putL,baO,baR,fs0,fs1,fsn,dSw,dSt,dWc,dWa,dv,di,dp,ds',baP,baQ,nuTn,nuT0,nuT1,nuU0,nuU1,dA12,dP8,dP24]
     go_upto_region 4 with fail
     refine Spec.go [.w (.c (.ptr 10 0)),cB g 4 5,.w (.c (.ptr 10 4)),cB g 2 3,.tup [.c (.v (.bool (c3==0))),.c (.v .nilIface)],.tup [.c (.v (.bool (c3==0))),.c (.v .nilIface)],.w (.c (.v (.bool (c3==0)))),.w (.c (.v .nilIface)),.w (.c (.v (.bool (c3==0)))),.w (.c (.v .nilIface))] []
      [(0,A1),(1,A2),(2,B1),(3,B2),(4,X1),(5,X2)] [⟨6,43,aW g 0 1,none⟩,⟨7,43,aW g 2 3,none⟩,⟨8,43,aW g 4 5,none⟩,⟨9,155,(dL g 4 5 0 1),none⟩,⟨10,155,(dL g 4 5 2 3),none⟩]
      [0,0,0,0,2,0,0,0,0,0] [[],[0],[],[2],rgn 4,rgn 5,rgn 6,rgn 6,rgn 7,[0,1,2,3,4,5,7]] [(9,.w (.c (.ptr 10 0)))]
      [29,30,31,32,33,28,34,35,11,12] [i,j,k,l,m,n,b1,b2,b3,b5,b6] 10 (N+6) [] [] R8.out
      (fun b hM=>aA (aA (aA (aA (aA (aA (aA (aA (aA (aA bV
        (aD b))
        (bA b 4 m4))
        (aD b))
        (bA b 4 m4))
        (bP b (acF hM m4 m5 rfl rfl m2 m3 rfl rfl rfl rfl rfl h3)))
        (aD b))
        (aD b))
        (aD b))
        (aD b))
        (aD b)) ?_
     intro ν W9 hR;have R9:=hdd hR;clear hR R8;simp only[putL,baO,baR,fs0,fs1,fsn,dSw,dSt,dWc,dWa,dv,di,dp,ds',baP,baQ,nuTn,nuT0,nuT1,nuU0,nuU1,dA12,dP8,dP24]
     cases e3:(c3==0)
     . go_wp2_with fail
       rw[rounds_succ]
       go_upto_region 8 with fail
       refine Spec.go [cB g 0 1,cB g 4 5,cB g 2 3,.tup [.c (.v (.int .i64 q)),.c (.v .nilIface)],.tup [.c (.v (.int .i64 q)),.c (.v .nilIface)],.w (.c (.v (.int .i64 q))),.w (.c (.v .nilIface)),.w (.c (.v (.int .i64 q))),.w (.c (.v .nilIface))] []
        [(0,A1),(1,A2),(2,B1),(3,B2),(4,X1),(5,X2)] [⟨6,43,aW g 0 1,none⟩,⟨7,43,aW g 2 3,none⟩,⟨8,43,aW g 4 5,none⟩]
        [0,0,0,7,0,0,0,0,0] [[],[],[],[0,1,2],rgn 4,rgn 5,rgn 5,rgn 6,[0,1,2,3,4,6]] [(3,.w (.c (.ptr 6 0))),(5,.w (.c (.ptr 8 0))),(4,.w (.c (.ptr 7 0)))]
        [45,46,47,48,44,49,50,13,14] [i,j,k,l,m,n,b1,b2,b3] 9 (N+13) [] [true,true,true,false,false] R9.out
        (fun b hM=>aA (aA (aA (aA (aA (aA (aA (aA (aA bV
          (bA b 4 m0))
          (bA b 4 m2))
          (bA b 4 m1))
          (bP b (amK hM m0 m1 rfl rfl m4 m5 rfl rfl m2 m3 rfl rfl rfl rfl rfl h4)))
          (aD b))
          (aD b))
          (aD b))
          (aD b))
          (aD b)) ?_
       intro ν W10 hR;replace hR:Run ⟨w,B,ns⟩ g (N+13) [(A1,i),(A2,j),(B1,k),(B2,l),(X1,m),(X2,n)] [(b1,fT g i j),(b2,fT g k l),(b3,fT g m n)] W10:=hR;have R10:=hdd hR;clear hR R9;simp only[putL,baO,baR,fs0,fs1,fsn,dSw,dSt,dWc,dWa,dv,di,dp,ds',baP,baQ,nuTn,nuT0,nuT1,nuU0,nuU1,dA12,dP8,dP24];have HF:Hid (uS w B ns g (N+13) (fun _=>.tuple #[.bool ((c1==0)||(c2==0)||(c3==0)||(q==1)),.nilIface]) [] (.returned (.tuple #[.bool (q==1),.nilIface])) W10):=hdd ⟨[],rfl,by simp[e1,e2,e3],_,(R10.out.more (by omega)).few (nS [])⟩;clear R10;go_wp2
       go_ret2
       exact HF.out
     . have HF:Hid (uS w B ns g (N+13) (fun _=>.tuple #[.bool ((c1==0)||(c2==0)||(c3==0)||(q==1)),.nilIface]) [] (.returned (.tuple #[.bool true,.nilIface])) W9):=hdd ⟨[],rfl,by simp[e1,e2,e3],_,(R9.out.more (by omega)).few (nS [])⟩
       clear R9;go_wp2
       go_ret2
       exact HF.out
   . have HF:Hid (uS w B ns g (N+13) (fun _=>.tuple #[.bool ((c1==0)||(c2==0)||(c3==0)||(q==1)),.nilIface]) [] (.returned (.tuple #[.bool true,.nilIface])) W7):=hdd ⟨[],rfl,by simp[e1,e2],_,(R7.out.more (by omega)).few (nS [])⟩
     clear R7;go_wp2
     go_ret2
     exact HF.out
 . have HF:Hid (uS w B ns g (N+13) (fun _=>.tuple #[.bool ((c1==0)||(c2==0)||(c3==0)||(q==1)),.nilIface]) [] (.returned (.tuple #[.bool true,.nilIface])) W5):=hdd ⟨[],rfl,by simp[e1],_,(R5.out.more (by omega)).few (nS [])⟩
   clear R5;go_wp2
   go_ret2
   exact HF.out
def aiM(A1 A2 B1 B2 X1 X2:Ex)(r:Bool):Prop:=∃c1 c2 c3 q:Int,gL PT A1 A2 B1 B2 c1/\gL PT X1 X2 A1 A2 c2/\gL PT X1 X2 B1 B2 c3/\qF PT A1 A2 X1 X2 B1 B2 q/\((c1==0)||(c2==0)||(c3==0)||(q==1))=r
theorem aiN{g i j k l m n:Nat}{r:Bool}(h:aiM A1 A2 B1 B2 X1 X2 r):FnOk 70 g 13 #[dE g i j,dE g k l,dE g m n] [(A1,i),(A2,j),(B1,k),(B2,l),(X1,m),(X2,n)] (fun _=>.tuple #[.bool r,.nilIface]) []:=by
 obtain⟨c1,c2,c3,q,h1,h2,h3,h4,rfl⟩:=h;exact aiL h1 h2 h3 h4
end Go.Proofs.YtebdolonckjpiaaGreatDoor
namespace Go.Proofs.YtebdolonckjpiaaGreatDoor
open Go.RowKit Go.Maps Go.Stop Go.Extern
variable{a b c:Nat}{w:World}
abbrev curV(k:Int)(a b c:Nat):Value:=.agg #[.int .i64 k,.float .f64 a,.float .f64 b,.float .f64 c]
abbrev curO(k:Int)(a b c:Nat):Obj:=.cells #[.int .i64 k,.float .f64 a,.float .f64 b,.float .f64 c] 48
abbrev FlOk(b:Nat):Prop:=b<18446744073709551616/\fin b
theorem ae5:0<=sr b↔0<=fv b:=by
 unfold fv;rw[<-tQ,dN]
theorem akO(ha:FlOk a)(hb:FlOk b)(hc:FlOk c)(h0:0<=fv c):Calls Tryz.prog 146 #[curV 2 a b c] w (RetV w .nilIface):=by
 obtain⟨w1,hw1,hb1,hs1,b1⟩:=pro1 w (curO 2 a b c);obtain⟨c0,c1,c2,c3⟩:=aU b1;have HB:=hdd hb1;have FA:Hid (∀w',Calls Tryz.prog 195 #[.float .f64 a] w' (RetB w' true)):=hdd fun w'=>by have:=fF (w:=w') ha.1;rwa[decide_eq_true ha.2]at this
 have FB:Hid (∀w',Calls Tryz.prog 195 #[.float .f64 b] w' (RetB w' true)):=hdd fun w'=>by have:=fF (w:=w') hb.1;rwa[decide_eq_true hb.2]at this
 have FC:Hid (∀w',Calls Tryz.prog 195 #[.float .f64 c] w' (RetB w' true)):=hdd fun w'=>by have:=fF (w:=w') hc.1;rwa[decide_eq_true hc.2]at this
 have hg:=ahG (b:=c) hc.2.num num0;rw[sr0,decide_eq_true (ae5.2 h0)]at hg;clear ha hb hc h0 hb1 hs1 b1;go_enter Tryz.func146,Tryz.ntmps146
 go_wp2_with fail
 refine(FA.out _).mono ?_;rintro e w2⟨rfl,hw⟩;obtain rfl:=hw;go_wp2_with fail
 refine(FB.out _).mono ?_;rintro e w2⟨rfl,hw⟩;obtain rfl:=hw;go_wp2_with fail
 refine(FC.out _).mono ?_;rintro e w2⟨rfl,hw⟩;obtain rfl:=hw;go_wp2;go_ret;exact⟨rfl,HB.out⟩
theorem aiO:FlOk 0:=⟨by decide,by decide⟩
def yG(a b c:Nat):Prop:=FlOk a/\FlOk b/\FlOk c/\0<=fv c
theorem ae6(h:yG a b c):Calls Tryz.prog 88 #[curV 2 a b c] w (RetV w .nilIface):=by
 obtain⟨w1,hw1,hb1,hs1,b1⟩:=pro1 w (curO 2 a b c);obtain⟨c0,c1,c2,c3⟩:=aU b1;have HB:=hdd hb1;have HL:=hdd (akO (w:=w1) h.1 h.2.1 h.2.2.1 h.2.2.2);clear h hb1 hs1 b1;go_enter Tryz.func88,Tryz.ntmps88
 go_wp2_with fail
 refine HL.out.mono ?_;rintro e w2⟨rfl,hb⟩;have HB2:=hdd (HB.out.trans (hb.mono HB.out.size));clear hb;go_wp2;go_ret;exact⟨rfl,HB2.out⟩
end Go.Proofs.YtebdolonckjpiaaGreatDoor
