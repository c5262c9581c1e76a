/- A part of the proof: contracts of functions and plain laws (FnC, SymE, MtB, DyA, DyB, DyC, DyE, DyD, DyF). -/
import Derived.Test.YtjaafolhfihegaaGreatDoorM18
import Derived.Test.YtjaafolhfihegaaGreatDoorM16
import Derived.Test.YtjaafolhfihegaaGreatDoorM08
set_option linter.unusedVariables false
set_option linter.unusedSimpArgs false
set_option maxHeartbeats 25600000
set_option maxRecDepth 100000
namespace Go.Proofs.YtjaafolhfihegaaGreatDoor
open Go.RowKit Go.Maps
open List renaming setIfInBounds_toArray->bd8,map_cons->bd9,mem_append->beA,all_eq_true->beB,mem_map->beC,nodup_cons->beD,set->beE,map_nil->beF,range->beG
variable{ca cb cc:Nat}{w:World}
def RtB(s:Bs)(g N:Nat)(K:List (Ex×Nat))(l:List (Nat×Obj))(V:List Nat->Nat->Value)(es:List Ex)(O:List Nat->Obj)(e:Ending)(W':World):Prop:=
 ∃(ks:List Nat) (b:Nat),ks.length=es.length/\e=.returned (V ks b)/\Run s g N (es.zip ks++K) ((b,O ks)::l) W'
def FnBk(f:FuncId)(g d:Nat)(av:Array Value)(K0:List (Ex×Nat))(V:List Nat->Nat->Value)(es:List Ex)(O:List Nat->Obj):Prop:=
 ∀(s:Bs) (N:Nat) (K:List (Ex×Nat)) (l:List (Nat×Obj)) (W:World),Run s g N K l W->N+d<=20000->(∀p∈K0,p∈K)->Calls Tryz.prog f av W (RtB s g (N+d) K l V es O)
def oO(w:World)(B:Nat)(ns:List Nd)(g N:Nat)(V:List Nat->Nat->Value)(es:List Ex)(O:List Nat->Obj)(e:Ending)(W':World):Prop:=
 ∃(ks:List Nat) (b:Nat),ks.length=es.length/\e=.returned (V ks b)/\∃l',Run ⟨w,B,ns⟩ g N (es.zip ks) ((b,O ks)::l') W'
section
variable{f:FuncId}{g d:Nat}{av:Array Value}{K0:List (Ex×Nat)}{V:List Nat->Nat->Value}{es:List Ex}{O:List Nat->Obj}
theorem FnBk.of (h:∀w B ns N,Run ⟨w,B,ns⟩ g N K0 [] w->N+d<=20000->Calls Tryz.prog f av w (oO w B ns g (N+d) V es O)):FnBk f g d av K0 V es O:=by
 intro s N K l W hR hN hK;obtain⟨ns',hs,hI⟩:=hR;refine(h W s.B ns' N (Run.enter hs.st (fun p hp=>hI p (hK p hp))) hN).mono ?_;rintro e W'⟨ks,b,h1,rfl,l',ns'',hs2,hI2⟩;have hst:=hs.step hs2.st hs2.pre hs2.grew.2.2;obtain⟨k1,k2,k3⟩:=hs2.kept _ (List.mem_cons_self ..);refine⟨ks,b,h1,rfl,ns'',⟨hst.grew,fun p hp=> ?_,hst.hw,?_⟩,fun p hp=> ?_⟩
 . rcases List.mem_cons.1 hp with rfl|hp
   . exact⟨k1,k2,Nat.le_trans hs.grew.2.2.size k3⟩
   . exact hst.kept p hp
 . rw[bd9,beD]
   refine⟨fun hm=> ?_,hst.nodup⟩;obtain⟨p,hp,e⟩:=beC.1 hm;have:=hs.lt hp;have k3:W.heap.size<=b:=k3;have e:p.1=b:=e;omega
 . rcases beA.1 hp with hp|hp
   . exact hI2 p hp
   . exact(hI p hp).mono hs2.pre
end
section
variable{S:Spec Ex}{w0:Bs}{g c0 i d:Nat}{f:FuncId}{args:(Nat->Nat)->Array Value}{ix ts:List Nat}{V:List Nat->Nat->Value}{es:List Ex}{O:List Nat->Obj}{B:Blk}
abbrev an4(S:Spec Ex)(w0:Bs)(g c0 i:Nat)(B:Blk)(f:FuncId)(args:(Nat->Nat)->Array Value):Prop:=
 ∀(lst:Nat->Bool) (ν:Nat->Nat) (c:Nat) (w:World),(∀d∈S.D i,lst d=true)->c+S.cost i<=c0+S.total->(runW w0 g).G c (S.K lst ν) (S.L lst ν) w->
    Calls Tryz.prog f (args ν) w (fun e w'=>∃ν',(∀n,S.cr n≠some i->ν' n=ν n)/\e=.returned ((S.val i).den ν')/\(∀p∈S.L lst ν,p.1≠ν' B.b)/\(runW w0 g).G (c+S.cost i) (S.newK i ν'++S.K lst ν) ((ν' B.b,.cells (B.init.map (SC.den ν')).toArray B.T)::S.L lst ν) w')
theorem c_fb(hM:c0+S.total<=20000)(F:∀ν,FnBk f g d (args ν) ((ix.map fun j=>S.know.getD j (0,.leaf 0)).map fun q=>(q.2,ν q.1)) V es O)
 (hix:(ix.all fun j=>decide (j<S.know.length)&&S.pre i (S.know.getD j (0,.leaf 0)).1)=true:=by kernel_rfl) (hc:S.cost i=d:=by rfl) (hv:∀ν,(S.val i).den ν=V (ts.map ν) (ν B.b):=by intro _;rfl) (hO:∀ν,(.cells (B.init.map (SC.den ν)).toArray B.T:Obj)=O (ts.map ν):=by intro _;rfl)
 (ht:((B.b::ts).all fun t=>S.cr t==some i)=true:=by kernel_rfl) (hk:S.made i=ts.zip es:=by rfl) (hn:decide (B.b::ts).Nodup=true:=by kernel_rfl) (hl:ts.length=es.length:=by rfl):an4 S w0 g c0 i B f args:=by
 intro lst ν c w hD hcl hG;rw[hc]at hcl;refine(F ν w0 c _ _ w hG (by omega) fun p hp=> ?_).mono ?_
 . obtain⟨q,h1,rfl⟩:=beC.1 hp
   obtain⟨j,h2,rfl⟩:=beC.1 h1;have h3:=beB.1 hix j h2;rw[Bool.and_eq_true,decide_eq_true_eq]at h3;refine dU ?_ (pre_on h3.2 hD);rw[List.getD_eq_getElem?_getD,List.getElem?_eq_getElem h3.1];exact List.getElem_mem h3.1
 . rintro e w'⟨ks,b,k1,rfl,hR⟩
   have hm:=oM (B.b::ts) (b::ks) ν (of_decide_eq_true hn) (by simp;omega);generalize hμ:letters (B.b::ts) (b::ks) ν=μ at hm;rw[bd9,List.cons.injEq]at hm;obtain⟨m1,m2⟩:=hm;refine⟨μ,fun n h=> ?_,by rw[hv,m1,m2],fun p hp=> ?_,?_⟩
   . rw[<-hμ]
     exact oL _ _ ν n fun hin=>h (by have:=beB.1 ht n hin;simpa using this)
   . rw[m1]
     have hnd:(((b,O ks)::S.L lst ν).map (·.1)).Nodup:=Run.nodup hR;rw[bd9,beD]at hnd;exact fun e=>hnd.1 (beC.2 ⟨p,hp,e⟩)
   . have hb:((μ B.b,.cells (B.init.map (SC.den μ)).toArray B.T):Nat×Obj)=(b,O ks):=by rw[hO,m1,m2]
     rw[hb,hc];refine Run.few hR fun p hp=> ?_;rcases beA.1 hp with h|h
     . obtain⟨q,h2,rfl⟩:=oI h
       rw[hk]at h2;have:=oN (h:=μ) h2;rw[m2]at this;exact beA.2 (Or.inl this)
     . exact beA.2 (Or.inr h)
end
def AllN:Nat->(List Nat->Prop)->Prop
 |0,P=>P []
 |m+1,P=>∀a:Nat,AllN m fun l=>P (a::l)
theorem AllN.at:∀{m:Nat} {P:List Nat->Prop},AllN m P->∀l:List Nat,l.length=m->P l
 |0,_,h,[],_=>h
 |_+1,_,h,a::l,e=>(h a).at l (Nat.succ.inj e)
def nuU:List Nat->(Nat->Nat)->Nat->Nat
 |[],ν,n=>ν n
 |a::_,_,0=>a
 |_::l,ν,n+1=>nuU l ν n
def nuT:List Nat->List Nat->(Nat->Nat)->Nat->Nat
 |[],t,ν,n=>nuU t ν n
 |a::_,_,_,0=>a
 |_::l,t,ν,n+1=>nuT l t ν n
section
variable{a n:Nat}{l t:List Nat}{ν:Nat->Nat}
theorem nuU0:nuU (a::t) ν 0=a:=rfl
theorem nuU1:nuU (a::t) ν (n+1)=nuU t ν n:=rfl
theorem nuTn:nuT [] t ν n=nuU t ν n:=rfl
theorem nuT0:nuT (a::l) t ν 0=a:=rfl
theorem nuT1:nuT (a::l) t ν (n+1)=nuT l t ν n:=rfl
end
def zI:Nat->(Nat->Nat)->List Nat
 |0,_=>[]
 |m+1,ν=>ν 0::zI m fun n=>ν (n+1)
theorem af0:∀(m:Nat) (ν:Nat->Nat),(zI m ν).length=m
 |0,_=>rfl
 |m+1,ν=>congrArg (· +1) (af0 m fun n=>ν (n+1))
theorem ak9:∀(m:Nat) (ν:Nat->Nat) (n:Nat),nuU (zI m ν) (fun k=>ν (k+m)) n=ν n
 |0,_,_=>rfl
 |_+1,_,0=>rfl
 |m+1,ν,n+1=>ak9 m (fun k=>ν (k+1)) n
theorem alA{m:Nat}:∀(l:List Nat) (ν:Nat->Nat),(∀n,n<l.length->ν n=l.getD n 0)->∀n,nuT l (zI m fun k=>ν (k+l.length)) (fun k=>ν (k+m+l.length)) n=ν n
 |[],ν,_,n=>ak9 m ν n
 |a::l,ν,h,0=>(h 0 (Nat.succ_pos _)).symm
 |a::l,ν,h,n+1=>alA (m:=m) l (fun k=>ν (k+1)) (fun k hk=>h (k+1) (Nat.succ_lt_succ hk)) n
abbrev mkS(ops:Array Oper)(k:Nat)(vals:List SV)(cr:List Nat)(know:List (Nat×Ex))(blocks:List Blk)(cost:List Nat)(D:List (List Nat))(outs:List (Nat×SV)):Spec Ex:=
 ⟨ops,fun i=>vals.getD i noS,fun n=>(List.replicate k none++cr.map some).getD n none,know,blocks,fun i=>cost.getD i 0,fun i=>D.getD i [],outs⟩
abbrev rgn(n:Nat):List Nat:=beG n
abbrev curC(k:Int)(a b c:Nat):List SC:=[.v (.int .i64 k),.v (.float .f64 a),.v (.float .f64 b),.v (.float .f64 c)]
def fsOf:List Nat->List SV->(Nat->Nat)->List (Nat×Value)
 |0::ds,_::vs,ν=>fsOf ds vs ν
 |(d+1)::ds,v::vs,ν=>(d,v.den ν)::fsOf ds vs ν
 |_,_,_=>[]
section
variable{d:Nat}{ds:List Nat}{v:SV}{vs:List SV}{ν:Nat->Nat}{a:Act}{x:Value}{l:List (Nat×Value)}{b:SW}{lw:List SW}{c:SC}{lc:List SC}{n o:Nat}
theorem fs0:fsOf (0::ds) (v::vs) ν=fsOf ds vs ν:=rfl
theorem fs1:fsOf ((d+1)::ds) (v::vs) ν=(d,v.den ν)::fsOf ds vs ν:=rfl
theorem fsn:fsOf [] [] ν=[]:=rfl
theorem dSw:(SV.w b).den ν=b.den ν:=rfl
theorem dSt:(SV.tup lw).den ν=.tuple (lw.map (SW.den ν)).toArray:=rfl
theorem dWc:(SW.c c).den ν=c.den ν:=rfl
theorem dWa:(SW.agg lc).den ν=.agg (lc.map (SC.den ν)).toArray:=rfl
theorem dv:(SC.v x).den ν=x:=rfl
theorem di:(SC.id n).den ν=.int .i64 ((ν n:Nat):Int):=rfl
theorem dp:(SC.ptr n o).den ν=.pointer (some ⟨ν n,o,none⟩):=rfl
theorem ds':(SC.sl n o).den ν=.slice (some ⟨ν n,0,none⟩) o o:=rfl
end
theorem Spec.go {ops:Array Oper}{w0:Bs}{g c0:Nat}{a0:Act}{Q:Exit->Act->World->Prop}{id:Nat}{draw:Bool}{K:List (Ex×Nat)}{l:List (Nat×Obj)}(vals:List SV)(cr:List Nat)(know:List (Nat×Ex))(blocks:List Blk)(cost:List Nat)(D:List (List Nat))(outs:List (Nat×SV))(ds old:List Nat)(n c1:Nat)(mK ml:List Bool)(hG:Run w0 g c0 K l w)
 (hok:(mkS ops old.length vals cr know blocks cost D outs).Base a0 (fun n=>old.getD n 0)->c0+(mkS ops old.length vals cr know blocks cost D outs).total<=20000->∀i,i<n->(mkS ops old.length vals cr know blocks cost D outs).Ok (runW w0 g) Tryz.prog Q c0 a0 (fun n=>old.getD n 0) i)
 (hfin:AllN cr.length fun t=>∀(ν:Nat->Nat) (w:World),Run w0 g c1 ((mkS ops old.length vals cr know blocks cost D outs).K (mkS ops old.length vals cr know blocks cost D outs).full (nuT old t ν)) ((mkS ops old.length vals cr know blocks cost D outs).L (mkS ops old.length vals cr know blocks cost D outs).full (nuT old t ν)) w->Q .normal (putL a0 (fsOf ds vals (nuT old t ν))) w)
 (hb:(mkS ops old.length vals cr know blocks cost D outs).Base a0 (fun n=>old.getD n 0):=by exact⟨Spec.wf_of (by kernel_rfl),lZ (by kernel_rfl),jA (by repeat (first|exact trivial|refine And.intro rfl ?_))⟩) (hM:c1<=20000:=by omega) (ho:((beG old.length).all fun n=>(mkS ops old.length vals cr know blocks cost D outs).cr n==none)=true:=by kernel_rfl)
 (hK:(mkS ops old.length vals cr know blocks cost D outs).K (fun _=>false) (fun n=>old.getD n 0)=selB K mK:=by kernel_rfl) (hL:(mkS ops old.length vals cr know blocks cost D outs).L (fun _=>false) (fun n=>old.getD n 0)=selB l ml:=by kernel_rfl) (hz:ops.size=n:=by rfl) (hc1:c0+(mkS ops old.length vals cr know blocks cost D outs).total=c1:=by kernel_rfl) (hf:∀ν,(mkS ops old.length vals cr know blocks cost D outs).fins ν=fsOf ds vals ν:=by intro ν;kernel_rfl)
 (hm:Tryz.prog.follows .mixedOrders=true:=by rfl):(Code.region id ops draw).wp Tryz.prog Q a0 w:=
 Spec.run (S:=mkS ops old.length vals cr know blocks cost D outs) (W:=runW w0 g) n c1 mK ml hb hG (Run.nodup hG) hM hok (fun ν w hν hw=>by
  have e:nuT old (zI cr.length fun k=>ν (k+old.length)) (fun k=>ν (k+cr.length+old.length))=ν:=funext fun n=>alA old ν (fun k hk=>hν k (by
   have:=beB.1 ho k (List.mem_range.2 hk);simpa using this)) n
  have h:=hfin.at (zI cr.length fun k=>ν (k+old.length)) (af0 _ _) (fun k=>ν (k+cr.length+old.length)) w;rw[e]at h;exact h hw) hK hL hz hc1 hf hm
theorem aeO{g:Nat}{T:TypeId}{a0 a1 a2 a3 a4 a5 a6 a7:Value}(h:w.heap[g]? =some (.cells #[a0,a1,a2,a3,a4,a5,a6,a7] T (0,0))):
 w.cell? ⟨g,0,none⟩=some a0/\w.cell? ⟨g,1,none⟩=some a1/\w.cell? ⟨g,2,none⟩=some a2/\w.cell? ⟨g,3,none⟩=some a3/\w.cell? ⟨g,4,none⟩=some a4/\w.cell? ⟨g,5,none⟩=some a5/\w.cell? ⟨g,6,none⟩=some a6/\w.cell? ⟨g,7,none⟩=some a7:=by
 refine⟨?_,?_,?_,?_,?_,?_,?_,?_⟩<;>simp[World.cell?,h]
theorem oP{g:Nat}(hca:FlOk ca)(hcb:FlOk cb):FnOk 107 g 2 #[.pointer (some ⟨g,0,none⟩),curV 2 ca cb cc] [] (fun ks=>dW g (ks.getD 0 0) (ks.getD 1 0)) [.leaf ca,.leaf cb]:=FnOk.of fun w B ns N hR hN=>by
 have R1:=hdd hR;clear hR;go_enter Tryz.func107,Tryz.ntmps107
 go_upto_region 0 with fail
 refine Spec.run (S:=⟨_,fun i=>([.w (.c (.ptr 0 0)),.w (.c (.ptr 1 0))]:List SV).getD i noS,fun n=>([some 0,some 1]:List (Option Nat)).getD n none,
  [],[⟨0,29,[.v (.int .i64 2),.v (.float .f64 ca),.v (.float .f64 cb),.v (.float .f64 cc)],none⟩,⟨1,33,[.v (.pointer none),.v (.int .i64 0),.v (.pointer none),.v (.int .i64 0)],none⟩],
  fun i=>([0,0]:List Nat).getD i 0,fun i=>([[],[]]:List (List Nat)).getD i [],[(1,.w (.agg ([.v (.int .i64 2),.v (.float .f64 ca),.v (.float .f64 cb),.v (.float .f64 cc)])))]⟩)
  (W:=runW ⟨w,B,ns⟩ g) (ν0:=fun n=>([]:List Nat).getD n 0) (c0:=N)
  (fs:=fun ν=>[(3,.pointer (some ⟨(ν 0),0,none⟩)),(4,.pointer (some ⟨(ν 1),0,none⟩))]) 2 N [] []
  ⟨Spec.wf_of (by kernel_rfl),lZ (by kernel_rfl),jA ⟨rfl,trivial⟩⟩ R1.out (Run.nodup R1.out) (by omega)
  (fun b hM=>aA (aA aH
    (aI b m0))
    (aI b m1)) ?_
 intro ν W2 hν hR;replace hR:Run ⟨w,B,ns⟩ g N [] [((ν 0),.cells #[(.int .i64 2),(.float .f64 ca),(.float .f64 cb),(.float .f64 cc)] 29),((ν 1),.cells #[.pointer none,.int .i64 0,.pointer none,.int .i64 0] 33)] W2:=hR;clear hν;generalize ν 0=b1 at hR|-;generalize ν 1=b2 at hR|-;have R2:=hdd hR;clear hR R1;simp only[putL,bd8,beE]
 go_upto_region 1 with fail
 refine Spec.run (S:=⟨_,fun i=>([.w (.c (.v (.pointer (some ⟨g,0,none⟩)))),.w (.c (.ptr 0 1)),.w (.c (.v (.float .f64 ca))),.w (.c (.ptr 0 2)),.w (.c (.v (.float .f64 cb))),dH g 2 3,noS]:List SV).getD i noS,fun n=>([none,none,some 5,some 5]:List (Option Nat)).getD n none,
  [(2,(.leaf ca)),(3,(.leaf cb))],[⟨0,29,[.v (.int .i64 2),.v (.float .f64 ca),.v (.float .f64 cb),.v (.float .f64 cc)],none⟩,⟨1,33,[.v (.pointer none),.v (.int .i64 0),.v (.pointer none),.v (.int .i64 0)],some (6,aY g 2 3)⟩],
  fun i=>([0,0,0,0,0,2,0]:List Nat).getD i 0,fun i=>([[],[],[1],[],[3],[0,1,2,3,4],[0,1,2,3,4,5]]:List (List Nat)).getD i [],[(0,.w (.c (.v (.pointer (some ⟨g,0,none⟩))))),(3,.w (.c (.ptr 0 0))),(4,.w (.c (.ptr 1 0)))]⟩)
  (W:=runW ⟨w,B,ns⟩ g) (ν0:=fun n=>([b1,b2]:List Nat).getD n 0) (c0:=N)
  (fs:=fun ν=>[(5,.pointer (some ⟨g,0,none⟩)),(6,.pointer (some ⟨(ν 0),1,none⟩)),(7,(.float .f64 ca)),(8,.pointer (some ⟨(ν 0),2,none⟩)),(9,(.float .f64 cb)),(10,dW g (ν 2) (ν 3))]) 7 (N+2) [] []
  ⟨Spec.wf_of (by kernel_rfl),lZ (by kernel_rfl),jA ⟨rfl,rfl,rfl,trivial⟩⟩ R2.out (Run.nodup R2.out) (by omega)
  (fun b hM=>aA (aA (aA (aA (aA (aA (aA aH
    (aB b))
    (aB b))
    (aZ b m0))
    (aB b))
    (aZ b m0))
    (aG b (c_at hM hca.1 hcb.1 hca.2 hcb.2 rfl rfl rfl rfl (by decide) rfl)))
    (aV b 4 m1)) ?_
 intro ν W3 hν hR;replace hR:Run ⟨w,B,ns⟩ g (N+2) [((.leaf ca),ν 2),((.leaf cb),ν 3)] [((ν 0),.cells #[(.int .i64 2),(.float .f64 ca),(.float .f64 cb),(.float .f64 cc)] 29),((ν 1),dX g (ν 2) (ν 3))] W3:=hR;have e0:ν 0=b1:=hν 0 rfl;have e1:ν 1=b2:=hν 1 rfl;simp only[e0,e1]at hR|-;clear hν e0 e1;generalize ν 2=n3 at hR|-;generalize ν 3=n4 at hR|-;have R3:=hdd hR;clear hR R2;simp only[putL,bd8,beE];go_wp2;obtain⟨x0,x1,x2,x3⟩:=aL (R3.out.at m1);refine bodyPost_ret (v:=.agg #[_,_,_,_]) (by simp[results,Tryz.results107,go_sem,x0,x1,x2,x3];first|exact⟨rfl,rfl,rfl,rfl⟩|rfl) rfl ?_;exact⟨[n3,n4],rfl,rfl,_,R3.out.few (bX [0,1])⟩
theorem iI{g:Nat}{su sv:Int}(h1:dC ca cb cc)(s1:∀w,Calls Tryz.prog 108 #[.float .f64 ca,.float .f64 0] w (RetV w (.int .i64 su)))(s2:∀w,Calls Tryz.prog 108 #[.float .f64 cb,.float .f64 0] w (RetV w (.int .i64 sv))):FnOk 83 g 3 #[.pointer (some ⟨g,0,none⟩),curV 1 ca cb cc] [] (fun ks=>.agg #[.pointer (some ⟨g,0,none⟩),.int .i64 ((ks.getD 0 0:Nat):Int),.pointer (some ⟨g,0,none⟩),.int .i64 ((ks.getD 1 0:Nat):Int),.pointer (some ⟨g,0,none⟩),.int .i64 ((ks.getD 2 0:Nat):Int),.int .i64 su,.int .i64 sv]) [.leaf ca,.leaf cb,.leaf cc]:=FnOk.of fun w B ns N hR hN=>by
 have R1:=hdd hR;clear hR;go_enter Tryz.func83,Tryz.ntmps83
 go_upto_region 0 with fail
 refine Spec.go [.w (.c (.ptr 0 0)),.w (.c (.ptr 1 0))] [0,1]
  [] [⟨0,29,curC 1 ca cb cc,none⟩,⟨1,129,[.v (.pointer none),.v (.int .i64 0),.v (.pointer none),.v (.int .i64 0),.v (.pointer none),.v (.int .i64 0),.v (.int .i64 0),.v (.int .i64 0)],none⟩]
  [0,0] [[],[]] [(1,.w (.agg ([.v (.int .i64 1),.v (.float .f64 ca),.v (.float .f64 cb),.v (.float .f64 cc)])))]
  [4,5] [] 2 N [] [] R1.out
  (fun b hM=>aA (aA aH
    (aI b m0))
    (aI b m1)) ?_
 intro b1 b2 ν W2 hR;have R2:=hdd hR;clear hR R1;simp only[putL,bd8,beE,fs0,fs1,fsn,dSw,dSt,dWc,dWa,dv,di,dp,ds',bd9,beF,nuTn,nuT0,nuT1,nuU0,nuU1]
 go_upto_region 1 with fail
 refine Spec.go [.w (.c (.v (.pointer (some ⟨g,0,none⟩)))),.w (.c (.ptr 0 1)),.w (.c (.v (.float .f64 ca))),numS g 2,.w (.c (.v (.pointer (some ⟨g,0,none⟩)))),.w (.c (.ptr 0 2)),.w (.c (.v (.float .f64 cb))),numS g 3,.w (.c (.v (.pointer (some ⟨g,0,none⟩)))),.w (.c (.ptr 0 3)),.w (.c (.v (.float .f64 cc))),numS g 4,.w (.c (.ptr 0 1)),.w (.c (.v (.float .f64 ca))),.w (.c (.v (.int .i64 su))),.w (.c (.ptr 0 2)),.w (.c (.v (.float .f64 cb))),.w (.c (.v (.int .i64 sv))),.w (.agg ([.v (.pointer (some ⟨g,0,none⟩)),.id 2,.v (.pointer (some ⟨g,0,none⟩)),.id 3,.v (.pointer (some ⟨g,0,none⟩)),.id 4,.v (.int .i64 su),.v (.int .i64 sv)])),noS] [3,7,11]
  [(2,(.leaf ca)),(3,(.leaf cb)),(4,(.leaf cc))] [⟨0,29,curC 1 ca cb cc,none⟩,⟨1,129,[.v (.pointer none),.v (.int .i64 0),.v (.pointer none),.v (.int .i64 0),.v (.pointer none),.v (.int .i64 0),.v (.int .i64 0),.v (.int .i64 0)],some (19,[.v (.pointer (some ⟨g,0,none⟩)),.id 2,.v (.pointer (some ⟨g,0,none⟩)),.id 3,.v (.pointer (some ⟨g,0,none⟩)),.id 4,.v (.int .i64 su),.v (.int .i64 sv)])⟩]
  [0,0,0,1,0,0,0,1,0,0,0,1,0,0,0,0,0,0,0,0] [[],[],[1],[0,1,2],[],[],[5],[4,5,6],[],[],[9],[8,9,10],[],[12],[12,13],[],[15],[15,16],rgn 18,rgn 19] [(0,.w (.c (.v (.pointer (some ⟨g,0,none⟩))))),(3,.w (.c (.ptr 0 0))),(4,.w (.c (.ptr 1 0)))]
  [6,7,8,9,10,11,12,13,14,15,16,17,18,19,20,21,22,23,24,0] [b1,b2] 20 (N+3) [] [] R2.out
  (fun b hM=>aA (aA (aA (aA (aA (aA (aA (aA (aA (aA (aA (aA (aA (aA (aA (aA (aA (aA (aA (aA aH
    (aB b))
    (aB b))
    (aZ b m0))
    (aG b (c_of hM h1.1.1 h1.1.2 rfl rfl rfl rfl)))
    (aB b))
    (aB b))
    (aZ b m0))
    (aG b (c_of hM h1.2.1.1 h1.2.1.2 rfl rfl rfl rfl)))
    (aB b))
    (aB b))
    (aZ b m0))
    (aG b (c_of hM h1.2.2.1.1 h1.2.2.1.2 rfl rfl rfl rfl)))
    (aB b))
    (aZ b m0))
    (aG b (oK hM rfl rfl rfl (fun w=>s1 w))))
    (aB b))
    (aZ b m0))
    (aG b (oK hM rfl rfl rfl (fun w=>s2 w))))
    (aB b))
    (aV b 8 m1)) ?_
 intro n3 n4 n5 ν W3 hR;replace hR:Run ⟨w,B,ns⟩ g (N+3) [((.leaf ca),n3),((.leaf cb),n4),((.leaf cc),n5)] [(b1,.cells #[(.int .i64 1),(.float .f64 ca),(.float .f64 cb),(.float .f64 cc)] 29),(b2,.cells #[.pointer (some ⟨g,0,none⟩),.int .i64 ((n3:Nat):Int),.pointer (some ⟨g,0,none⟩),.int .i64 ((n4:Nat):Int),.pointer (some ⟨g,0,none⟩),.int .i64 ((n5:Nat):Int),(.int .i64 su),(.int .i64 sv)] 129)] W3:=hR;have R3:=hdd hR;clear hR R2;simp only[putL,bd8,beE,fs0,fs1,fsn,dSw,dSt,dWc,dWa,dv,di,dp,ds',bd9,beF,nuTn,nuT0,nuT1,nuU0,nuU1];go_wp2;obtain⟨x0,x1,x2,x3,x4,x5,x6,x7⟩:=aeO (R3.out.at m1);refine bodyPost_ret (v:=.agg #[_,_,_,_,_,_,_,_]) (by simp[results,Tryz.results83,go_sem,x0,x1,x2,x3,x4,x5,x6,x7];first|exact⟨rfl,rfl,rfl,rfl,rfl,rfl,rfl,rfl⟩|rfl) rfl ?_;exact⟨[n3,n4,n5],rfl,rfl,_,R3.out.few (bX [0,1,2])⟩
end Go.Proofs.YtjaafolhfihegaaGreatDoor
namespace Go.Proofs.YtjaafolhfihegaaGreatDoor
open Go.RowKit
variable{xs:List Nat}{g n:Nat}{p:Nat->Prop}{T:TypeId}{a b c va:Value}{w:World}
theorem alB(a K m:Nat)(h:K<=m):a/2^K/2^(m-K)=a/2^m:=by
 rw[Nat.div_div_eq_div_mul,<-Nat.pow_add,Nat.add_sub_cancel' h]
theorem an5(hx:NatP p w va xs):
 Calls Tryz.prog 203 #[va,.int .i64 16777216] w (fun e w'=>∃K:Nat,(K:Int)=16777216/\RetN w.heap.size w (val xs/2^K) e w'):=
 (afJ (n:=16777216) hx nlr).mono fun _ _ h=>⟨16777216,rfl,h⟩
theorem lF(hx:NatP p w va xs)(hn:n<=9223372036854775807):
 Calls Tryz.prog 181 #[va,.int .i64 n] w (RetN w.heap.size w (val xs/2^n)):=by
 have HX:=hdd hx.any;clear hx;go_enter Tryz.func181,Tryz.ntmps181
 go_wp2_with fail
 go_loopw [0,1] (fun sv i wr=>∃(m:Nat) (ys:List Nat),m<=n/\i=.int .i64 m/\Hid (NatP AnyB wr sv ys)/\Hid (Below w.heap.size w wr)/\Hid (val ys/2^m=val xs/2^n)) (fun _ i _=>(intOf i).toNat)
 case atStart=>exact⟨n,xs,Nat.le_refl _,rfl,HX,hdd (Below.refl _ _),hdd rfl⟩
 case round=>
  obtain⟨m,ys,hm,rfl,HY,HB,HV⟩:=hrel;rcases Nat.lt_or_ge 16777216 m with h|h
  . have hi:(16777216:Int)<(m:Int):=by omega
    go_wp2_with fail
    refine(an5 HY.out).mono ?_;rintro e w1⟨K,hK,hb,v1,zs,rfl,hz,tz,hvz⟩;have HZ:=hdd hz.any;have HB2:=hdd (HB.out.trans (hb.mono HB.out.size));have HV2:Hid (val zs/2^(m-K)=val xs/2^n):=hdd (by
     rw[hvz,<-HV.out];exact alB _ _ _ (by omega))
    have hsub:(m:Int)-16777216=((m-K:Nat):Int):=by omega
    clear hb hz tz hvz;go_wp2
    go_roundw
    case rel=>exact⟨m-K,zs,by omega,by go_num,HZ,HB2,HV2⟩
    case measure=>simp[intOf];omega
  . have hi:¬(16777216:Int)<(m:Int):=by omega
    go_wp2_with fail
    refine(afJ HY.out h).mono ?_;rintro e w1⟨hb,v1,zs,rfl,hz,tz,hvz⟩;have HF:=hdd (RetN.of (n:=val xs/2^n) (HB.out.trans (hb.mono HB.out.size)) (hz.weak fun b h _=>Nat.le_trans HB.out.size h) tz (by rw[hvz,HV.out]));clear hb hz tz hvz;go_wp2;go_ret;exact HF.out
theorem an6(hx:NatP p w va xs)(hL:xs.length<1073741824):
 Calls Tryz.prog 237 #[va,.int .i64 16777216] w (fun e w'=>∃K:Nat,(K:Int)=16777216/\RetN w.heap.size w (val xs*2^K) e w'):=
 (afI (n:=16777216) hx nlr hL).mono fun _ _ h=>⟨16777216,rfl,h⟩
theorem alC(a K m:Nat)(h:K<=m):a*2^K*2^(m-K)=a*2^m:=by
 rw[Nat.mul_assoc,<-Nat.pow_add,Nat.add_sub_cancel' h]
theorem alD(xs zs:List Nat)(m n:Nat)(hx:OkL xs)(hz:OkL zs)(tz:Tr zs)(h:val zs*2^m=val xs*2^n):64*zs.length<=64*xs.length+n+63:=by
 have h1:=bQ zs hz tz;have h2:bits (val zs)<=64*xs.length+n:=by
  rw[aK];have h3:val zs<=val zs*2^m:=Nat.le_mul_of_pos_right _ (Nat.two_pow_pos m);have h4:val xs<2^(64*xs.length):=by
   have:=bU xs hx;rwa[show B64=2^64 from rfl,<-Nat.pow_mul]at this
  have h5:val xs*2^n<2^(64*xs.length)*2^n:=Nat.mul_lt_mul_of_pos_right h4 (Nat.two_pow_pos n);rw[Nat.pow_add];omega
 omega
theorem jN(hx:NatP p w va xs)(hn:n<=134217728)(hL:xs.length<=1000000000):
 Calls Tryz.prog 228 #[va,.int .i64 n] w (RetN w.heap.size w (val xs*2^n)):=by
 have HX:=hdd hx.any;have HO:=hdd hx.ok;clear hx;have h0:¬(n:Int)<0:=by omega
 have h1:¬(134217728:Int)<(n:Int):=by omega
 go_enter Tryz.func228,Tryz.ntmps228
 go_wp2_with fail
 go_loopw [0,1] (fun sv i wr=>∃(m:Nat) (ys:List Nat),m<=n/\64*ys.length<=64*xs.length+n+63/\i=.int .i64 m/\Hid (NatP AnyB wr sv ys)/\Hid (Below w.heap.size w wr)/\Hid (val ys*2^m=val xs*2^n)) (fun _ i _=>(intOf i).toNat)
 case atStart=>exact⟨n,xs,Nat.le_refl _,by omega,rfl,HX,hdd (Below.refl _ _),hdd rfl⟩
 case round=>
  obtain⟨m,ys,hm,hl,rfl,HY,HB,HV⟩:=hrel;rcases Nat.lt_or_ge 16777216 m with h|h
  . have hi:(16777216:Int)<(m:Int):=by omega
    go_wp2_with fail
    refine(an6 HY.out (by omega)).mono ?_;rintro e w1⟨K,hK,hb,v1,zs,rfl,hz,tz,hvz⟩;have HZ:=hdd hz.any;have HB2:=hdd (HB.out.trans (hb.mono HB.out.size));have HV2:Hid (val zs*2^(m-K)=val xs*2^n):=hdd (by rw[hvz,<-HV.out];exact alC _ _ _ (by omega));have hl2:=alD xs zs _ n HO.out hz.ok tz HV2.out;have hsub:(m:Int)-16777216=((m-K:Nat):Int):=by omega
    clear hb hz tz hvz;go_wp2
    go_roundw
    case rel=>exact⟨m-K,zs,by omega,hl2,by go_num,HZ,HB2,HV2⟩
    case measure=>simp[intOf];omega
  . have hi:¬(16777216:Int)<(m:Int):=by omega
    go_wp2_with fail
    refine(afI HY.out h (by omega)).mono ?_;rintro e w1⟨hb,v1,zs,rfl,hz,tz,hvz⟩;have HF:=hdd (RetN.of (n:=val xs*2^n) (HB.out.trans (hb.mono HB.out.size)) (hz.weak fun b h _=>Nat.le_trans HB.out.size h) tz (by rw[hvz,HV.out]));clear hb hz tz hvz;go_wp2;go_ret;exact HF.out
structure Dy where
 man:Int
 exp:Int
deriving DecidableEq
def DyP(p:Nat->Prop)(w:World)(v:Value)(d:Dy):Prop:=
 ∃b A n c,v=.agg #[.bool b,.slice A n c,.int .i64 d.exp]/\IntP p w (.agg #[.bool b,.slice A n c]) d.man
def RetD(B:Nat)(w0:World)(d:Dy)(e:Ending)(w':World):Prop:=
 Below B w0 w'/\∃v,e=.returned v/\DyP (fun b=>B<=b) w' v d
def mkDy(man exp:Int):Dy:=if man=0 then⟨0,0⟩else⟨sg (decide (man<0)) (man.natAbs/2^ctz man.natAbs),exp+ctz man.natAbs⟩
theorem DyP.below {w':World}{v:Value}{d:Dy}(h:DyP p w v d)(hb:Below w.heap.size w w'):DyP p w' v d:=by
 obtain⟨b,A,n,c,e,h⟩:=h;exact⟨b,A,n,c,e,h.below hb⟩
theorem cells3(h:w.heap[g]? =some (.cells #[a,b,c] T (0,0))):
 w.cell? ⟨g,0,none⟩=some a/\w.cell? ⟨g,1,none⟩=some b/\w.cell? ⟨g,2,none⟩=some c/\w.frozen? ⟨g,0,none⟩=false/\w.frozen? ⟨g,1,none⟩=false/\w.frozen? ⟨g,2,none⟩=false:=by
 refine⟨?_,?_,?_,?_,?_,?_⟩<;>simp[World.cell?,World.frozen?,h]
theorem set3(h:w.heap[g]? =some (.cells #[a,b,c] T (0,0)))(u v x:Value):
 (((w.setCell ⟨g,0,none⟩ u).setCell ⟨g,1,none⟩ v).setCell ⟨g,2,none⟩ x).heap[g]? =some (.cells #[u,v,x] T (0,0)):=by
 have hg:g<w.heap.size:=(Array.getElem?_eq_some_iff.1 h).1;have h':w.heap[g]=.cells #[a,b,c] T (0,0):=(Array.getElem?_eq_some_iff.1 h).2;simp[World.setCell,hg,Array.getElem_modify,h']
theorem aT{B:Nat}{w0 w1:World}{u vm:Value}{z:Int}{d:Dy}{q:Nat->Prop}(hb:Below B w0 w1)(hg:B<=g)(hw:w1.heap[g]? =some (.cells #[a,b,c] T (0,0)))
 (h:DyP q w1 (.agg #[u,vm,.int .i64 z]) d) (hq:∀b,q b->B<=b/\b≠g):
 Hid (RetD B w0 d (.returned (.agg #[u,vm,.int .i64 z])) (((w1.setCell ⟨g,0,none⟩ u).setCell ⟨g,1,none⟩ vm).setCell ⟨g,2,none⟩ (.int .i64 z)))/\
 (((w1.setCell ⟨g,0,none⟩ u).setCell ⟨g,1,none⟩ vm).setCell ⟨g,2,none⟩ (.int .i64 z)).heap[g]? =some (.cells #[u,vm,.int .i64 z] T (0,0)):=by
 obtain⟨b',A,n,c',e,h⟩:=h;refine⟨hdd ⟨((hb.setCell hg _).setCell hg _).setCell hg _,_,rfl,b',A,n,c',e,?_⟩,set3 hw u vm _⟩;exact(((h.setCell (fun b hb=>(hq b hb).2) _).setCell (fun b hb=>(hq b hb).2) _).setCell (fun b hb=>(hq b hb).2) _).weak fun b hb _=>(hq b hb).1
end Go.Proofs.YtjaafolhfihegaaGreatDoor
namespace Go.Proofs.YtjaafolhfihegaaGreatDoor
open Int renaming natCast_mul->beI,mul_assoc->beK,mul_eq_zero->beN,zero_mul->beP,neg_mul->beQ
open Nat renaming two_pow_pos->beH,le_mul_of_pos_right->beJ,pow_succ->beL,pow_add->beM,mul_comm->beO
variable{j k:Nat}
theorem tJ(n:Nat)(h:n≠0):∃k m,n=2^k*(2*m+1)/\ctz n=k:=by
 suffices∀b n,n<2^b->n≠0->∃k m,n=2^k*(2*m+1) by
  obtain⟨k,m,e⟩:=this n n Nat.lt_two_pow_self h;exact⟨k,m,e,by rw[e];exact zU k m⟩
 intro b
 induction b with
 |zero=>intro n h1 h2;omega
 |succ b ih=>
  intro n h1 h2;rcases Nat.mod_two_eq_zero_or_one n with h3|h3
  . obtain⟨k,m,e⟩:=ih (n/2) (by rw[beL]at h1;omega) (by omega)
    refine⟨k+1,m,?_⟩;rw[beL,beO (2^k) 2,Nat.mul_assoc,<-e];omega
  . exact⟨0,n/2,by simp;omega⟩
theorem uI(n:Nat)(h:n≠0):ctz n<=bits n:=by
 obtain⟨k,m,e,hk⟩:=tJ n h;rw[hk];rcases Nat.lt_or_ge (bits n) k with h1|h1
 . have h2:=(aK n (bits n)).1 nlr
   have h3:2^bits n<=2^k:=Nat.pow_le_pow_right (by omega) (by omega);have h4:2^k<=n:=by rw[e];exact beJ _ (by omega)
   omega
 . exact h1
theorem nJ(b:Bool)(m n:Nat):sg b (m*n)=sg b m*(n:Int):=by cases b<;>simp[sg,beQ]
theorem jO(x e:Int)(hx:x≠0):∃k:Nat,x=(mkDy x e).man*(2^k:Nat)/\(mkDy x e).exp=e+k/\(mkDy x e).man%2=1/\k<=bits x.natAbs:=by
 obtain⟨k,m,e1,hk⟩:=tJ x.natAbs (by omega);have hm:(mkDy x e).man=sg (decide (x<0)) (2*m+1):=by
  unfold mkDy;rw[if_neg hx,hk];show sg _ (x.natAbs/2^k)=_;rw[e1,Nat.mul_div_cancel_left _ (beH k)]
 refine⟨k,?_,?_,?_,?_⟩
 . rw[hm,<-nJ,beO,<-e1]
   exact(nS x).symm
 . unfold mkDy;rw[if_neg hx,hk]
 . rw[hm];cases decide (x<0)<;>simp[sg]<;>omega
 . have:=uI x.natAbs (by omega);omega
theorem bH(e:Int):mkDy 0 e=⟨0,0⟩:=by unfold mkDy;simp
theorem xF{a b:Int}(ha:a%2=1)(hb:b%2=1)(h:a*(2^j:Nat)=b*(2^k:Nat)):a=b/\j=k:=by
 suffices∀j k:Nat,∀a b:Int,a%2=1->b%2=1->j<=k->a*(2^j:Nat)=b*(2^k:Nat)->a=b/\j=k by
  rcases Nat.le_total j k with hjk|hjk
  . exact this j k a b ha hb hjk h
  . obtain⟨e1,e2⟩:=this k j b a hb ha hjk h.symm
    exact⟨e1.symm,e2.symm⟩
 intro j k a b ha hb hjk h;obtain⟨d,rfl⟩:∃d,k=j+d:=⟨k-j,by omega⟩;rw[beM,beI,Int.mul_comm ((2^j:Nat):Int),<-beK]at h;have hp:((2^j:Nat):Int)≠0:=by have:=beH j;omega
 have h2:=Int.eq_of_mul_eq_mul_right hp h;rcases d with _|d
 . exact⟨by simpa using h2,rfl⟩
 . exfalso
   rw[beL,beI,<-beK]at h2;omega
theorem vK{x y e f:Int}(h:x*(2^j:Nat)=y*(2^k:Nat))(he:e-j=f-k):mkDy x e=mkDy y f:=by
 have pj:=beH j;have pk:=beH k;by_cases hx:x=0
 . have hy:y=0:=by
    rw[hx,beP]at h;rcases beN.1 h.symm with h|h
    . exact h
    . omega
   rw[hx,hy,bH,bH]
 . have hy:y≠0:=by
    intro hy;rw[hy,beP]at h;rcases beN.1 h with h|h
    . exact hx h
    . omega
   obtain⟨a,a1,a2,a3,-⟩:=jO x e hx;obtain⟨b,b1,b2,b3,-⟩:=jO y f hy;have h2:(mkDy x e).man*(2^(a+j):Nat)=(mkDy y f).man*(2^(b+k):Nat):=by
    rw[beM,beM,beI,beI,<-beK,<-beK,<-a1,<-b1];exact h
   obtain⟨h3,h4⟩:=xF a3 b3 h2;have h5:(mkDy x e).exp=(mkDy y f).exp:=by rw[a2,b2];omega
   cases hd:mkDy x e;cases hd2:mkDy y f
   rw[hd,hd2]at h3 h5;simp at h3 h5;rw[h3,h5]
theorem alE(x e:Int)(k:Nat):mkDy (x*(2^k:Nat)) (e-k)=mkDy x e:=
 vK (j:=0) (k:=k) (by simp) (by omega)
theorem qA(x e:Int):mkDy (mkDy x e).man (mkDy x e).exp=mkDy x e:=by
 by_cases hx:x=0
 . rw[hx,bH,bH]
 . obtain⟨k,k1,k2,k3,-⟩:=jO x e hx
   exact vK (j:=k) (k:=0) (by simpa using k1.symm) (by omega)
def dZ(a b:Dy):Int:=if a.exp<=b.exp then a.man else a.man*(2^(a.exp-b.exp).toNat:Nat)
def eB(a b:Dy):Int:=if a.exp<=b.exp then b.man*(2^(b.exp-a.exp).toNat:Nat)else b.man
def addD(a b:Dy):Dy:=if a.man=0 then mkDy b.man b.exp else if b.man=0 then mkDy a.man a.exp else mkDy (dZ a b+eB a b) (min a.exp b.exp)
def mulD(a b:Dy):Dy:=mkDy (a.man*b.man) (a.exp+b.exp)
def notD(a:Dy):Dy:=mkDy (-a.man) a.exp
def topD(a:Dy):Int:=if a.man=0 then 0 else bits a.man.natAbs+a.exp
def cmpD(a b:Dy):Int:=cmpI (dZ a b) (eB a b)
theorem jP(a b:Dy):dZ a b=a.man*(2^(a.exp-min a.exp b.exp).toNat:Nat):=by
 unfold dZ;split
 . have:(a.exp-min a.exp b.exp).toNat=0:=by omega
   rw[this];simp
 . have:min a.exp b.exp=b.exp:=by omega
   rw[this]
theorem jQ(a b:Dy):eB a b=b.man*(2^(b.exp-min a.exp b.exp).toNat:Nat):=by
 unfold eB;split
 . have:min a.exp b.exp=a.exp:=by omega
   rw[this]
 . have:(b.exp-min a.exp b.exp).toNat=0:=by omega
   rw[this];simp
theorem jW(x e:Int):mkDy x e=⟨0,0⟩/\x=0\/x≠0/\(mkDy x e).man≠0/\e<=(mkDy x e).exp/\x=(mkDy x e).man*(2^((mkDy x e).exp-e).toNat:Nat):=by
 by_cases hx:x=0
 . exact Or.inl ⟨by rw[hx,bH],hx⟩
 . obtain⟨k,k1,k2,k3,-⟩:=jO x e hx
   refine Or.inr ⟨hx,by omega,by omega,?_⟩;have:((mkDy x e).exp-e).toNat=k:=by omega
   rw[this];exact k1
theorem af1(x e:Int):notD (mkDy x e)=mkDy (-x) e:=by
 unfold notD;rcases jW x e with ⟨h1,h2⟩|⟨h1,h2,h3,h4⟩
 . rw[h1,h2];simp[bH]
 . generalize mkDy x e=a at*
   refine vK (j:=(a.exp-e).toNat) (k:=0) ?_ (by omega);rw[beQ,<-h4];simp
theorem an7(x e:Int):(mkDy x e).man.sign=x.sign:=by
 rcases jW x e with ⟨h1,h2⟩|⟨h1,h2,h3,h4⟩
 . rw[h1,h2]
 . generalize mkDy x e=a at*
   have:=beH (a.exp-e).toNat;rw[h4,Int.sign_mul,Int.sign_eq_one_of_pos (a:=((2^(a.exp-e).toNat:Nat):Int)) (by omega),Int.mul_one]
theorem sD(x e:Int):bits (mkDy x e).man.natAbs<=bits x.natAbs:=by
 rcases jW x e with ⟨h1,h2⟩|⟨h1,h2,h3,h4⟩
 . rw[h1];exact Nat.zero_le _
 . generalize mkDy x e=a at*
   refine dG ?_
   conv=>rhs;rw[h4]
   rw[Int.natAbs_mul,Int.natAbs_natCast];exact beJ _ (beH _)
end Go.Proofs.YtjaafolhfihegaaGreatDoor
namespace Go.Proofs.YtjaafolhfihegaaGreatDoor
open Go.RowKit
open Go.RowKit.Below renaming refl->beR
variable{x:Int}{p:Nat->Prop}{v:Value}{w:World}
theorem wrap_i64(h:-9223372036854775808<=x/\x<9223372036854775808):IntKind.i64.wrap x=x:=by
 have hb64:(2:Int)^IntKind.i64.bits=18446744073709551616:=rfl;have hb63:(2:Int)^(IntKind.i64.bits-1)=9223372036854775808:=rfl;simp only[IntKind.wrap,show IntKind.i64.signed=true from rfl,Bool.true_and,decide_eq_true_eq,hb64,hb63]
 split<;>omega
theorem dP{va:Value}{e:Int}(hx:IntP p w va x)(hT:Tab w)(hL:bits x.natAbs<=1073741824)(he:-1000000000000<=e/\e<=1000000000000):
 Calls Tryz.prog 152 #[va,.int .i64 e] w (RetD w.heap.size w (mkDy x e)):=by
 obtain⟨ba,A,n,c,rfl⟩:=hx.shape;obtain⟨w2,hw2,hb2,hs2,b1,b2⟩:=pro2 w (.cells #[Value.bool ba,.slice A n c] 223) (.cells #[Value.bool false,Value.slice none 0 0,.int .i64 0] 225);have HB:=hdd hb2;have H1:=hdd (hx.below hb2);have HS:=hdd hs2;have B1:=hdd b1;have B2:=hdd b2;have HT:=hdd (hT.below hb2);have HL:=hdd hL;obtain⟨c0,c1,-,-⟩:=aF b1;clear hx hb2 b1 b2 hs2 hT hL;go_enter Tryz.func152,Tryz.ntmps152
 go_wp2_with fail
 refine(rH H1.out).mono ?_;rintro r w3⟨rfl,hb⟩;replace H1:=hdd (H1.out.below hb);replace HT:=hdd (HT.out.below hb);replace c0:=cbl c0 hb;replace c1:=cbl c1 hb;replace B2:=hdd (aJ B2.out hb (by have:=HS.out;omega));have HS3:=hdd hb.size;replace HB:=hdd (HB.out.trans (hb.mono HB.out.size));clear hb hw2;by_cases hz:x=0
 . have hs:(x.sign==0)=true:=by rw[hz];rfl
   obtain⟨e0,e1,e2,e3,e4,e5⟩:=cells3 B2.out;have hsz:=HS3.out;have hs2:=HS.out;have h:DyP (fun b=>w3.heap.size<=b) w3 (.agg #[.bool false,.slice none 0 0,.int .i64 0]) (mkDy x e):=by
    rw[hz];exact⟨_,_,_,_,rfl,_,[],rfl,NatP.nil _,Tr.nil,rfl⟩
   obtain⟨HFF,hFF⟩:=aT HB.out (g:=w.heap.size+1) (by omega) B2.out h (fun b hb=>by omega);replace hFF:=hdd hFF;clear h hsz hs2;go_wp2;obtain⟨f0,f1,f2,-,-,-⟩:=cells3 hFF.out;refine bodyPost_ret (v:=.agg #[_,_,_]) (by simp[results,Tryz.results152,go_sem,f0,f1,f2];first|exact⟨rfl,rfl,rfl⟩|rfl) rfl ?_;exact HFF.out
 . have hs:(x.sign==0)=false:=beq_eq_false_iff_ne.2 (fun h=>hz (Int.sign_eq_zero_iff_zero.1 h))
   obtain⟨xs,hx1,hx2,hx3,hx4⟩:=H1.out.get;have HX:=hdd hx1;have HV:=hdd hx3;have HBA:=hdd hx4;have hlow:ctz (val xs)<=1073741824:=by
    have h1:=uI (val xs) (by rw[hx3];omega);have:=HL.out;rw[hx3]at h1|-;omega
   clear hx1 hx2 hx3 hx4;go_wp2_with fail
   refine(u6 HX.out HT.out).mono ?_;rintro r w4⟨rfl,k,rfl⟩;have hb:=below_drewN w3 k;replace HX:=hdd (HX.out.below hb);replace c0:=cbl c0 hb;replace c1:=cbl c1 hb;replace B2:=hdd (hbl B2.out hb);replace HB:=hdd (HB.out.trans (hb.mono HB.out.size));replace HS3:Hid (w2.heap.size<=(w3.drewN k).heap.size):=hdd (Nat.le_trans HS3.out hb.size);clear hb H1 HT;generalize w3.drewN k=w4 at*;go_wp2_with fail
   have hwr:IntKind.i64.wrap (e+(ctz (val xs):Int))=e+(ctz (val xs):Int):=wrap_i64 (by omega);have HRG:=hdd (lF (n:=ctz (val xs)) (HX.out.below ((beR _ _).drew (w:=w4))) (by omega))
   go_region_held3 (fun w'=>w'.cell? ⟨w.heap.size,0,none⟩=some (.bool ba)/\w'.cell? ⟨w.heap.size,1,none⟩=some (.slice A n c)) (go_keep)
    (first
    |(go_at_call 181
      refine HRG.out.mono ?_;rintro r w5⟨hb,v5,zs,rfl,hz,tz,hvz⟩;have HB5:Hid (Below w4.heap.size w4 w5):=hdd ((beR _ _).drew.trans hb);have g0:=cbl c0 HB5.out;have g1:=cbl c1 HB5.out;have HMK:=hdd (dR (b:=ba) hz);have HVZ:=hdd hvz;clear hb hz tz hvz)
    |(go_at_call 180
      refine HMK.out.mono ?_;rintro r w6⟨hb,v6,hz⟩;obtain⟨rfl,hz⟩:=hz;obtain⟨b6,A6,n6,c6,rfl⟩:=hz.shape;have g0':=cbl g0 hb;have g1':=cbl g1 hb;have HSZ:=hdd HB5.out.size;replace HB5:=hdd (HB5.out.trans (hb.mono HB5.out.size));have HF:=hdd hz;have B25:=hdd (hbl B2.out HB5.out);obtain⟨e0',e1',e2',e3',e4',e5'⟩:=cells3 B25.out;clear hb hz))
   have hm:mkDy x e=⟨sg ba (val zs),e+ctz (val xs)⟩:=by
    unfold mkDy;rw[if_neg hz,HVZ.out,HV.out,HBA.out]
   have HDD:Hid (DyP (fun b=>w4.heap.size<=b) _ (.agg #[.bool b6,.slice A6 n6 c6,.int .i64 (e+ctz (val xs))]) (mkDy x e)):=hdd (by
    rw[hm];exact⟨b6,A6,n6,c6,rfl,HF.out.weak fun b h _=>by have:=HSZ.out;omega⟩)
   obtain⟨HFF,hFF⟩:=aT (HB.out.trans (HB5.out.mono HB.out.size)) (g:=w.heap.size+1) (by omega) B25.out HDD.out (fun b hb=>by have:=HS3.out;have:=HS.out;omega);replace hFF:=hdd hFF;clear hm HDD;go_wp2;obtain⟨f0,f1,f2,-,-,-⟩:=cells3 hFF.out;refine bodyPost_ret (v:=.agg #[_,_,_]) (by simp[results,Tryz.results152,go_sem,f0,f1,f2];first|exact⟨rfl,rfl,rfl⟩|rfl) rfl ?_;exact HFF.out
theorem dL{d:Dy}(hx:DyP p w v d):
 Calls Tryz.prog 149 #[v] w (RetK w d.man.sign):=by
 obtain⟨b,A,n,c,rfl,h⟩:=hx;obtain⟨w1,hw1,hb1,hs1,b1⟩:=pro1 w (.cells #[Value.bool b,.slice A n c,.int .i64 d.exp] 225);have HB:=hdd hb1;have H1:=hdd (h.below hb1);obtain⟨c0,c1,c2,-,-,-⟩:=cells3 b1;clear h hb1 b1 hs1;go_enter Tryz.func149,Tryz.ntmps149
 go_wp2_with fail
 refine(rH H1.out).mono ?_;rintro r w3⟨rfl,hb⟩;have HF:Hid (RetK w d.man.sign (.returned (.int .i64 d.man.sign)) w3):=hdd ⟨rfl,HB.out.trans (hb.mono HB.out.size)⟩;clear hb;go_wp2;go_ret;exact HF.out
theorem acP{xs:List Nat}(h:OkL xs):bits (val xs)<=64*xs.length:=by
 rw[aK];have:=bU xs h;rwa[fM,<-Nat.pow_mul]at this
theorem sF{d:Dy}(hx:DyP p w v d)(he:-1000000000000<=d.exp/\d.exp<=1000000000000):
 Calls Tryz.prog 151 #[v] w (RetK w (topD d)):=by
 obtain⟨b,A,n,c,rfl,h⟩:=hx;obtain⟨w1,hw1,hb1,hs1,b1⟩:=pro1 w (.cells #[Value.bool b,.slice A n c,.int .i64 d.exp] 225);have HB:=hdd hb1;have H1:=hdd (h.below hb1);obtain⟨c0,c1,c2,-,-,-⟩:=cells3 b1;clear h hb1 b1 hs1;have HDP:Hid (DyP p w1 (.agg #[.bool b,.slice A n c,.int .i64 d.exp]) d):=hdd ⟨b,A,n,c,rfl,H1.out⟩;go_enter Tryz.func151,Tryz.ntmps151
 go_wp2_with fail
 refine(dL HDP.out).mono ?_;rintro r w3⟨rfl,hb⟩;replace H1:=hdd (H1.out.below hb);replace c0:=cbl c0 hb;replace c1:=cbl c1 hb;replace c2:=cbl c2 hb;replace HB:=hdd (HB.out.trans (hb.mono HB.out.size));clear hb HDP hw1;by_cases hz:d.man=0
 . have hs:(d.man.sign==0)=true:=by rw[hz];rfl
   have HF:Hid (RetK w (topD d) (.returned (.int .i64 0)) w3):=hdd ⟨by unfold topD;rw[if_pos hz],HB.out⟩;clear hz;go_wp2;go_ret;exact HF.out
 . have hs:(d.man.sign==0)=false:=beq_eq_false_iff_ne.2 (fun h=>hz (Int.sign_eq_zero_iff_zero.1 h))
   obtain⟨xs,hx1,-,hx3,-⟩:=H1.out.get;have HBT:=hdd (dM (hx1.below ((beR _ _).drew (w:=w3))));have hbl:bits (val xs)<=64*1099511627776:=Nat.le_trans (acP hx1.ok) (Nat.mul_le_mul_left _ hx1.len);have hwr:IntKind.i64.wrap ((bits (val xs):Int)+d.exp)=(bits (val xs):Int)+d.exp:=wrap_i64 (by omega);have HT:Hid (topD d=bits (val xs)+d.exp):=hdd (by unfold topD;rw[if_neg hz,hx3]);clear hx1 hx3 hz;go_wp2_with fail
   go_region_held3 (fun w'=>w'.cell? ⟨w.heap.size,0,none⟩=some (.bool b)/\w'.cell? ⟨w.heap.size,1,none⟩=some (.slice A n c)/\w'.cell? ⟨w.heap.size,2,none⟩=some (.int .i64 d.exp)) (go_keep)
    (first
    |(go_at_call 178
      refine HBT.out.mono ?_;rintro e w5⟨rfl,k,hk⟩;have hb5:Below w3.heap.size w3 w5:=by rw[hk];exact(beR _ _).drew.trans (below_drewN w3.drew k)
      have c0:=cbl c0 hb5;have c1:=cbl c1 hb5;have c2:=cbl c2 hb5;have HB5:=hdd (HB.out.trans (hb5.mono HB.out.size));clear hk hb5))
   have HF:Hid (RetK w (topD d) (.returned (.int .i64 (bits (val xs)+d.exp))) _):=hdd ⟨by rw[HT.out],HB5.out⟩;go_wp2;go_ret;exact HF.out
theorem xG{d:Dy}(hx:DyP p w v d)(hT:Tab w)(hL:bits d.man.natAbs<=1073741824)(he:-1000000000000<=d.exp/\d.exp<=1000000000000):
 Calls Tryz.prog 142 #[v] w (RetD w.heap.size w (notD d)):=by
 obtain⟨b,A,n,c,rfl,h⟩:=hx;obtain⟨w2,hw2,hb2,hs2,b1,b2⟩:=pro2 w (.cells #[Value.bool b,.slice A n c,.int .i64 d.exp] 225) (.cells #[Value.bool false,Value.slice none 0 0,.int .i64 0] 225);have HB:=hdd hb2;have H1:=hdd (h.below hb2);have HT:=hdd (hT.below hb2);have HS:=hdd hs2;have B2:=hdd b2;have HL:=hdd hL;obtain⟨c0,c1,c2,-,-,-⟩:=cells3 b1;clear h hb2 b1 hs2 b2 hT hL;go_enter Tryz.func142,Tryz.ntmps142
 go_wp2_with fail
 have HN:=hdd (am8 (H1.out.below ((beR _ _).drew (w:=w2))));have n1:w.heap.size+1≠w.heap.size:=by omega
 go_region_held3 (fun w'=>w'.cell? ⟨w.heap.size,0,none⟩=some (.bool b)/\w'.cell? ⟨w.heap.size,1,none⟩=some (.slice A n c)/\w'.cell? ⟨w.heap.size,2,none⟩=some (.int .i64 d.exp)) (go_keep)
  (first
  |(go_at_call 153
    refine HN.out.mono ?_;rintro r w5⟨hb,v5,rfl,hz⟩;have HB5:Hid (Below w2.heap.size w2 w5):=hdd ((beR _ _).drew.trans hb);have c0:=cbl c0 HB5.out;have c1:=cbl c1 HB5.out;have c2:=cbl c2 HB5.out;have HMK:=hdd (dP (e:=d.exp) hz (HT.out.below HB5.out) (by rw[Int.natAbs_neg];exact HL.out) he);clear hb hz)
  |(go_at_call 152
    refine HMK.out.mono ?_;rintro r w6⟨hb,v6,hz⟩;obtain⟨rfl,hz⟩:=hz;obtain⟨b6,A6,n6,c6,rfl,-⟩:=id hz;have c0:=cbl c0 hb;have c1:=cbl c1 hb;have c2:=cbl c2 hb;have HSZ:=hdd HB5.out.size;have HB5:=hdd (HB5.out.trans (hb.mono HB5.out.size));have HF:=hdd hz;have B25:=hdd (hbl B2.out HB5.out);obtain⟨e0,e1,e2,e3,e4,e5⟩:=cells3 B25.out;clear hb hz))
 obtain⟨HFF,hFF⟩:=aT (HB.out.trans (HB5.out.mono HB.out.size)) (g:=w.heap.size+1) (by omega) B25.out HF.out (fun b hb=>by have:=HS.out;have:=HSZ.out;omega);replace hFF:=hdd hFF;replace HFF:Hid (RetD w.heap.size w (notD d) _ _):=HFF;go_wp2;obtain⟨f0,f1,f2,-,-,-⟩:=cells3 hFF.out;refine bodyPost_ret (v:=.agg #[_,_,_]) (by simp[results,Tryz.results142,go_sem,f0,f1,f2];first|exact⟨rfl,rfl,rfl⟩|rfl) rfl ?_;exact HFF.out
end Go.Proofs.YtjaafolhfihegaaGreatDoor
