/- A part of the proof: contracts of functions and plain laws (FnC, SymE, MtB). -/
import Derived.Test.YtjaafolhfihegaaGreatDoorK18
import Derived.Test.YtjaafolhfihegaaGreatDoorK16
set_option linter.unusedVariables false
set_option linter.unusedSimpArgs false
set_option maxHeartbeats 25600000
set_option maxRecDepth 100000
namespace Go.Proofs.YtjaafolhfihegaaGreatDoor
open Go.RowKit Go.Maps
open List renaming setIfInBounds_toArray->bbV,map_cons->bbW,map_nil->bbX,set->bbY,mem_append->bbZ,all_eq_true->bb4,mem_map->bb5,nodup_cons->bb6,range->bb7
variable{ca cb cc:Nat}{T:TypeId}{a0 a1 a2 a3 a4 a5:Value}{w:World}
def RtB(s:Bs)(g N:Nat)(K:List (Ex×Nat))(l:List (Nat×Obj))(V:List Nat->Nat->Value)(es:List Ex)(O:List Nat->Obj)(e:Ending)(W':World):Prop:=
 ∃(ks:List Nat) (b:Nat),ks.length=es.length/\e=.returned (V ks b)/\Run s g N (es.zip ks++K) ((b,O ks)::l) W'
def FnBk(f:FuncId)(g d:Nat)(av:Array Value)(K0:List (Ex×Nat))(V:List Nat->Nat->Value)(es:List Ex)(O:List Nat->Obj):Prop:=
 ∀(s:Bs) (N:Nat) (K:List (Ex×Nat)) (l:List (Nat×Obj)) (W:World),Run s g N K l W->N+d<=20000->(∀p∈K0,p∈K)->Calls Tryz.prog f av W (RtB s g (N+d) K l V es O)
def vW(w:World)(B:Nat)(ns:List Nd)(g N:Nat)(V:List Nat->Nat->Value)(es:List Ex)(O:List Nat->Obj)(e:Ending)(W':World):Prop:=
 ∃(ks:List Nat) (b:Nat),ks.length=es.length/\e=.returned (V ks b)/\∃l',Run ⟨w,B,ns⟩ g N (es.zip ks) ((b,O ks)::l') W'
section
variable{f:FuncId}{g d:Nat}{av:Array Value}{K0:List (Ex×Nat)}{V:List Nat->Nat->Value}{es:List Ex}{O:List Nat->Obj}
theorem FnBk.of (h:∀w B ns N,Run ⟨w,B,ns⟩ g N K0 [] w->N+d<=20000->Calls Tryz.prog f av w (vW w B ns g (N+d) V es O)):FnBk f g d av K0 V es O:=by
 intro s N K l W hR hN hK;obtain⟨ns',hs,hI⟩:=hR;refine(h W s.B ns' N (Run.enter hs.st (fun p hp=>hI p (hK p hp))) hN).mono ?_;rintro e W'⟨ks,b,h1,rfl,l',ns'',hs2,hI2⟩;have hst:=hs.step hs2.st hs2.pre hs2.grew.2.2;obtain⟨k1,k2,k3⟩:=hs2.kept _ (List.mem_cons_self ..);refine⟨ks,b,h1,rfl,ns'',⟨hst.grew,fun p hp=> ?_,hst.hw,?_⟩,fun p hp=> ?_⟩
 . rcases List.mem_cons.1 hp with rfl|hp
   . exact⟨k1,k2,Nat.le_trans hs.grew.2.2.size k3⟩
   . exact hst.kept p hp
 . rw[bbW,bb6]
   refine⟨fun hm=> ?_,hst.nodup⟩;obtain⟨p,hp,e⟩:=bb5.1 hm;have:=hs.lt hp;have k3:W.heap.size<=b:=k3;have e:p.1=b:=e;omega
 . rcases bbZ.1 hp with hp|hp
   . exact hI2 p hp
   . exact(hI p hp).mono hs2.pre
end
section
variable{S:Spec Ex}{w0:Bs}{g c0 i d:Nat}{f:FuncId}{args:(Nat->Nat)->Array Value}{ix ts:List Nat}{V:List Nat->Nat->Value}{es:List Ex}{O:List Nat->Obj}{B:Blk}
abbrev al2(S:Spec Ex)(w0:Bs)(g c0 i:Nat)(B:Blk)(f:FuncId)(args:(Nat->Nat)->Array Value):Prop:=
 ∀(lst:Nat->Bool) (ν:Nat->Nat) (c:Nat) (w:World),(∀d∈S.D i,lst d=true)->c+S.cost i<=c0+S.total->(runW w0 g).G c (S.K lst ν) (S.L lst ν) w->
    Calls Tryz.prog f (args ν) w (fun e w'=>∃ν',(∀n,S.cr n≠some i->ν' n=ν n)/\e=.returned ((S.val i).den ν')/\(∀p∈S.L lst ν,p.1≠ν' B.b)/\(runW w0 g).G (c+S.cost i) (S.newK i ν'++S.K lst ν) ((ν' B.b,.cells (B.init.map (SC.den ν')).toArray B.T)::S.L lst ν) w')
theorem c_fb(hM:c0+S.total<=20000)(F:∀ν,FnBk f g d (args ν) ((ix.map fun j=>S.know.getD j (0,.leaf 0)).map fun q=>(q.2,ν q.1)) V es O)
 (hix:(ix.all fun j=>decide (j<S.know.length)&&S.pre i (S.know.getD j (0,.leaf 0)).1)=true:=by kernel_rfl) (hc:S.cost i=d:=by rfl) (hv:∀ν,(S.val i).den ν=V (ts.map ν) (ν B.b):=by intro _;rfl) (hO:∀ν,(.cells (B.init.map (SC.den ν)).toArray B.T:Obj)=O (ts.map ν):=by intro _;rfl)
 (ht:((B.b::ts).all fun t=>S.cr t==some i)=true:=by kernel_rfl) (hk:S.made i=ts.zip es:=by rfl) (hn:decide (B.b::ts).Nodup=true:=by kernel_rfl) (hl:ts.length=es.length:=by rfl):al2 S w0 g c0 i B f args:=by
 intro lst ν c w hD hcl hG;rw[hc]at hcl;refine(F ν w0 c _ _ w hG (by omega) fun p hp=> ?_).mono ?_
 . obtain⟨q,h1,rfl⟩:=bb5.1 hp
   obtain⟨j,h2,rfl⟩:=bb5.1 h1;have h3:=bb4.1 hix j h2;rw[Bool.and_eq_true,decide_eq_true_eq]at h3;refine fV ?_ (pre_on h3.2 hD);rw[List.getD_eq_getElem?_getD,List.getElem?_eq_getElem h3.1];exact List.getElem_mem h3.1
 . rintro e w'⟨ks,b,k1,rfl,hR⟩
   have hm:=nI (B.b::ts) (b::ks) ν (of_decide_eq_true hn) (by simp;omega);generalize hμ:letters (B.b::ts) (b::ks) ν=μ at hm;rw[bbW,List.cons.injEq]at hm;obtain⟨m1,m2⟩:=hm;refine⟨μ,fun n h=> ?_,by rw[hv,m1,m2],fun p hp=> ?_,?_⟩
   . rw[<-hμ]
     exact nH _ _ ν n fun hin=>h (by have:=bb4.1 ht n hin;simpa using this)
   . rw[m1]
     have hnd:(((b,O ks)::S.L lst ν).map (·.1)).Nodup:=Run.nodup hR;rw[bbW,bb6]at hnd;exact fun e=>hnd.1 (bb5.2 ⟨p,hp,e⟩)
   . have hb:((μ B.b,.cells (B.init.map (SC.den μ)).toArray B.T):Nat×Obj)=(b,O ks):=by rw[hO,m1,m2]
     rw[hb,hc];refine Run.few hR fun p hp=> ?_;rcases bbZ.1 hp with h|h
     . obtain⟨q,h2,rfl⟩:=nD h
       rw[hk]at h2;have:=nJ (h:=μ) h2;rw[m2]at this;exact bbZ.2 (Or.inl this)
     . exact bbZ.2 (Or.inr h)
end
def AllN:Nat->(List Nat->Prop)->Prop
 |0,P=>P []
 |m+1,P=>∀a:Nat,AllN m fun l=>P (a::l)
theorem AllN.at:∀{m:Nat} {P:List Nat->Prop},AllN m P->∀l:List Nat,l.length=m->P l
 |0,_,h,[],_=>h
 |_+1,_,h,a::l,e=>(h a).at l (Nat.succ.inj e)
def nuU:List Nat->(Nat->Nat)->Nat->Nat
 |[],ν,n=>ν n
 |a::_,_,0=>a
 |_::l,ν,n+1=>nuU l ν n
def nuT:List Nat->List Nat->(Nat->Nat)->Nat->Nat
 |[],t,ν,n=>nuU t ν n
 |a::_,_,_,0=>a
 |_::l,t,ν,n+1=>nuT l t ν n
section
variable{a n:Nat}{l t:List Nat}{ν:Nat->Nat}
theorem nuU0:nuU (a::t) ν 0=a:=rfl
theorem nuU1:nuU (a::t) ν (n+1)=nuU t ν n:=rfl
theorem nuTn:nuT [] t ν n=nuU t ν n:=rfl
theorem nuT0:nuT (a::l) t ν 0=a:=rfl
theorem nuT1:nuT (a::l) t ν (n+1)=nuT l t ν n:=rfl
end
def yD:Nat->(Nat->Nat)->List Nat
 |0,_=>[]
 |m+1,ν=>ν 0::yD m fun n=>ν (n+1)
theorem aeF:∀(m:Nat) (ν:Nat->Nat),(yD m ν).length=m
 |0,_=>rfl
 |m+1,ν=>congrArg (· +1) (aeF m fun n=>ν (n+1))
theorem ajI:∀(m:Nat) (ν:Nat->Nat) (n:Nat),nuU (yD m ν) (fun k=>ν (k+m)) n=ν n
 |0,_,_=>rfl
 |_+1,_,0=>rfl
 |m+1,ν,n+1=>ajI m (fun k=>ν (k+1)) n
theorem ajJ{m:Nat}:∀(l:List Nat) (ν:Nat->Nat),(∀n,n<l.length->ν n=l.getD n 0)->∀n,nuT l (yD m fun k=>ν (k+l.length)) (fun k=>ν (k+m+l.length)) n=ν n
 |[],ν,_,n=>ajI m ν n
 |a::l,ν,h,0=>(h 0 (Nat.succ_pos _)).symm
 |a::l,ν,h,n+1=>ajJ (m:=m) l (fun k=>ν (k+1)) (fun k hk=>h (k+1) (Nat.succ_lt_succ hk)) n
abbrev mkS(ops:Array Oper)(k:Nat)(vals:List SV)(cr:List Nat)(know:List (Nat×Ex))(blocks:List Blk)(cost:List Nat)(D:List (List Nat))(outs:List (Nat×SV)):Spec Ex:=
 ⟨ops,fun i=>vals.getD i noS,fun n=>(List.replicate k none++cr.map some).getD n none,know,blocks,fun i=>cost.getD i 0,fun i=>D.getD i [],outs⟩
abbrev rgn(n:Nat):List Nat:=bb7 n
def fsOf:List Nat->List SV->(Nat->Nat)->List (Nat×Value)
 |0::ds,_::vs,ν=>fsOf ds vs ν
 |(d+1)::ds,v::vs,ν=>(d,v.den ν)::fsOf ds vs ν
 |_,_,_=>[]
section
variable{d:Nat}{ds:List Nat}{v:SV}{vs:List SV}{ν:Nat->Nat}{a:Act}{x:Value}{l:List (Nat×Value)}{b:SW}{lw:List SW}{c:SC}{lc:List SC}{n o:Nat}
theorem fs0:fsOf (0::ds) (v::vs) ν=fsOf ds vs ν:=rfl
theorem fs1:fsOf ((d+1)::ds) (v::vs) ν=(d,v.den ν)::fsOf ds vs ν:=rfl
theorem fsn:fsOf [] [] ν=[]:=rfl
theorem dSw:(SV.w b).den ν=b.den ν:=rfl
theorem dSt:(SV.tup lw).den ν=.tuple (lw.map (SW.den ν)).toArray:=rfl
theorem dWc:(SW.c c).den ν=c.den ν:=rfl
theorem dWa:(SW.agg lc).den ν=.agg (lc.map (SC.den ν)).toArray:=rfl
theorem dv:(SC.v x).den ν=x:=rfl
theorem di:(SC.id n).den ν=.int .i64 ((ν n:Nat):Int):=rfl
theorem dp:(SC.ptr n o).den ν=.pointer (some ⟨ν n,o,none⟩):=rfl
theorem ds':(SC.sl n o).den ν=.slice (some ⟨ν n,0,none⟩) o o:=rfl
end
theorem Spec.go {ops:Array Oper}{w0:Bs}{g c0:Nat}{a0:Act}{Q:Exit->Act->World->Prop}{id:Nat}{draw:Bool}{K:List (Ex×Nat)}{l:List (Nat×Obj)}(vals:List SV)(cr:List Nat)(know:List (Nat×Ex))(blocks:List Blk)(cost:List Nat)(D:List (List Nat))(outs:List (Nat×SV))(ds old:List Nat)(n c1:Nat)(mK ml:List Bool)(hG:Run w0 g c0 K l w)
 (hok:(mkS ops old.length vals cr know blocks cost D outs).Base a0 (fun n=>old.getD n 0)->c0+(mkS ops old.length vals cr know blocks cost D outs).total<=20000->∀i,i<n->(mkS ops old.length vals cr know blocks cost D outs).Ok (runW w0 g) Tryz.prog Q c0 a0 (fun n=>old.getD n 0) i)
 (hfin:AllN cr.length fun t=>∀(ν:Nat->Nat) (w:World),Run w0 g c1 ((mkS ops old.length vals cr know blocks cost D outs).K (mkS ops old.length vals cr know blocks cost D outs).full (nuT old t ν)) ((mkS ops old.length vals cr know blocks cost D outs).L (mkS ops old.length vals cr know blocks cost D outs).full (nuT old t ν)) w->Q .normal (putL a0 (fsOf ds vals (nuT old t ν))) w)
 (hb:(mkS ops old.length vals cr know blocks cost D outs).Base a0 (fun n=>old.getD n 0):=by exact⟨Spec.wf_of (by kernel_rfl),adA (by kernel_rfl),uH (by repeat (first|exact trivial|refine And.intro rfl ?_))⟩) (hM:c1<=20000:=by omega) (ho:((bb7 old.length).all fun n=>(mkS ops old.length vals cr know blocks cost D outs).cr n==none)=true:=by kernel_rfl)
 (hK:(mkS ops old.length vals cr know blocks cost D outs).K (fun _=>false) (fun n=>old.getD n 0)=selB K mK:=by kernel_rfl) (hL:(mkS ops old.length vals cr know blocks cost D outs).L (fun _=>false) (fun n=>old.getD n 0)=selB l ml:=by kernel_rfl) (hz:ops.size=n:=by rfl) (hc1:c0+(mkS ops old.length vals cr know blocks cost D outs).total=c1:=by kernel_rfl) (hf:∀ν,(mkS ops old.length vals cr know blocks cost D outs).fins ν=fsOf ds vals ν:=by intro ν;kernel_rfl)
 (hm:Tryz.prog.follows .mixedOrders=true:=by rfl):(Code.region id ops draw).wp Tryz.prog Q a0 w:=
 Spec.run (S:=mkS ops old.length vals cr know blocks cost D outs) (W:=runW w0 g) n c1 mK ml hb hG (Run.nodup hG) hM hok (fun ν w hν hw=>by
  have e:nuT old (yD cr.length fun k=>ν (k+old.length)) (fun k=>ν (k+cr.length+old.length))=ν:=funext fun n=>ajJ old ν (fun k hk=>hν k (by
   have:=bb4.1 ho k (List.mem_range.2 hk);simpa using this)) n
  have h:=hfin.at (yD cr.length fun k=>ν (k+old.length)) (aeF _ _) (fun k=>ν (k+cr.length+old.length)) w;rw[e]at h;exact h hw) hK hL hz hc1 hf hm
abbrev nK(a b c:Nat):Ex:=.sub (.add (.mul (.leaf a) (.leaf a)) (.mul (.leaf b) (.leaf b))) (.leaf c)
abbrev axU(a d:Nat):Ex:=.mul (.leaf 4611686018427387904) (.sub (.leaf d) (.leaf a))
abbrev axW(a b c d e f:Nat):Ex:=.sub (nK d e f) (nK a b c)
theorem ajK{g:Nat}{a6 a7:Value}(h:w.heap[g]? =some (.cells #[a0,a1,a2,a3,a4,a5,a6,a7] T (0,0))):
 w.cell? ⟨g,0,none⟩=some a0/\w.cell? ⟨g,1,none⟩=some a1/\w.cell? ⟨g,2,none⟩=some a2/\w.cell? ⟨g,3,none⟩=some a3/\w.cell? ⟨g,4,none⟩=some a4/\w.cell? ⟨g,5,none⟩=some a5/\w.cell? ⟨g,6,none⟩=some a6/\w.cell? ⟨g,7,none⟩=some a7:=by
 refine⟨?_,?_,?_,?_,?_,?_,?_,?_⟩<;>simp[World.cell?,h]
theorem cs6{g:Nat}(h:w.heap[g]? =some (.cells #[a0,a1,a2,a3,a4,a5] T (0,0))):
 w.cell? ⟨g,0,none⟩=some a0/\w.cell? ⟨g,1,none⟩=some a1/\w.cell? ⟨g,2,none⟩=some a2/\w.cell? ⟨g,3,none⟩=some a3/\w.cell? ⟨g,4,none⟩=some a4/\w.cell? ⟨g,5,none⟩=some a5:=by
 refine⟨?_,?_,?_,?_,?_,?_⟩<;>simp[World.cell?,h]
theorem kQ{g:Nat}(hca:FlOk ca)(hcb:FlOk cb):FnOk 107 g 2 #[.pointer (some ⟨g,0,none⟩),curV 2 ca cb cc] [] (fun ks=>iK g (ks.getD 0 0) (ks.getD 1 0)) [.leaf ca,.leaf cb]:=FnOk.of fun w B ns N hR hN=>by
 have R1:=hdd hR;clear hR;go_enter Tryz.func107,Tryz.ntmps107
 go_upto_region 0 with fail
 refine Spec.run (S:=⟨_,fun i=>([.w (.c (.ptr 0 0)),.w (.c (.ptr 1 0))]:List SV).getD i noS,fun n=>([some 0,some 1]:List (Option Nat)).getD n none,
  [],[⟨0,29,[.v (.int .i64 2),.v (.float .f64 ca),.v (.float .f64 cb),.v (.float .f64 cc)],none⟩,⟨1,33,[.v (.pointer none),.v (.int .i64 0),.v (.pointer none),.v (.int .i64 0)],none⟩],
  fun i=>([0,0]:List Nat).getD i 0,fun i=>([[],[]]:List (List Nat)).getD i [],[(1,.w (.agg ([.v (.int .i64 2),.v (.float .f64 ca),.v (.float .f64 cb),.v (.float .f64 cc)])))]⟩)
  (W:=runW ⟨w,B,ns⟩ g) (ν0:=fun n=>([]:List Nat).getD n 0) (c0:=N)
  (fs:=fun ν=>[(3,.pointer (some ⟨(ν 0),0,none⟩)),(4,.pointer (some ⟨(ν 1),0,none⟩))]) 2 N [] []
  ⟨Spec.wf_of (by kernel_rfl),adA (by kernel_rfl),uH ⟨rfl,trivial⟩⟩ R1.out (Run.nodup R1.out) (by omega)
  (fun b hM=>aA (aA aL
    (aR b m0))
    (aR b m1)) ?_
 intro ν W2 hν hR;replace hR:Run ⟨w,B,ns⟩ g N [] [((ν 0),.cells #[(.int .i64 2),(.float .f64 ca),(.float .f64 cb),(.float .f64 cc)] 29),((ν 1),.cells #[.pointer none,.int .i64 0,.pointer none,.int .i64 0] 33)] W2:=hR;clear hν;generalize ν 0=b1 at hR|-;generalize ν 1=b2 at hR|-;have R2:=hdd hR;clear hR R1;simp only[putL,bbV,bbY]
 go_upto_region 1 with fail
 refine Spec.run (S:=⟨_,fun i=>([.w (.c (.v (.pointer (some ⟨g,0,none⟩)))),.w (.c (.ptr 0 1)),.w (.c (.v (.float .f64 ca))),.w (.c (.ptr 0 2)),.w (.c (.v (.float .f64 cb))),iL g 2 3,noS]:List SV).getD i noS,fun n=>([none,none,some 5,some 5]:List (Option Nat)).getD n none,
  [(2,(.leaf ca)),(3,(.leaf cb))],[⟨0,29,[.v (.int .i64 2),.v (.float .f64 ca),.v (.float .f64 cb),.v (.float .f64 cc)],none⟩,⟨1,33,[.v (.pointer none),.v (.int .i64 0),.v (.pointer none),.v (.int .i64 0)],some (6,dL g 2 3)⟩],
  fun i=>([0,0,0,0,0,2,0]:List Nat).getD i 0,fun i=>([[],[],[1],[],[3],[0,1,2,3,4],[0,1,2,3,4,5]]:List (List Nat)).getD i [],[(0,.w (.c (.v (.pointer (some ⟨g,0,none⟩))))),(3,.w (.c (.ptr 0 0))),(4,.w (.c (.ptr 1 0)))]⟩)
  (W:=runW ⟨w,B,ns⟩ g) (ν0:=fun n=>([b1,b2]:List Nat).getD n 0) (c0:=N)
  (fs:=fun ν=>[(5,.pointer (some ⟨g,0,none⟩)),(6,.pointer (some ⟨(ν 0),1,none⟩)),(7,(.float .f64 ca)),(8,.pointer (some ⟨(ν 0),2,none⟩)),(9,(.float .f64 cb)),(10,iK g (ν 2) (ν 3))]) 7 (N+2) [] []
  ⟨Spec.wf_of (by kernel_rfl),adA (by kernel_rfl),uH ⟨rfl,rfl,rfl,trivial⟩⟩ R2.out (Run.nodup R2.out) (by omega)
  (fun b hM=>aA (aA (aA (aA (aA (aA (aA aL
    (aB b))
    (aB b))
    (fQ b m0))
    (aB b))
    (fQ b m0))
    (aJ b (c_at hM hca.1 hcb.1 hca.2 hcb.2 rfl rfl rfl rfl (by decide) rfl)))
    (bZ b 4 m1)) ?_
 intro ν W3 hν hR;replace hR:Run ⟨w,B,ns⟩ g (N+2) [((.leaf ca),ν 2),((.leaf cb),ν 3)] [((ν 0),.cells #[(.int .i64 2),(.float .f64 ca),(.float .f64 cb),(.float .f64 cc)] 29),((ν 1),jK g (ν 2) (ν 3))] W3:=hR;have e0:ν 0=b1:=hν 0 rfl;have e1:ν 1=b2:=hν 1 rfl;simp only[e0,e1]at hR|-;clear hν e0 e1;generalize ν 2=n3 at hR|-;generalize ν 3=n4 at hR|-;have R3:=hdd hR;clear hR R2;simp only[putL,bbV,bbY];go_wp2;obtain⟨x0,x1,x2,x3⟩:=aO (R3.out.at m1);refine bodyPost_ret (v:=.agg #[_,_,_,_]) (by simp[results,Tryz.results107,go_sem,x0,x1,x2,x3];first|exact⟨rfl,rfl,rfl,rfl⟩|rfl) rfl ?_;exact⟨[n3,n4],rfl,rfl,_,R3.out.few (bY [0,1])⟩
theorem yE{g:Nat}(hca:FlOk ca)(hcb:FlOk cb)(hcc:FlOk cc):FnOk 127 g 7 #[.pointer (some ⟨g,0,none⟩),curV 2 ca cb cc] [] (fun ks=>numV g (ks.getD 0 0)) [nK ca cb cc]:=FnOk.of fun w B ns N hR hN=>by
 have R1:=hdd hR;clear hR;go_enter Tryz.func127,Tryz.ntmps127
 go_upto_region 0 with fail
 refine Spec.go [.w (.c (.ptr 0 0)),.w (.c (.ptr 1 0))] [0,1]
  [] [⟨0,29,[.v (.int .i64 2),.v (.float .f64 ca),.v (.float .f64 cb),.v (.float .f64 cc)],none⟩,⟨1,31,[.v (.pointer none),.v (.int .i64 0)],none⟩]
  [0,0] [[],[]] [(1,.w (.agg ([.v (.int .i64 2),.v (.float .f64 ca),.v (.float .f64 cb),.v (.float .f64 cc)])))]
  [4,5] [] 2 N [] [] R1.out
  (fun b hM=>aA (aA aL
    (aR b m0))
    (aR b m1)) ?_
 intro b1 b2 ν W2 hR;have R2:=hdd hR;clear hR R1;simp only[putL,bbV,bbY,fs0,fs1,fsn,dSw,dSt,dWc,dWa,dv,di,dp,ds',bbW,bbX,nuTn,nuT0,nuT1,nuU0,nuU1]
 go_upto_region 1 with fail
 refine Spec.go [.w (.c (.v (.pointer (some ⟨g,0,none⟩)))),.w (.agg ([.v (.int .i64 2),.v (.float .f64 ca),.v (.float .f64 cb),.v (.float .f64 cc)])),iL g 2 3,.w (.c (.ptr 4 0)),noS] [2,2,3]
  [(2,(.leaf ca)),(3,(.leaf cb))] [⟨0,29,[.v (.int .i64 2),.v (.float .f64 ca),.v (.float .f64 cb),.v (.float .f64 cc)],none⟩,⟨1,31,[.v (.pointer none),.v (.int .i64 0)],none⟩,⟨4,33,[.v (.pointer none),.v (.int .i64 0),.v (.pointer none),.v (.int .i64 0)],some (4,dL g 2 3)⟩]
  [0,0,2,0,0] [[],[],[0,1],[],rgn 4] [(0,.w (.c (.v (.pointer (some ⟨g,0,none⟩))))),(3,.w (.c (.ptr 0 0)))]
  [7,8,9,6,0] [b1,b2] 5 (N+2) [] [] R2.out
  (fun b hM=>aA (aA (aA (aA (aA aL
    (aB b))
    (aF b 4 m0))
    (aJ b (c_fn (ix:=[]) (ts:=[2,3]) hM (fun ν=>kQ (ca:=ca) (cb:=cb) (cc:=cc) ⟨hca.1,hca.2⟩ ⟨hcb.1,hcb.2⟩))))
    (aR b m2))
    (bZ b 4 m2)) ?_
 intro n3 n4 b5 ν W3 hR;have R3:=hdd hR;clear hR R2;simp only[putL,bbV,bbY,fs0,fs1,fsn,dSw,dSt,dWc,dWa,dv,di,dp,ds',bbW,bbX,nuTn,nuT0,nuT1,nuU0,nuU1]
 go_upto_region 2 with fail
 refine Spec.go [.w (.c (.ptr 4 0)),numS g 2,.w (.c (.ptr 4 0)),numS g 2,.w (.c (.sl 5 1)),numS g 6,.w (.c (.ptr 4 2)),numS g 3,.w (.c (.ptr 4 2)),numS g 3,.w (.c (.sl 7 1)),numS g 8,.w (.c (.sl 9 1)),numS g 10,.w (.c (.v (.pointer (some ⟨g,0,none⟩)))),.w (.c (.ptr 0 3)),.w (.c (.v (.float .f64 cc))),numS g 11,numS g 12,noS] [4,5,10,11,12,13,17,18]
  [(2,(.leaf ca)),(3,(.leaf cb)),(6,(.mul (.leaf ca) (.leaf ca))),(8,(.mul (.leaf cb) (.leaf cb))),(10,(.add (.mul (.leaf ca) (.leaf ca)) (.mul (.leaf cb) (.leaf cb)))),(11,(.leaf cc)),(12,(.sub (.add (.mul (.leaf ca) (.leaf ca)) (.mul (.leaf cb) (.leaf cb))) (.leaf cc)))] [⟨0,29,[.v (.int .i64 2),.v (.float .f64 ca),.v (.float .f64 cb),.v (.float .f64 cc)],none⟩,⟨1,31,[.v (.pointer none),.v (.int .i64 0)],some (19,numC g 12)⟩,⟨4,33,dL g 2 3,none⟩,⟨5,31,numC g 2,none⟩,⟨7,31,numC g 3,none⟩,⟨9,31,numC g 8,none⟩]
  [0,0,0,0,0,1,0,0,0,0,0,1,0,1,0,0,0,1,1,0] [[],[0],[],[2],[2,3],rgn 5,[],[6],[],[8],[8,9],[6,7,8,9,10],[6,7,8,9,10,11],rgn 13,[],[],[15],[14,15,16],rgn 18,rgn 19] [(5,.w (.c (.ptr 4 0))),(0,.w (.c (.v (.pointer (some ⟨g,0,none⟩))))),(3,.w (.c (.ptr 0 0))),(4,.w (.c (.ptr 1 0)))]
  [10,11,12,13,14,15,16,17,18,19,20,21,22,23,24,25,26,27,28,0] [b1,b2,n3,n4,b5] 20 (N+7) [] [] R3.out
  (fun b hM=>aA (aA (aA (aA (aA (aA (aA (aA (aA (aA (aA (aA (aA (aA (aA (aA (aA (aA (aA (aA aL
    (aB b))
    (aF b 2 m2))
    (aB b))
    (aF b 2 m2))
    (bQ b m3))
    (aJ b (jL hM m0 m0 rfl rfl m3 rfl rfl rfl rfl rfl rfl rfl rfl)))
    (aB b))
    (aF b 2 m2))
    (aB b))
    (aF b 2 m2))
    (bQ b m4))
    (aJ b (jL hM m1 m1 rfl rfl m4 rfl rfl rfl rfl rfl rfl rfl rfl)))
    (bQ b m5))
    (aJ b (oP hM m2 m3 rfl rfl m5 rfl rfl rfl rfl rfl rfl rfl rfl)))
    (aB b))
    (aB b))
    (fQ b m0))
    (aJ b (c_of hM hcc.1 hcc.2 rfl rfl rfl rfl)))
    (aJ b (qP hM m4 m5 rfl rfl rfl rfl rfl rfl)))
    (bZ b 2 m1)) ?_
 intro b6 n7 b8 n9 b10 n11 n12 n13 ν W4 hR;replace hR:Run ⟨w,B,ns⟩ g (N+7) [((.leaf ca),n3),((.leaf cb),n4),((.mul (.leaf ca) (.leaf ca)),n7),((.mul (.leaf cb) (.leaf cb)),n9),((.add (.mul (.leaf ca) (.leaf ca)) (.mul (.leaf cb) (.leaf cb))),n11),((.leaf cc),n12),((.sub (.add (.mul (.leaf ca) (.leaf ca)) (.mul (.leaf cb) (.leaf cb))) (.leaf cc)),n13)] [(b1,.cells #[(.int .i64 2),(.float .f64 ca),(.float .f64 cb),(.float .f64 cc)] 29),(b2,numO g n13),(b5,jK g n3 n4),(b6,numO g n3),(b8,numO g n4),(b10,numO g n9)] W4:=hR;have R4:=hdd hR;clear hR R3;simp only[putL,bbV,bbY,fs0,fs1,fsn,dSw,dSt,dWc,dWa,dv,di,dp,ds',bbW,bbX,nuTn,nuT0,nuT1,nuU0,nuU1];go_wp2;obtain⟨x0,x1,-,-⟩:=aD (R4.out.at m1);refine bodyPost_ret (v:=.agg #[_,_]) (by simp[results,Tryz.results127,go_sem,x0,x1];first|exact⟨rfl,rfl⟩|rfl) rfl ?_;exact⟨[n13],rfl,rfl,_,R4.out.few (bY [6])⟩
theorem af7{g da db dc:Nat}(h1:bN ca cb cc)(h2:bN da db dc):FnOk 109 g 24 #[.pointer (some ⟨g,0,none⟩),curV 2 ca cb cc,curV 2 da db dc] [] (fun ks=>.tuple #[.agg #[.pointer (some ⟨g,0,none⟩),.int .i64 ((ks.getD 0 0:Nat):Int),.pointer (some ⟨g,0,none⟩),.int .i64 ((ks.getD 1 0:Nat):Int),.pointer (some ⟨g,0,none⟩),.int .i64 ((ks.getD 2 0:Nat):Int)],.nilIface]) [axU ca da,axU cb db,axW ca cb cc da db dc]:=FnOk.of fun w B ns N hR hN=>by
 have R1:=hdd hR;clear hR;go_enter Tryz.func109,Tryz.ntmps109
 go_upto_region 0 with fail
 refine Spec.go [.w (.c (.ptr 0 0)),.w (.c (.ptr 1 0)),.w (.c (.ptr 2 0)),.w (.c (.v Value.nilIface))] [0,1,2]
  [] [⟨0,29,[.v (.int .i64 2),.v (.float .f64 ca),.v (.float .f64 cb),.v (.float .f64 cc)],none⟩,⟨1,29,[.v (.int .i64 2),.v (.float .f64 da),.v (.float .f64 db),.v (.float .f64 dc)],none⟩,⟨2,168,[.v (.pointer none),.v (.int .i64 0),.v (.pointer none),.v (.int .i64 0),.v (.pointer none),.v (.int .i64 0)],none⟩]
  [0,0,0,0] [[],[],[],[]] [(1,.w (.agg ([.v (.int .i64 2),.v (.float .f64 ca),.v (.float .f64 cb),.v (.float .f64 cc)]))),(2,.w (.agg ([.v (.int .i64 2),.v (.float .f64 da),.v (.float .f64 db),.v (.float .f64 dc)])))]
  [5,6,7,8] [] 4 N [] [] R1.out
  (fun b hM=>aA (aA (aA (aA aL
    (aR b m0))
    (aR b m1))
    (aR b m2))
    (aB b)) ?_
 intro b1 b2 b3 ν W2 hR;have R2:=hdd hR;clear hR R1;simp only[putL,bbV,bbY,fs0,fs1,fsn,dSw,dSt,dWc,dWa,dv,di,dp,ds',bbW,bbX,nuTn,nuT0,nuT1,nuU0,nuU1]
 go_upto_region 1 with fail
 refine Spec.go [.w (.agg ([.v (.int .i64 2),.v (.float .f64 ca),.v (.float .f64 cb),.v (.float .f64 cc)])),.w (.c (.v .nilIface)),.w (.c (.v .nilIface))] []
  [] [⟨0,29,[.v (.int .i64 2),.v (.float .f64 ca),.v (.float .f64 cb),.v (.float .f64 cc)],none⟩,⟨1,29,[.v (.int .i64 2),.v (.float .f64 da),.v (.float .f64 db),.v (.float .f64 dc)],none⟩,⟨2,168,[.v (.pointer none),.v (.int .i64 0),.v (.pointer none),.v (.int .i64 0),.v (.pointer none),.v (.int .i64 0)],none⟩]
  [0,0,0] [[],[0],[0,1]] [(4,.w (.c (.ptr 0 0)))]
  [16,17,9] [b1,b2,b3] 3 N [] [] R2.out
  (fun b hM=>aA (aA (aA aL
    (aF b 4 m0))
    (aJ b (nE hM rfl rfl rfl (fun w=>zL h1.1 h1.2.1 h1.2.2.1 h1.2.2.2))))
    (aB b)) ?_
 intro ν W3 hR;have R3:=hdd hR;clear hR R2;simp only[putL,bbV,bbY,fs0,fs1,fsn,dSw,dSt,dWc,dWa,dv,di,dp,ds',bbW,bbX,nuTn,nuT0,nuT1,nuU0,nuU1]
 go_upto_region 4 with fail
 refine Spec.go [.w (.agg ([.v (.int .i64 2),.v (.float .f64 da),.v (.float .f64 db),.v (.float .f64 dc)])),.w (.c (.v .nilIface)),.w (.c (.v .nilIface))] []
  [] [⟨0,29,[.v (.int .i64 2),.v (.float .f64 ca),.v (.float .f64 cb),.v (.float .f64 cc)],none⟩,⟨1,29,[.v (.int .i64 2),.v (.float .f64 da),.v (.float .f64 db),.v (.float .f64 dc)],none⟩,⟨2,168,[.v (.pointer none),.v (.int .i64 0),.v (.pointer none),.v (.int .i64 0),.v (.pointer none),.v (.int .i64 0)],none⟩]
  [0,0,0] [[],[0],[0,1]] [(5,.w (.c (.ptr 1 0)))]
  [22,23,10] [b1,b2,b3] 3 N [] [] R3.out
  (fun b hM=>aA (aA (aA aL
    (aF b 4 m1))
    (aJ b (nE hM rfl rfl rfl (fun w=>zL h2.1 h2.2.1 h2.2.2.1 h2.2.2.2))))
    (aB b)) ?_
 intro ν W4 hR;have R4:=hdd hR;clear hR R3;simp only[putL,bbV,bbY,fs0,fs1,fsn,dSw,dSt,dWc,dWa,dv,di,dp,ds',bbW,bbX,nuTn,nuT0,nuT1,nuU0,nuU1]
 go_upto_region 7 with fail
 refine Spec.go [.w (.c (.v (.pointer (some ⟨g,0,none⟩)))),numS g 3,.w (.c (.ptr 4 0)),noS] [1,2]
  [(3,(.leaf 4611686018427387904))] [⟨0,29,[.v (.int .i64 2),.v (.float .f64 ca),.v (.float .f64 cb),.v (.float .f64 cc)],none⟩,⟨1,29,[.v (.int .i64 2),.v (.float .f64 da),.v (.float .f64 db),.v (.float .f64 dc)],none⟩,⟨2,168,[.v (.pointer none),.v (.int .i64 0),.v (.pointer none),.v (.int .i64 0),.v (.pointer none),.v (.int .i64 0)],none⟩,⟨4,31,[.v (.pointer none),.v (.int .i64 0)],some (3,numC g 3)⟩]
  [0,1,0,0] [[],[0],[],[0,1,2]] [(0,.w (.c (.v (.pointer (some ⟨g,0,none⟩)))))]
  [28,29,11,0] [b1,b2,b3] 4 (N+1) [] [] R4.out
  (fun b hM=>aA (aA (aA (aA aL
    (aB b))
    (aJ b (c_of hM (by decide) (by decide) rfl rfl rfl rfl)))
    (aR b m3))
    (bZ b 2 m3)) ?_
 intro n4 b5 ν W5 hR;have R5:=hdd hR;clear hR R4;simp only[putL,bbV,bbY,fs0,fs1,fsn,dSw,dSt,dWc,dWa,dv,di,dp,ds',bbW,bbX,nuTn,nuT0,nuT1,nuU0,nuU1]
 go_upto_region 8 with fail
 refine Spec.go [.w (.c (.v (.pointer (some ⟨g,0,none⟩)))),.w (.agg ([.v (.int .i64 2),.v (.float .f64 ca),.v (.float .f64 cb),.v (.float .f64 cc)])),iL g 5 6,.w (.c (.v (.pointer (some ⟨g,0,none⟩)))),.w (.agg ([.v (.int .i64 2),.v (.float .f64 da),.v (.float .f64 db),.v (.float .f64 dc)])),iL g 7 8,.w (.c (.ptr 9 0)),.w (.c (.ptr 10 0)),noS,noS] [2,2,5,5,6,7]
  [(3,(.leaf 4611686018427387904)),(5,(.leaf ca)),(6,(.leaf cb)),(7,(.leaf da)),(8,(.leaf db))] [⟨0,29,[.v (.int .i64 2),.v (.float .f64 ca),.v (.float .f64 cb),.v (.float .f64 cc)],none⟩,⟨1,29,[.v (.int .i64 2),.v (.float .f64 da),.v (.float .f64 db),.v (.float .f64 dc)],none⟩,⟨2,168,[.v (.pointer none),.v (.int .i64 0),.v (.pointer none),.v (.int .i64 0),.v (.pointer none),.v (.int .i64 0)],none⟩,⟨4,31,numC g 3,none⟩,⟨9,33,[.v (.pointer none),.v (.int .i64 0),.v (.pointer none),.v (.int .i64 0)],some (8,dL g 5 6)⟩,⟨10,33,[.v (.pointer none),.v (.int .i64 0),.v (.pointer none),.v (.int .i64 0)],some (9,dL g 7 8)⟩]
  [0,0,2,0,0,2,0,0,0,0] [[],[],[0,1],[],[],[3,4],[],[],rgn 8,rgn 9] [(0,.w (.c (.v (.pointer (some ⟨g,0,none⟩))))),(4,.w (.c (.ptr 0 0))),(5,.w (.c (.ptr 1 0)))]
  [30,31,32,33,34,35,12,13,0,0] [b1,b2,b3,n4,b5] 10 (N+5) [] [] R5.out
  (fun b hM=>aA (aA (aA (aA (aA (aA (aA (aA (aA (aA aL
    (aB b))
    (aF b 4 m0))
    (aJ b (c_fn (ix:=[]) (ts:=[5,6]) hM (fun ν=>kQ (ca:=ca) (cb:=cb) (cc:=cc) ⟨h1.1.1,h1.1.2⟩ ⟨h1.2.1.1,h1.2.1.2⟩))))
    (aB b))
    (aF b 4 m1))
    (aJ b (c_fn (ix:=[]) (ts:=[7,8]) hM (fun ν=>kQ (ca:=da) (cb:=db) (cc:=dc) ⟨h2.1.1,h2.1.2⟩ ⟨h2.2.1.1,h2.2.1.2⟩))))
    (aR b m4))
    (aR b m5))
    (bZ b 4 m4))
    (bZ b 4 m5)) ?_
 intro n6 n7 n8 n9 b10 b11 ν W6 hR;have R6:=hdd hR;clear hR R5;simp only[putL,bbV,bbY,fs0,fs1,fsn,dSw,dSt,dWc,dWa,dv,di,dp,ds',bbW,bbX,nuTn,nuT0,nuT1,nuU0,nuU1]
 go_upto_region 9 with fail
 refine Spec.go [numS g 3,.w (.c (.ptr 10 0)),numS g 7,.w (.c (.ptr 9 0)),numS g 5,numS g 11,.w (.c (.sl 12 1)),numS g 13,.w (.c (.ptr 14 0)),noS] [5,6,7,8]
  [(3,(.leaf 4611686018427387904)),(5,(.leaf ca)),(6,(.leaf cb)),(7,(.leaf da)),(8,(.leaf db)),(11,(.sub (.leaf da) (.leaf ca))),(13,(.mul (.leaf 4611686018427387904) (.sub (.leaf da) (.leaf ca))))] [⟨0,29,[.v (.int .i64 2),.v (.float .f64 ca),.v (.float .f64 cb),.v (.float .f64 cc)],none⟩,⟨1,29,[.v (.int .i64 2),.v (.float .f64 da),.v (.float .f64 db),.v (.float .f64 dc)],none⟩,⟨2,168,[.v (.pointer none),.v (.int .i64 0),.v (.pointer none),.v (.int .i64 0),.v (.pointer none),.v (.int .i64 0)],none⟩,⟨4,31,numC g 3,none⟩,⟨9,33,dL g 5 6,none⟩,⟨10,33,dL g 7 8,none⟩,⟨12,31,numC g 11,none⟩,⟨14,31,[.v (.pointer none),.v (.int .i64 0)],some (9,numC g 13)⟩]
  [0,0,0,0,0,1,0,1,0,0] [[],[],[1],[],[3],[1,2,3,4],[1,2,3,4,5],rgn 7,[],rgn 9] [(10,.w (.c (.ptr 4 0))),(12,.w (.c (.ptr 10 0))),(11,.w (.c (.ptr 9 0)))]
  [36,37,38,39,40,41,42,43,14,0] [b1,b2,b3,n4,b5,n6,n7,n8,n9,b10,b11] 10 (N+7) [] [] R6.out
  (fun b hM=>aA (aA (aA (aA (aA (aA (aA (aA (aA (aA aL
    (aF b 2 m3))
    (aB b))
    (aF b 2 m5))
    (aB b))
    (aF b 2 m4))
    (aJ b (qP hM m3 m1 rfl rfl rfl rfl rfl rfl)))
    (bQ b m6))
    (aJ b (jL hM m0 m5 rfl rfl m6 rfl rfl rfl rfl rfl rfl rfl rfl)))
    (aR b m7))
    (bZ b 2 m7)) ?_
 intro n12 b13 n14 b15 ν W7 hR;have R7:=hdd hR;clear hR R6;simp only[putL,bbV,bbY,fs0,fs1,fsn,dSw,dSt,dWc,dWa,dv,di,dp,ds',bbW,bbX,nuTn,nuT0,nuT1,nuU0,nuU1]
 go_upto_region 10 with fail
 refine Spec.go [numS g 3,.w (.c (.ptr 10 2)),numS g 8,.w (.c (.ptr 9 2)),numS g 6,numS g 13,.w (.c (.sl 14 1)),numS g 15,.w (.c (.ptr 16 0)),noS] [5,6,7,8]
  [(3,(.leaf 4611686018427387904)),(5,(.leaf ca)),(6,(.leaf cb)),(7,(.leaf da)),(8,(.leaf db)),(11,(.mul (.leaf 4611686018427387904) (.sub (.leaf da) (.leaf ca)))),(13,(.sub (.leaf db) (.leaf cb))),(15,(.mul (.leaf 4611686018427387904) (.sub (.leaf db) (.leaf cb))))] [⟨0,29,[.v (.int .i64 2),.v (.float .f64 ca),.v (.float .f64 cb),.v (.float .f64 cc)],none⟩,⟨1,29,[.v (.int .i64 2),.v (.float .f64 da),.v (.float .f64 db),.v (.float .f64 dc)],none⟩,⟨2,168,[.v (.pointer none),.v (.int .i64 0),.v (.pointer none),.v (.int .i64 0),.v (.pointer none),.v (.int .i64 0)],none⟩,⟨4,31,numC g 3,none⟩,⟨9,33,dL g 5 6,none⟩,⟨10,33,dL g 7 8,none⟩,⟨12,31,numC g 11,none⟩,⟨14,31,numC g 13,none⟩,⟨16,31,[.v (.pointer none),.v (.int .i64 0)],some (9,numC g 15)⟩]
  [0,0,0,0,0,1,0,1,0,0] [[],[],[1],[],[3],[1,2,3,4],[1,2,3,4,5],rgn 7,[],rgn 9] [(10,.w (.c (.ptr 4 0))),(12,.w (.c (.ptr 10 0))),(11,.w (.c (.ptr 9 0)))]
  [44,45,46,47,48,49,50,51,15,0] [b1,b2,b3,n4,b5,n6,n7,n8,n9,b10,b11,n14,b15] 10 (N+9) [true,true,true,true,true,false] [true,true,true,true,true,true,false] R7.out
  (fun b hM=>aA (aA (aA (aA (aA (aA (aA (aA (aA (aA aL
    (aF b 2 m3))
    (aB b))
    (aF b 2 m5))
    (aB b))
    (aF b 2 m4))
    (aJ b (qP hM m4 m2 rfl rfl rfl rfl rfl rfl)))
    (bQ b m7))
    (aJ b (jL hM m0 m6 rfl rfl m7 rfl rfl rfl rfl rfl rfl rfl rfl)))
    (aR b m8))
    (bZ b 2 m8)) ?_
 intro n16 b17 n18 b19 ν W8 hR;have R8:=hdd hR;clear hR R7;simp only[putL,bbV,bbY,fs0,fs1,fsn,dSw,dSt,dWc,dWa,dv,di,dp,ds',bbW,bbX,nuTn,nuT0,nuT1,nuU0,nuU1]
 go_upto_region 11 with fail
 refine Spec.go [numS g 3,numS g 5,.w (.c (.v (.pointer (some ⟨g,0,none⟩)))),.w (.agg ([.v (.int .i64 2),.v (.float .f64 da),.v (.float .f64 db),.v (.float .f64 dc)])),numS g 7,.w (.c (.v (.pointer (some ⟨g,0,none⟩)))),.w (.agg ([.v (.int .i64 2),.v (.float .f64 ca),.v (.float .f64 cb),.v (.float .f64 cc)])),numS g 8,numS g 9,.w (.agg ([.v (.pointer (some ⟨g,0,none⟩)),.id 3,.v (.pointer (some ⟨g,0,none⟩)),.id 5,.v (.pointer (some ⟨g,0,none⟩)),.id 9])),noS,.w (.c (.v Value.nilIface))] [4,7,8]
  [(3,(.mul (.leaf 4611686018427387904) (.sub (.leaf da) (.leaf ca)))),(5,(.mul (.leaf 4611686018427387904) (.sub (.leaf db) (.leaf cb)))),(7,(nK da db dc)),(8,(nK ca cb cc)),(9,(.sub (nK da db dc) (nK ca cb cc)))] [⟨0,29,[.v (.int .i64 2),.v (.float .f64 ca),.v (.float .f64 cb),.v (.float .f64 cc)],none⟩,⟨1,29,[.v (.int .i64 2),.v (.float .f64 da),.v (.float .f64 db),.v (.float .f64 dc)],none⟩,⟨2,168,[.v (.pointer none),.v (.int .i64 0),.v (.pointer none),.v (.int .i64 0),.v (.pointer none),.v (.int .i64 0)],some (10,[.v (.pointer (some ⟨g,0,none⟩)),.id 3,.v (.pointer (some ⟨g,0,none⟩)),.id 5,.v (.pointer (some ⟨g,0,none⟩)),.id 9])⟩,⟨4,31,numC g 3,none⟩,⟨6,31,numC g 5,none⟩]
  [0,0,0,0,7,0,0,7,1,0,0,0] [[],[],[],[],[2,3],[],[],[5,6],[2,3,4,5,6,7],rgn 9,rgn 10,[]] [(13,.w (.c (.ptr 4 0))),(14,.w (.c (.ptr 6 0))),(0,.w (.c (.v (.pointer (some ⟨g,0,none⟩))))),(5,.w (.c (.ptr 1 0))),(4,.w (.c (.ptr 0 0))),(6,.w (.c (.ptr 2 0)))]
  [52,53,54,55,56,57,58,59,60,61,0,8] [b1,b2,b3,n14,b15,n18,b19] 12 (N+24) [false,false,false,false,false,true,false] [true,true,true,false,false,false,true,false] R8.out
  (fun b hM=>aA (aA (aA (aA (aA (aA (aA (aA (aA (aA (aA (aA aL
    (aF b 2 m3))
    (aF b 2 m4))
    (aB b))
    (aF b 4 m1))
    (aJ b (c_fn (ix:=[]) (ts:=[7]) hM (fun ν=>yE (ca:=da) (cb:=db) (cc:=dc) ⟨h2.1.1,h2.1.2⟩ ⟨h2.2.1.1,h2.2.1.2⟩ ⟨h2.2.2.1.1,h2.2.2.1.2⟩))))
    (aB b))
    (aF b 4 m0))
    (aJ b (c_fn (ix:=[]) (ts:=[8]) hM (fun ν=>yE (ca:=ca) (cb:=cb) (cc:=cc) ⟨h1.1.1,h1.1.2⟩ ⟨h1.2.1.1,h1.2.1.2⟩ ⟨h1.2.2.1.1,h1.2.2.1.2⟩))))
    (aJ b (qP hM m2 m3 rfl rfl rfl rfl rfl rfl)))
    (aB b))
    (bZ b 6 m2))
    (aB b)) ?_
 intro n20 n21 n22 ν W9 hR;replace hR:Run ⟨w,B,ns⟩ g (N+24) [((.mul (.leaf 4611686018427387904) (.sub (.leaf da) (.leaf ca))),n14),((.mul (.leaf 4611686018427387904) (.sub (.leaf db) (.leaf cb))),n18),((nK da db dc),n20),((nK ca cb cc),n21),((.sub (nK da db dc) (nK ca cb cc)),n22)] [(b1,.cells #[(.int .i64 2),(.float .f64 ca),(.float .f64 cb),(.float .f64 cc)] 29),(b2,.cells #[(.int .i64 2),(.float .f64 da),(.float .f64 db),(.float .f64 dc)] 29),(b3,.cells #[.pointer (some ⟨g,0,none⟩),.int .i64 ((n14:Nat):Int),.pointer (some ⟨g,0,none⟩),.int .i64 ((n18:Nat):Int),.pointer (some ⟨g,0,none⟩),.int .i64 ((n22:Nat):Int)] 168),(b15,numO g n14),(b19,numO g n18)] W9:=hR;have R9:=hdd hR;clear hR R8;simp only[putL,bbV,bbY,fs0,fs1,fsn,dSw,dSt,dWc,dWa,dv,di,dp,ds',bbW,bbX,nuTn,nuT0,nuT1,nuU0,nuU1];go_wp2;obtain⟨x0,x1,x2,x3,x4,x5⟩:=cs6 (R9.out.at m2);refine bodyPost_ret (v:=.tuple #[.agg #[_,_,_,_,_,_],.nilIface]) (by simp[results,Tryz.results109,go_sem,x0,x1,x2,x3,x4,x5];first|exact⟨rfl,rfl,rfl,rfl,rfl,rfl⟩|rfl) rfl ?_
 exact⟨[n14,n18,n22],rfl,rfl,_,R9.out.few (bY [0,1,4])⟩
theorem iY{g:Nat}{su sv:Int}(h1:jJ ca cb cc)(s1:∀w,Calls Tryz.prog 108 #[.float .f64 ca,.float .f64 0] w (RetV w (.int .i64 su)))(s2:∀w,Calls Tryz.prog 108 #[.float .f64 cb,.float .f64 0] w (RetV w (.int .i64 sv))):FnOk 83 g 3 #[.pointer (some ⟨g,0,none⟩),curV 1 ca cb cc] [] (fun ks=>.agg #[.pointer (some ⟨g,0,none⟩),.int .i64 ((ks.getD 0 0:Nat):Int),.pointer (some ⟨g,0,none⟩),.int .i64 ((ks.getD 1 0:Nat):Int),.pointer (some ⟨g,0,none⟩),.int .i64 ((ks.getD 2 0:Nat):Int),.int .i64 su,.int .i64 sv]) [.leaf ca,.leaf cb,.leaf cc]:=FnOk.of fun w B ns N hR hN=>by
 have R1:=hdd hR;clear hR;go_enter Tryz.func83,Tryz.ntmps83
 go_upto_region 0 with fail
 refine Spec.go [.w (.c (.ptr 0 0)),.w (.c (.ptr 1 0))] [0,1]
  [] [⟨0,29,[.v (.int .i64 1),.v (.float .f64 ca),.v (.float .f64 cb),.v (.float .f64 cc)],none⟩,⟨1,129,[.v (.pointer none),.v (.int .i64 0),.v (.pointer none),.v (.int .i64 0),.v (.pointer none),.v (.int .i64 0),.v (.int .i64 0),.v (.int .i64 0)],none⟩]
  [0,0] [[],[]] [(1,.w (.agg ([.v (.int .i64 1),.v (.float .f64 ca),.v (.float .f64 cb),.v (.float .f64 cc)])))]
  [4,5] [] 2 N [] [] R1.out
  (fun b hM=>aA (aA aL
    (aR b m0))
    (aR b m1)) ?_
 intro b1 b2 ν W2 hR;have R2:=hdd hR;clear hR R1;simp only[putL,bbV,bbY,fs0,fs1,fsn,dSw,dSt,dWc,dWa,dv,di,dp,ds',bbW,bbX,nuTn,nuT0,nuT1,nuU0,nuU1]
 go_upto_region 1 with fail
 refine Spec.go [.w (.c (.v (.pointer (some ⟨g,0,none⟩)))),.w (.c (.ptr 0 1)),.w (.c (.v (.float .f64 ca))),numS g 2,.w (.c (.v (.pointer (some ⟨g,0,none⟩)))),.w (.c (.ptr 0 2)),.w (.c (.v (.float .f64 cb))),numS g 3,.w (.c (.v (.pointer (some ⟨g,0,none⟩)))),.w (.c (.ptr 0 3)),.w (.c (.v (.float .f64 cc))),numS g 4,.w (.c (.ptr 0 1)),.w (.c (.v (.float .f64 ca))),.w (.c (.v (.int .i64 su))),.w (.c (.ptr 0 2)),.w (.c (.v (.float .f64 cb))),.w (.c (.v (.int .i64 sv))),.w (.agg ([.v (.pointer (some ⟨g,0,none⟩)),.id 2,.v (.pointer (some ⟨g,0,none⟩)),.id 3,.v (.pointer (some ⟨g,0,none⟩)),.id 4,.v (.int .i64 su),.v (.int .i64 sv)])),noS] [3,7,11]
  [(2,(.leaf ca)),(3,(.leaf cb)),(4,(.leaf cc))] [⟨0,29,[.v (.int .i64 1),.v (.float .f64 ca),.v (.float .f64 cb),.v (.float .f64 cc)],none⟩,⟨1,129,[.v (.pointer none),.v (.int .i64 0),.v (.pointer none),.v (.int .i64 0),.v (.pointer none),.v (.int .i64 0),.v (.int .i64 0),.v (.int .i64 0)],some (19,[.v (.pointer (some ⟨g,0,none⟩)),.id 2,.v (.pointer (some ⟨g,0,none⟩)),.id 3,.v (.pointer (some ⟨g,0,none⟩)),.id 4,.v (.int .i64 su),.v (.int .i64 sv)])⟩]
  [0,0,0,1,0,0,0,1,0,0,0,1,0,0,0,0,0,0,0,0] [[],[],[1],[0,1,2],[],[],[5],[4,5,6],[],[],[9],[8,9,10],[],[12],[12,13],[],[15],[15,16],rgn 18,rgn 19] [(0,.w (.c (.v (.pointer (some ⟨g,0,none⟩))))),(3,.w (.c (.ptr 0 0))),(4,.w (.c (.ptr 1 0)))]
  [6,7,8,9,10,11,12,13,14,15,16,17,18,19,20,21,22,23,24,0] [b1,b2] 20 (N+3) [] [] R2.out
  (fun b hM=>aA (aA (aA (aA (aA (aA (aA (aA (aA (aA (aA (aA (aA (aA (aA (aA (aA (aA (aA (aA aL
    (aB b))
    (aB b))
    (fQ b m0))
    (aJ b (c_of hM h1.1.1 h1.1.2 rfl rfl rfl rfl)))
    (aB b))
    (aB b))
    (fQ b m0))
    (aJ b (c_of hM h1.2.1.1 h1.2.1.2 rfl rfl rfl rfl)))
    (aB b))
    (aB b))
    (fQ b m0))
    (aJ b (c_of hM h1.2.2.1.1 h1.2.2.1.2 rfl rfl rfl rfl)))
    (aB b))
    (fQ b m0))
    (aJ b (nE hM rfl rfl rfl (fun w=>s1 w))))
    (aB b))
    (fQ b m0))
    (aJ b (nE hM rfl rfl rfl (fun w=>s2 w))))
    (aB b))
    (bZ b 8 m1)) ?_
 intro n3 n4 n5 ν W3 hR;replace hR:Run ⟨w,B,ns⟩ g (N+3) [((.leaf ca),n3),((.leaf cb),n4),((.leaf cc),n5)] [(b1,.cells #[(.int .i64 1),(.float .f64 ca),(.float .f64 cb),(.float .f64 cc)] 29),(b2,.cells #[.pointer (some ⟨g,0,none⟩),.int .i64 ((n3:Nat):Int),.pointer (some ⟨g,0,none⟩),.int .i64 ((n4:Nat):Int),.pointer (some ⟨g,0,none⟩),.int .i64 ((n5:Nat):Int),(.int .i64 su),(.int .i64 sv)] 129)] W3:=hR;have R3:=hdd hR;clear hR R2;simp only[putL,bbV,bbY,fs0,fs1,fsn,dSw,dSt,dWc,dWa,dv,di,dp,ds',bbW,bbX,nuTn,nuT0,nuT1,nuU0,nuU1];go_wp2;obtain⟨x0,x1,x2,x3,x4,x5,x6,x7⟩:=ajK (R3.out.at m1);refine bodyPost_ret (v:=.agg #[_,_,_,_,_,_,_,_]) (by simp[results,Tryz.results83,go_sem,x0,x1,x2,x3,x4,x5,x6,x7];first|exact⟨rfl,rfl,rfl,rfl,rfl,rfl,rfl,rfl⟩|rfl) rfl ?_;exact⟨[n3,n4,n5],rfl,rfl,_,R3.out.few (bY [0,1,2])⟩
end Go.Proofs.YtjaafolhfihegaaGreatDoor
