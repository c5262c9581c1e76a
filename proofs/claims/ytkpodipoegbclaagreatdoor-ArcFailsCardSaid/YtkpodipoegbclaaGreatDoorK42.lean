/- A part of the proof: contracts of functions and plain laws (LawS, FnA, SymD, FnC, SpE, SnA, FlE, FlF, FlG, CkA, CkB, MtA). -/
import Derived.Test.YtkpodipoegbclaaGreatDoorK41
import Derived.Test.YtkpodipoegbclaaGreatDoorK12
import Derived.Test.YtkpodipoegbclaaGreatDoorK17
import Derived.Deep.Cut
import Derived.Deep.DeepCutAuto
import Derived.Test.YtkpodipoegbclaaGreatDoorK13
set_option linter.unusedVariables false
set_option linter.unusedSimpArgs false
set_option maxHeartbeats 25600000
set_option maxRecDepth 100000
namespace Go.Proofs.YtkpodipoegbclaaGreatDoor
section
open Go.ChangeShapes Go.WideShapes Go.ChangeAt Go.RowKit
open Go.DataW renaming trod->avM,Trod->avN
section
variable{H:Type}{enc:TypeId×Value->H}{P:Program}{w:World}{base:Nat}{spare:Nat->Bool}{held:Bool}
theorem arL{t:TypeId}{f0 f1 f2 f3:Field}{fuel:Nat}{c0 c1 c2 c3:Value}{x:DataW H×List MemPlace}(ht:P.underlying t=some (.struct #[f0,f1,f2,f3]))(o0:f0.offset=0)(o1:f1.offset=1)(o2:f2.offset=2)(o3:f3.offset=3)
 (k0:P.cellsOf f0.type=1) (k1:P.cellsOf f1.type=1) (k2:P.cellsOf f2.type=1) (k3:P.cellsOf f3.type=1) (h:avM enc P w base spare held fuel t [c0,c1,c2,c3]=some x):
 ∃y0 y1 y2 y3 n,x=(.agg [y0.1,y1.1,y2.1,y3.1],y0.2++(y1.2++(y2.2++y3.2)))/\avM enc P w base spare held n f0.type [c0]=some y0/\avM enc P w base spare held n f1.type [c1]=some y1/\avM enc P w base spare held n f2.type [c2]=some y2/\avM enc P w base spare held n f3.type [c3]=some y3:=by
 cases fuel with
 |zero=>simp[avM]at h
 |succ n=>
  unfold avM at h;rw[ht]at h;simp[o0,o1,o2,o3,k0,k1,k2,k3]at h;obtain⟨_,h⟩:=h
  cases h0:avM enc P w base spare held n f0.type [c0]with
  |none=>simp[h0]at h
  |some y0=>
   cases h1:avM enc P w base spare held n f1.type [c1]with
   |none=>simp[h0,h1]at h
   |some y1=>
    cases h2:avM enc P w base spare held n f2.type [c2]with
    |none=>simp[h0,h1,h2]at h
    |some y2=>
     cases h3:avM enc P w base spare held n f3.type [c3]with
     |none=>simp[h0,h1,h2,h3]at h
     |some y3=>
      simp[h0,h1,h2,h3]at h;exact⟨y0,y1,y2,y3,n,h.symm,h0,h1,h2,h3⟩
theorem ar8{r:Reach}{b0:Nat}{t:TypeId}{fs:Array Field}{v:Value}(ht:P.underlying t=some (.struct fs))(hct:P.cellsOf t=4)(hval:Value.okWide P w r b0 t v):∃c0 c1 c2 c3,v=.agg #[c0,c1,c2,c3]:=by
 obtain⟨cs,rfl,hsz,-⟩:∃cs,v=.agg cs/\cs.size=P.cellsOf t/\Row.okWide P w r b0 t cs:=by
  simpa[Value.okWide,ht]using hval
 rw[hct]at hsz;obtain⟨l⟩:=cs
 match l,hsz with
 |[c0,c1,c2,c3],_=>exact⟨c0,c1,c2,c3,rfl⟩
variable{t:TypeId}{f0 f1 f2 f3:Field}{v:Value}{d:DataW H}{ps:List MemPlace}{r:Reach}{b0:Nat}{k:IntKind}{q:FloatKind}
 (ht:P.underlying t=some (.struct #[f0,f1,f2,f3])) (o0:f0.offset=0) (o1:f1.offset=1) (o2:f2.offset=2) (o3:f3.offset=3)
   (k0:P.cellsOf f0.type=1) (k1:P.cellsOf f1.type=1) (k2:P.cellsOf f2.type=1) (k3:P.cellsOf f3.type=1) (hct:P.cellsOf t=4)
include ht o0 o1 o2 o3 k0 k1 k2 k3 hct
theorem ar9(u0:P.underlying f0.type=some (.int k))(u1:P.underlying f1.type=some (.float q))(u2:P.underlying f2.type=some (.float q))(u3:P.underlying f3.type=some (.float q))
 (hval:Value.okWide P w r b0 t v) (hd:avN enc P w base spare held t v d ps):
 ∃n a b c,v=.agg #[.int k n,.float q a,.float q b,.float q c]/\d=.agg [.lit (.int k n),.lit (.float q a),.lit (.float q b),.lit (.float q c)]/\ps=[]/\(Lit.int k n).wf=true/\(Lit.float q a).wf=true/\(Lit.float q b).wf=true/\(Lit.float q c).wf=true:=by
 obtain⟨c0,c1,c2,c3,rfl⟩:=ar8 ht hct hval;obtain⟨fuel,hf⟩:=hd;obtain⟨y0,y1,y2,y3,m,hx,hy0,hy1,hy2,hy3⟩:=arL ht o0 o1 o2 o3 k0 k1 k2 k3 hf;obtain⟨x0,e0,rfl,w0⟩:=DataW.trod_int u0 hy0;obtain⟨x1,e1,rfl,w1⟩:=apC u1 hy1;obtain⟨x2,e2,rfl,w2⟩:=apC u2 hy2;obtain⟨x3,e3,rfl,w3⟩:=apC u3 hy3;simp at e0 e1 e2 e3;subst e0 e1 e2 e3;simp only[Prod.mk.injEq]at hx;exact⟨x0,x1,x2,x3,rfl,hx.1,by simpa using hx.2,w0,w1,w2,w3⟩
theorem asA{n:Int}{a b c:Nat}(u0:P.underlying f0.type=some (.int k))(u1:P.underlying f1.type=some (.float q))(u2:P.underlying f2.type=some (.float q))(u3:P.underlying f3.type=some (.float q))(w0:(Lit.int k n).wf=true)(w1:(Lit.float q a).wf=true)(w2:(Lit.float q b).wf=true)(w3:(Lit.float q c).wf=true):
 avN enc P w base spare held t (.agg #[.int k n,.float q a,.float q b,.float q c]) (.agg [.lit (.int k n),.lit (.float q a),.lit (.float q b),.lit (.float q c)]) []:=
 ⟨2,by simp[avM,Value.cells,ht,hct,o0,o1,o2,o3,k0,k1,k2,k3,u0,u1,u2,u3,w0,w1,w2,w3]⟩
end
end
section
open Go.RowKit Go.Maps
open List renaming mem_append->avO,mem_cons->avP,zip_cons_cons->avQ,all_eq_true->avR,map_cons->avS,mem_map->avT
def RtN(s:Bs)(g N:Nat)(K:List (Ex×Nat))(l:List (Nat×Obj))(V:List Nat->Value)(es:List Ex)(e:Ending)(W':World):Prop:=
 ∃ks:List Nat,ks.length=es.length/\e=.returned (V ks)/\Run s g N (es.zip ks++K) l W'
def FnOk(f:FuncId)(g d:Nat)(av:Array Value)(K0:List (Ex×Nat))(V:List Nat->Value)(es:List Ex):Prop:=
 ∀(s:Bs) (N:Nat) (K:List (Ex×Nat)) (l:List (Nat×Obj)) (W:World),Run s g N K l W->N+d<=20000->(∀p∈K0,p∈K)->Calls Tryz.prog f av W (RtN s g (N+d) K l V es)
def atS(w:World)(B:Nat)(ns:List Nd)(g N:Nat)(V:List Nat->Value)(es:List Ex)(e:Ending)(W':World):Prop:=
 ∃ks:List Nat,ks.length=es.length/\e=.returned (V ks)/\∃l',Run ⟨w,B,ns⟩ g N (es.zip ks) l' W'
section
variable{f:FuncId}{g d:Nat}{av:Array Value}{K0:List (Ex×Nat)}{V:List Nat->Value}{es:List Ex}
theorem FnOk.of (h:∀w B ns N,Run ⟨w,B,ns⟩ g N K0 [] w->N+d<=20000->Calls Tryz.prog f av w (atS w B ns g (N+d) V es)):FnOk f g d av K0 V es:=by
 intro s N K l W hR hN hK;obtain⟨ns',hs,hI⟩:=hR;refine(h W s.B ns' N (Run.enter hs.st (fun p hp=>hI p (hK p hp))) hN).mono ?_;rintro e W'⟨ks,h1,rfl,l',ns'',hs2,hI2⟩;refine⟨ks,h1,rfl,ns'',hs.step hs2.st hs2.pre hs2.grew.2.2,fun p hp=> ?_⟩;rcases avO.1 hp with hp|hp
 . exact hI2 p hp
 . exact(hI p hp).mono hs2.pre
theorem aoM{α:Type}{K K':List α}(ix:List Nat)(h:K'=ix.filterMap (K[·]?):=by rfl):∀p∈K',p∈K:=fun p hp=>by
 rw[h]at hp;obtain⟨j,-,h2⟩:=List.mem_filterMap.1 hp;exact List.mem_of_getElem? h2
end
def letters:List Nat->List Nat->(Nat->Nat)->Nat->Nat
 |t::ts,k::ks,ν,n=>if n=t then k else letters ts ks ν n
 |_,_,ν,n=>ν n
theorem apP:∀(ts ks:List Nat) (ν:Nat->Nat) (n:Nat),n∉ts->letters ts ks ν n=ν n
 |[],_,_,_,_=>rfl
 |_::_,[],_,_,_=>rfl
 |t::ts,k::ks,ν,n,h=>by
  rw[avP]at h;show(if n=t then k else letters ts ks ν n)=ν n;rw[if_neg (fun e=>h (Or.inl e)),apP ts ks ν n (fun e=>h (Or.inr e))]
theorem apQ:∀(ts ks:List Nat) (ν:Nat->Nat),ts.Nodup->ks.length=ts.length->ts.map (letters ts ks ν)=ks
 |[],[],_,_,_=>rfl
 |[],_::_,_,_,h=>by simp at h
 |_::_,[],_,_,h=>by simp at h
 |t::ts,k::ks,ν,hn,h=>by
  rw[List.nodup_cons]at hn;have e:ts.map (letters (t::ts) (k::ks) ν)=ts.map (letters ts ks ν):=List.map_congr_left fun n hm=>by
   show(if n=t then k else letters ts ks ν n)=_;rw[if_neg (fun e=>hn.1 (by rw[<-e];exact hm))]
  rw[avS,e,apQ ts ks ν hn.2 (by simpa using h)];show(if t=t then k else _)::ks=k::ks;rw[if_pos rfl]
theorem apR{α:Type}{h:Nat->Nat}{q:Nat×α}:∀{ts:List Nat} {es:List α},q∈ts.zip es->(q.2,h q.1)∈es.zip (ts.map h)
 |[],_,hq=>by simp at hq
 |_::_,[],hq=>by simp at hq
 |t::ts,e::es,hq=>by
  rw[avQ,avP]at hq;rw[avS,avQ,avP];rcases hq with rfl|hq
  . exact Or.inl rfl
  . exact Or.inr (apR hq)
section
variable{S:Spec Ex}{w0:Bs}{g c0 i d:Nat}{f:FuncId}{args:(Nat->Nat)->Array Value}{ix ts:List Nat}{V:List Nat->Value}{es:List Ex}
theorem retL{lst:Nat->Bool}{ν:Nat->Nat}{c:Nat}{l:List (Nat×Obj)}{w':World}{ks:List Nat}(ht:(ts.all fun t=>S.cr t==some i)=true)(hn:ts.Nodup)(hk:S.made i=ts.zip es)(h1:ks.length=ts.length)(hR:Run w0 g c (es.zip ks++S.K lst ν) l w'):
 ∃ν',(∀n,S.cr n≠some i->ν' n=ν n)/\ts.map ν'=ks/\Run w0 g c (S.newK i ν'++S.K lst ν) l w':=by
 have hm:=apQ ts ks ν hn h1;refine⟨letters ts ks ν,fun n h=>apP ts ks ν n fun hin=>h (by have:=avR.1 ht n hin;simpa using this),hm,hR.few fun p hp=> ?_⟩;rcases avO.1 hp with h|h
 . obtain⟨q,h2,rfl⟩:=apG h
   rw[hk]at h2;have:=apR (h:=letters ts ks ν) h2;rw[hm]at this;exact avO.2 (Or.inl this)
 . exact avO.2 (Or.inr h)
theorem c_fn(hM:c0+S.total<=20000)(F:∀ν,FnOk f g d (args ν) ((ix.map fun j=>S.know.getD j (0,.leaf 0)).map fun q=>(q.2,ν q.1)) V es)
 (hix:(ix.all fun j=>decide (j<S.know.length)&&S.pre i (S.know.getD j (0,.leaf 0)).1)=true:=by kernel_rfl) (hc:S.cost i=d:=by rfl) (hv:∀ν,(S.val i).den ν=V (ts.map ν):=by intro _;rfl)
 (ht:(ts.all fun t=>S.cr t==some i)=true:=by kernel_rfl) (hk:S.made i=ts.zip es:=by rfl) (hn:ts.Nodup:=by decide) (hl:ts.length=es.length:=by rfl):aoR S w0 g c0 i f args:=by
 intro lst ν c w hD hcl hG;rw[hc]at hcl;refine(F ν w0 c _ _ w hG (by omega) fun p hp=> ?_).mono ?_
 . obtain⟨q,h1,rfl⟩:=avT.1 hp
   obtain⟨j,h2,rfl⟩:=avT.1 h1;have h3:=avR.1 hix j h2;rw[Bool.and_eq_true,decide_eq_true_eq]at h3;refine ao9 ?_ (pre_on h3.2 hD);rw[List.getD_eq_getElem?_getD,List.getElem?_eq_getElem h3.1];exact List.getElem_mem h3.1
 . rintro e w'⟨ks,k1,rfl,hR⟩
   obtain⟨ν',a1,a2,a3⟩:=retL ht hn hk (by omega) hR;exact⟨ν',a1,by rw[hv,a2],by rw[hc];exact a3⟩
end
section
variable{E:Type}{S:Spec E}{W:Wk E}{P:Program}{Q:Exit->Act->World->Prop}{c0:Nat}{a0:Act}{ν0:Nat->Nat}{i:Nat}{o:Oper}
end
section
variable{f:FuncId}{g d:Nat}{av:Array Value}{K0:List (Ex×Nat)}{V:List Nat->Nat->Value}{es:List Ex}{O:List Nat->Obj}
end
section
variable{S:Spec Ex}{w0:Bs}{g c0 i d:Nat}{f:FuncId}{args:(Nat->Nat)->Array Value}{ix ts:List Nat}{V:List Nat->Nat->Value}{es:List Ex}{O:List Nat->Obj}{B:Blk}
end
section
variable{s:Bs}{W:World}{g N i j k i' j' k':Nat}{K:List (Ex×Nat)}{l:List (Nat×Obj)}{x px py qx qy rx ry:Ex}{q:Int}
end
section
variable{S:Spec Ex}{w0:Bs}{g c0:Nat}{i:Nat}(hM:c0+S.total<=20000){m n m' n' m2 n2 t:Nat}{x y x' y' x2 y2:Ex}{q:Int}(hx:(m,x)∈S.know)(hy:(n,y)∈S.know)(px:S.pre i m=true)(py:S.pre i n=true)
include hM hx px
include hy py
variable(hx':(m',x')∈S.know)(hy':(n',y')∈S.know)(px':S.pre i m'=true)(py':S.pre i n'=true)
include hx' hy' px' py'
end
abbrev arcC(g a b c i j k l:Nat):List SC:=curC 2 a b c++aoU g i j++aoU g k l
abbrev arC(g i j k l:Nat):List SC:=aoU g i j++aoU g k l
abbrev arcV(g a b c i j k l:Nat):Value:=.agg #[.int .i64 2,.float .f64 a,.float .f64 b,.float .f64 c,.pointer (some ⟨g,0,none⟩),.int .i64 ((i:Nat):Int),.pointer (some ⟨g,0,none⟩),.int .i64 ((j:Nat):Int),.pointer (some ⟨g,0,none⟩),.int .i64 ((k:Nat):Int),.pointer (some ⟨g,0,none⟩),.int .i64 ((l:Nat):Int)]
section
variable{g a b c i j k l i' j' k' l' i'' j'' k'' l'':Nat}{ν:Nat->Nat}
theorem dA12:(SW.agg (arcC g a b c i j k l)).den ν=arcV g a b c (ν i) (ν j) (ν k) (ν l):=rfl
theorem dP8:(SW.agg (arC g i j k l)).den ν=.agg #[.pointer (some ⟨g,0,none⟩),.int .i64 ((ν i:Nat):Int),.pointer (some ⟨g,0,none⟩),.int .i64 ((ν j:Nat):Int),.pointer (some ⟨g,0,none⟩),.int .i64 ((ν k:Nat):Int),.pointer (some ⟨g,0,none⟩),.int .i64 ((ν l:Nat):Int)]:=rfl
theorem dP24:(SW.agg (arC g i j k l++arC g i' j' k' l'++arC g i'' j'' k'' l'')).den ν=.agg #[.pointer (some ⟨g,0,none⟩),.int .i64 ((ν i:Nat):Int),.pointer (some ⟨g,0,none⟩),.int .i64 ((ν j:Nat):Int),.pointer (some ⟨g,0,none⟩),.int .i64 ((ν k:Nat):Int),.pointer (some ⟨g,0,none⟩),.int .i64 ((ν l:Nat):Int),.pointer (some ⟨g,0,none⟩),.int .i64 ((ν i':Nat):Int),.pointer (some ⟨g,0,none⟩),.int .i64 ((ν j':Nat):Int),.pointer (some ⟨g,0,none⟩),.int .i64 ((ν k':Nat):Int),.pointer (some ⟨g,0,none⟩),.int .i64 ((ν l':Nat):Int),.pointer (some ⟨g,0,none⟩),.int .i64 ((ν i'':Nat):Int),.pointer (some ⟨g,0,none⟩),.int .i64 ((ν j'':Nat):Int),.pointer (some ⟨g,0,none⟩),.int .i64 ((ν k'':Nat):Int),.pointer (some ⟨g,0,none⟩),.int .i64 ((ν l'':Nat):Int)]:=rfl
end
end
section
open Go.RowKit Go.Maps Go.Stop Go.Extern
variable{i j k:Int}{ns:List Nd}{a b c g:Nat}{l v:Value}{w w' w1:World}
def Bad(w:World)(v:Value):Prop:=(∃k:Int,v=.agg #[.pointer none,.int .i64 k])\/∃(g:Nat) (ns:List Nd),DagP w g ns/\v=.agg #[.pointer (some ⟨g,0,none⟩),.int .i64 (-1)]
theorem Bad.below (h:Bad w v)(hb:Below w.heap.size w w'):Bad w' v:=by
 rcases h with h|⟨g,ns,h,e⟩
 . exact Or.inl h
 . exact Or.inr ⟨g,ns,h.below hb,e⟩
theorem Bad.open (h:Bad w v):∃(a:Option Addr) (k:Int),v=.agg #[.pointer a,.int .i64 k]:=by
 rcases h with ⟨k,rfl⟩|⟨g,ns,-,rfl⟩
 . exact⟨_,_,rfl⟩
 . exact⟨_,_,rfl⟩
theorem al0(hd:DagP w g ns):
 Calls Tryz.prog 137 #[.pointer (some ⟨g,0,none⟩),.int .i64 (-1)] w (fun e w'=>e=.returned (.bool false)/\w=w'):=by
 obtain⟨A,c,c0,-,-,-⟩:=hd.slice;clear hd;go_enter Tryz.func137,Tryz.ntmps137
 go_wp2;go_ret;exact⟨rfl,rfl⟩
theorem aj8(hd:DagP w g ns):
 Calls Tryz.prog 86 #[.pointer (some ⟨g,0,none⟩),.int .i64 (-1)] w (fun e w'=>e=.returned (.tuple #[.agg #[.int .i64 0,.float .f64 0,.int .i64 0,.int .i64 0],.bool false])/\Below w.heap.size w w'):=by
 obtain⟨w1,hw1,hb1,hs1,b1⟩:=pro1 w (.cells #[.int .i64 0,.float .f64 0,.int .i64 0,.int .i64 0] 137);obtain⟨c0,c1,c2,c3⟩:=aY b1;obtain⟨f0,f1,f2,f3⟩:=ad8 b1;have HH:=hdd (al0 (hd.below hb1));have g1:=hdd (set4 b1 (.int .i64 0) (.float .f64 0) (.int .i64 0) (.int .i64 0));have HB:Hid (∀a b c d,Below w.heap.size w ((((w1.setCell ⟨w.heap.size,0,none⟩ a).setCell ⟨w.heap.size,1,none⟩ b).setCell ⟨w.heap.size,2,none⟩ c).setCell ⟨w.heap.size,3,none⟩ d)):=hdd fun a b c d=>(((hb1.setCell nlr a).setCell nlr b).setCell nlr c).setCell nlr d;have hst:=aN;clear hd hb1 hs1 b1;go_enter Tryz.func86,Tryz.ntmps86
 go_wp2_with fail
 refine HH.out.mono ?_;rintro e w2⟨rfl,rfl⟩;go_wp2_with fail
 obtain⟨x0,x1,x2,x3⟩:=aY g1.out;refine bodyPost_ret (v:=.tuple #[.agg #[_,_,_,_],_]) (by simp[results,Tryz.results86,go_sem,x0,x1,x2,x3];first|exact⟨⟨rfl,rfl,rfl,rfl⟩,rfl⟩|exact⟨rfl,rfl,rfl,rfl⟩|rfl) rfl ?_;exact⟨rfl,HB.out _ _ _ _⟩
theorem ag2(h:Bad w v):Calls Tryz.prog 41 #[v] w (RetV w (.bool false)):=by
 rcases h with ⟨k,rfl⟩|⟨g,ns,hd,rfl⟩
 . obtain⟨w1,hw1,hb1,hs1,b1⟩:=pro1 w (.cells #[.pointer none,.int .i64 k] 26)
   obtain⟨c0,c1,-,-⟩:=aB b1;have HB:=hdd hb1;clear hb1 hs1 b1;go_enter Tryz.func41,Tryz.ntmps41
   go_wp2;go_ret;exact⟨rfl,HB.out⟩
 . obtain⟨w1,hw1,hb1,hs1,b1⟩:=pro1 w (.cells #[.pointer (some ⟨g,0,none⟩),.int .i64 (-1)] 26)
   obtain⟨c0,c1,-,-⟩:=aB b1;have HN:=hdd (aj8 (hd.below hb1));have HB:=hdd hb1;have hst:=aN;clear hd hb1 hs1 b1;go_enter Tryz.func41,Tryz.ntmps41
   go_wp2_with fail
   refine HN.out.mono ?_;rintro e w2⟨rfl,hb2⟩;obtain⟨w3,hw3,z0,z1,z2,z3,y0,y1,y2,y3,w4,hw4,hb4,hs4⟩:=new4 w2 137 (.int .i64 0) (.float .f64 0) (.int .i64 0) (.int .i64 0) (.int .i64 0) (.float .f64 0) (.int .i64 0) (.int .i64 0);have HB4:=hdd (aA (aA HB.out hb2) hb4);clear hb2 hb4 hs4;go_wp2;go_ret;exact⟨rfl,HB4.out⟩
theorem ap3(h:Bad w v):Calls Tryz.prog 43 #[v,l] w (RetV w (.bool false)):=by
 obtain⟨a,k,rfl⟩:=h.open;obtain⟨w1,hw1,hb1,hs1,b1⟩:=pro1 w (.cells #[.pointer a,.int .i64 k] 26);obtain⟨c0,c1,-,-⟩:=aB b1;have HV:=hdd (ag2 (h.below hb1));have HB:=hdd hb1;clear h hb1 hs1 b1;go_enter Tryz.func43,Tryz.ntmps43
 go_wp2_with fail
 refine HV.out.mono ?_;rintro e w2⟨rfl,hb2⟩;have HB2:=hdd (aA HB.out hb2);clear hb2;go_wp2;go_ret;exact⟨rfl,HB2.out⟩
def apK(w:World)(a:Option Addr)(e:Ending)(w':World):Prop:=e=.returned (.agg #[.pointer a,.int .i64 (-1)])/\Below w.heap.size w w'
theorem apI{a:Option Addr}:Calls Tryz.prog 44 #[.agg #[.pointer a,.int .i64 k]] w (apK w a):=by
 obtain⟨w2,hw2,hb2,hs2,b1,b2⟩:=pro2 w (.cells #[.pointer a,.int .i64 k] 26) (.cells #[.pointer none,.int .i64 0] 26);obtain⟨c0,c1,-,-⟩:=aB b1;obtain⟨d0,d1,f0,f1⟩:=aB b2;have g1:=hdd (set2 b2 (.pointer a) (.int .i64 (-1)));have HB:Hid (∀u v,Below w.heap.size w ((w2.setCell ⟨w.heap.size+1,0,none⟩ u).setCell ⟨w.heap.size+1,1,none⟩ v)):=hdd fun u v=>(hb2.setCell (by simp) u).setCell (by simp) v;clear hb2 hs2 b1 b2;go_enter Tryz.func44,Tryz.ntmps44
 go_wp2;obtain⟨x0,x1,-,-⟩:=aB g1.out;refine bodyPost_ret (v:=.agg #[_,_]) (by simp[results,Tryz.results44,go_sem,x0,x1];first|exact⟨rfl,rfl⟩|rfl) rfl ?_;exact⟨rfl,HB.out _ _⟩
def BadG(w:World)(g:Nat)(v:Value):Prop:=(∃k:Int,v=.agg #[.pointer none,.int .i64 k])\/((∃ns,DagP w g ns)/\v=.agg #[.pointer (some ⟨g,0,none⟩),.int .i64 (-1)])
theorem BadG.bad (h:BadG w g v):Bad w v:=by
 rcases h with h|⟨⟨ns,h⟩,e⟩
 . exact Or.inl h
 . exact Or.inr ⟨g,ns,h,e⟩
theorem aqY(a:Addr)(w:World):(binOp .neq 23 (.pointer none) (.pointer (some a))).run Tryz.prog w=.ok (.bool true) w:=by kernel_rfl
theorem apS{k:Nat}{q:Option Addr}(hd:DagP w g ns)(hk:k<ns.length)(hb:BadG w g (.agg #[.pointer q,.int .i64 j]))(h0:w.cell? ⟨b,0,none⟩=some (.pointer q))(h1:w.cell? ⟨b,1,none⟩=some (.int .i64 j)):
 Calls Tryz.prog 43 #[.agg #[.pointer (some ⟨g,0,none⟩),.int .i64 (k:Int)],.slice (some ⟨b,0,none⟩) 1 1] w (RetV w (.bool false)):=by
 obtain⟨w1,hw1,hb1,hs1,b1⟩:=pro1 w (.cells #[.pointer (some ⟨g,0,none⟩),.int .i64 (k:Int)] 26);obtain⟨c0,c1,-,-⟩:=aB b1;have HV:=hdd (kK (hd.below hb1) hk);have HBD:=hdd hb;have HB:=hdd hb1;have hnq:=alE ⟨g,0,none⟩;have hnn:=aqY ⟨g,0,none⟩;replace h0:=cbl h0 hb1;replace h1:=cbl h1 hb1;clear hd hk hb hb1 hs1 b1;go_enter Tryz.func43,Tryz.ntmps43
 go_wp2_with fail
 refine HV.out.mono ?_;rintro e w2⟨rfl,hb2⟩;have HB2:=hdd (aA HB.out hb2);replace c0:=cbl c0 hb2;replace c1:=cbl c1 hb2;replace h0:=cbl h0 hb2;replace h1:=cbl h1 hb2;clear hb2;go_wp2_with fail
 go_loopw [12] (fun i wr=>i=.int .i64 0/\wr=w2) (fun i _=>(1-intOf i).toNat)
 case atStart=>exact⟨rfl,rfl⟩
 case round=>
  obtain⟨rfl,rfl⟩:=hrel;obtain⟨w3,hw3,hb3,hs3,b3⟩:=pro1 wr (.cells #[.pointer none,.int .i64 0] 26);obtain⟨p0,p1,pf0,pf1⟩:=aB b3;have g1:=set2 b3 (.pointer q) (.int .i64 j);obtain⟨w4,hw4⟩:∃w4,(w3.setCell ⟨wr.heap.size,0,none⟩ (.pointer q)).setCell ⟨wr.heap.size,1,none⟩ (.int .i64 j)=w4:=⟨_,rfl⟩;have hb4:Below wr.heap.size wr w4:=by rw[<-hw4];exact(hb3.setCell nlr _).setCell nlr _
  rw[hw4]at g1;obtain⟨y0,y1,-,-⟩:=aB g1;have e0:=cbl c0 hb4;have e1:=cbl c1 hb4;have hbw:=aA HB2.out hb4;have hbd:=HBD.out;have HF4:=hdd hbw;have HVX:=hdd (ag2 (hbd.bad.below hbw));clear hb3 hs3 b3 g1 hb4 hbw;rcases hbd with ⟨k',he⟩|⟨-,he⟩
  . injection he with he;injection he with he;injection he with he1 he2
    injection he1 with he1;injection he2 with he2 _;injection he2 with _ he2;subst he1 he2;go_wp2_with fail
    go_ret;exact⟨rfl,HF4.out⟩
  . injection he with he;injection he with he;injection he with he1 he2
    injection he1 with he1;injection he2 with he2 _;injection he2 with _ he2;subst he1 he2;go_wp2_with fail
    refine HVX.out.mono ?_;rintro e w5⟨rfl,hb5⟩;have HF5:=hdd (aA HF4.out hb5);clear hb5;go_wp2_with fail
    go_ret;exact⟨rfl,HF5.out⟩
theorem as0{a b:Option Addr}(hG:∀w' c,Below w.heap.size w w'->w'.cell? ⟨c,0,none⟩=some (.pointer b)->w'.cell? ⟨c,1,none⟩=some (.int .i64 j)->Calls Tryz.prog 43 #[.agg #[.pointer a,.int .i64 i],.slice (some ⟨c,0,none⟩) 1 1] w' (RetV w' (.bool false))):
 Calls Tryz.prog 23 #[.agg #[.pointer a,.int .i64 i],.agg #[.pointer b,.int .i64 j]] w (apK w a):=by
 obtain⟨w3,hw3,hb3,hs3,b1,b2,b3⟩:=pro3 w (.cells #[.pointer a,.int .i64 i] 26) (.cells #[.pointer b,.int .i64 j] 26) (.cells #[.pointer none,.int .i64 0] 26);obtain⟨w4,hw4,hb4,hs4,b4⟩:=pro1 w3 (.cells #[.pointer b,.int .i64 j] 26);have h34:=aA hb3 hb4;obtain⟨c0,c1,-,-⟩:=aB b1;obtain⟨d0,d1,-,-⟩:=aB b2;obtain⟨x0,x1,-,-⟩:=aB b4;have HG:=hdd (hG w4 _ h34 x0 x1);have e0:=cbl c0 hb4;have e1:=cbl c1 hb4;have B3:=hdd (hbl b3 hb4);have HB4:=hdd h34;have HSZ:Hid (w.heap.size+2<w4.heap.size):=hdd (by omega);clear hG hb3 hb4 h34 b1 b2 b3 b4 hs3 hs4 x0 x1;go_enter Tryz.func23,Tryz.ntmps23
 go_wp2_with fail
 refine HG.out.mono ?_;rintro e w5⟨rfl,hb5⟩;replace e0:=cbl e0 hb5;replace e1:=cbl e1 hb5;have B5:=hdd (hbl B3.out hb5);have HB5:=hdd (aA HB4.out hb5);have HN:=hdd (apI (w:=w5) (a:=a) (k:=i));clear hb5 c0 c1 d0 d1;go_wp2_with fail
 refine HN.out.mono ?_;rintro e w6⟨rfl,hb6⟩;have b6:=hbl B5.out hb6;obtain⟨r0,r1,f0,f1⟩:=aB b6;have g1:=hdd (set2 b6 (.pointer a) (.int .i64 (-1)));have HF:Hid (∀u v,Below w.heap.size w ((w6.setCell ⟨w.heap.size+2,0,none⟩ u).setCell ⟨w.heap.size+2,1,none⟩ v)):=hdd fun u v=>((aA HB5.out hb6).setCell (by simp) u).setCell (by simp) v;clear hb6 b6;go_wp2;obtain⟨x0,x1,-,-⟩:=aB g1.out;refine bodyPost_ret (v:=.agg #[_,_]) (by simp[results,Tryz.results23,go_sem,x0,x1];first|exact⟨rfl,rfl⟩|rfl) rfl ?_;exact⟨rfl,HF.out _ _⟩
abbrev jW(w w':World)(b:Nat):Prop:=w.heap.size<=b/\b<w'.heap.size
def wJ(w:World)(v:Value)(k:Int)(e:Ending)(w':World):Prop:=∃er n,e=.returned (.tuple #[v,er])/\n<=1000/\ErK (jW w w') w' n er k/\Below w.heap.size w w'
def an9(w:World)(k:Int)(e:Ending)(w':World):Prop:=∃er n,e=.returned er/\n<=1000/\ErK (jW w w') w' n er k/\Below w.heap.size w w'
theorem wU:Calls Tryz.prog 37 #[] w (fun e w'=>e=.returned (.iface 124 (.int .i64 1))/\w'=w):=by
 go_enter Tryz.func37,Tryz.ntmps37
 go_wp2;go_ret;exact⟨rfl,rfl⟩
theorem aj9{S:Nat->Prop}{n:Nat}{s:ByteArray}(h:ErK S w n v k):
 Calls Tryz.prog 51 #[.string s,v] w (fun e w'=>∃er,e=.returned er/\ErK (fun b=>S b\/jW w w' b) w' (n+1) er k/\Below w.heap.size w w'):=by
 have hnn:∃t x,v=.iface t x:=by cases h<;>exact⟨_,_,rfl⟩
 obtain⟨vt,vx,rfl⟩:=hnn;have hb:Below w.heap.size w (w.alloc (.cells #[.string s,.iface vt vx] 162)):=Below.alloc (Below.refl _ _) nlr _;have HE:Hid (ErK (fun b=>S b\/jW w (w.alloc (.cells #[.string s,.iface vt vx] 162)) b) (w.alloc (.cells #[.string s,.iface vt vx] 162)) (n+1) (.iface 160 (.pointer (some ⟨w.heap.size,0,none⟩))) k):=hdd (.inn (Or.inr ⟨Nat.le_refl _,by simp⟩) (by simp) ((h.low hb).mono fun _ h _=>Or.inl h));have HB:=hdd hb;clear h hb;go_enter Tryz.func51,Tryz.ntmps51
 go_wp2;go_ret;exact⟨_,rfl,HE.out,HB.out⟩
theorem akA(h:Bad w v):Calls Tryz.prog 24 #[v] w (wJ w (.int .i64 0) 1):=by
 obtain⟨a,k,rfl⟩:=h.open;obtain⟨w1,hw1,hb1,hs1,b1⟩:=pro1 w (.cells #[.pointer a,.int .i64 k] 26);obtain⟨c0,c1,-,-⟩:=aB b1;have HV:=hdd (ag2 (h.below hb1));have HB:=hdd hb1;clear h hb1 hs1 b1;go_enter Tryz.func24,Tryz.ntmps24
 go_wp2_with fail
 refine HV.out.mono ?_;rintro e w2⟨rfl,hb2⟩;have HB2:=hdd (aA HB.out hb2);have HM:=hdd (wU (w:=w2));have HI:Hid (∀s,Calls Tryz.prog 51 #[.string s,.iface 124 (.int .i64 1)] w2 (fun e w'=>∃er,e=.returned er/\ErK (fun b=>False\/jW w2 w' b) w' (0+1) er 1/\Below w2.heap.size w2 w')):=hdd fun s=>aj9 (S:=fun _=>False) (.kind (by omega) (by omega));clear hb2 c0 c1;go_wp2_with fail
 refine HM.out.mono ?_;rintro e w3⟨rfl,rfl⟩;go_wp2_with fail
 refine(HI.out _).mono ?_;rintro e w4⟨er,rfl,h1,h2⟩;have HF:=hdd (h1.mono (T:=jW w w4) fun b hb _=>⟨Nat.le_trans HB2.out.size (hb.resolve_left id).1,(hb.resolve_left id).2⟩);have HB4:=hdd (aA HB2.out h2);clear h1 h2;go_wp2
 go_ret2
 exact⟨er,1,rfl,by omega,HF.out,HB4.out⟩
def SubBad(w:World)(a:Option Addr)(i:Int)(b:Option Addr)(j:Int):Prop:=∀w' c,Below w.heap.size w w'->w'.cell? ⟨c,0,none⟩=some (.pointer b)->w'.cell? ⟨c,1,none⟩=some (.int .i64 j)->Calls Tryz.prog 43 #[.agg #[.pointer a,.int .i64 i],.slice (some ⟨c,0,none⟩) 1 1] w' (RetV w' (.bool false))
theorem SubBad.first {a b:Option Addr}(h:Bad w (.agg #[.pointer a,.int .i64 i])):SubBad w a i b j:=fun _ _ hb _ _=>ap3 (h.below hb)
theorem as1{a:Option Addr}(h:Bad w (.agg #[.pointer a,.int .i64 i])):
 Calls Tryz.prog 22 #[.agg #[.pointer a,.int .i64 i],l] w (apK w a):=by
 obtain⟨w2,hw2,hb2,hs2,b1,b2⟩:=pro2 w (.cells #[.pointer a,.int .i64 i] 26) (.cells #[.pointer none,.int .i64 0] 26);obtain⟨c0,c1,-,-⟩:=aB b1;have HG:=hdd (ap3 (l:=l) (h.below hb2));have HB:=hdd hb2;have B2:=hdd b2;clear h hb2 hs2 b1 b2;go_enter Tryz.func22,Tryz.ntmps22
 go_wp2_with fail
 refine HG.out.mono ?_;rintro e w5⟨rfl,hb5⟩;replace c0:=cbl c0 hb5;replace c1:=cbl c1 hb5;have B5:=hdd (hbl B2.out hb5);have HB5:=hdd (aA HB.out hb5);have HN:=hdd (apI (w:=w5) (a:=a) (k:=i));clear hb5;go_wp2_with fail
 refine HN.out.mono ?_;rintro e w6⟨rfl,hb6⟩;have b6:=hbl B5.out hb6;obtain⟨r0,r1,f0,f1⟩:=aB b6;have g1:=hdd (set2 b6 (.pointer a) (.int .i64 (-1)));have HF:Hid (∀u v,Below w.heap.size w ((w6.setCell ⟨w.heap.size+1,0,none⟩ u).setCell ⟨w.heap.size+1,1,none⟩ v)):=hdd fun u v=>((aA HB5.out hb6).setCell (by simp) u).setCell (by simp) v;clear hb6 b6;go_wp2;obtain⟨x0,x1,-,-⟩:=aB g1.out;refine bodyPost_ret (v:=.agg #[_,_]) (by simp[results,Tryz.results22,go_sem,x0,x1];first|exact⟨rfl,rfl⟩|rfl) rfl ?_;exact⟨rfl,HF.out _ _⟩
abbrev curV(k:Int)(a b c:Nat):Value:=.agg #[.int .i64 k,.float .f64 a,.float .f64 b,.float .f64 c]
abbrev curO(k:Int)(a b c:Nat):Obj:=.cells #[.int .i64 k,.float .f64 a,.float .f64 b,.float .f64 c] 67
abbrev FlOk(b:Nat):Prop:=b<18446744073709551616/\fin b
theorem apL:0<=sr b↔0<=fv b:=by
 unfold fv;rw[<-acX,dM]
theorem degen_any:Calls Tryz.prog 39 #[] w (fun e w'=>e=.returned (.iface 124 (.int .i64 5))/\w'=w):=by
 go_enter Tryz.func39,Tryz.ntmps39
 go_wp2;go_ret;exact⟨rfl,rfl⟩
theorem as2(ha:FlOk a)(hb:FlOk b)(hc:FlOk c)(h0:0<=fv c):Calls Tryz.prog 127 #[curV 2 a b c] w (RetV w .nilIface):=by
 obtain⟨w1,hw1,hb1,hs1,b1⟩:=pro1 w (curO 2 a b c);obtain⟨c0,c1,c2,c3⟩:=aY b1;have HB:=hdd hb1;have FA:Hid (∀w',Calls Tryz.prog 175 #[.float .f64 a] w' (RetB w' true)):=hdd fun w'=>by have:=jD (w:=w') ha.1;rwa[decide_eq_true ha.2]at this
 have FB:Hid (∀w',Calls Tryz.prog 175 #[.float .f64 b] w' (RetB w' true)):=hdd fun w'=>by have:=jD (w:=w') hb.1;rwa[decide_eq_true hb.2]at this
 have FC:Hid (∀w',Calls Tryz.prog 175 #[.float .f64 c] w' (RetB w' true)):=hdd fun w'=>by have:=jD (w:=w') hc.1;rwa[decide_eq_true hc.2]at this
 have hg:=amZ (b:=c) hc.2.num num0;rw[sr0,decide_eq_true (apL.2 h0)]at hg;clear ha hb hc h0 hb1 hs1 b1;go_enter Tryz.func127,Tryz.ntmps127
 go_wp2_with fail
 refine(FA.out _).mono ?_;rintro e w2⟨rfl,hw⟩;obtain rfl:=hw;go_wp2_with fail
 refine(FB.out _).mono ?_;rintro e w2⟨rfl,hw⟩;obtain rfl:=hw;go_wp2_with fail
 refine(FC.out _).mono ?_;rintro e w2⟨rfl,hw⟩;obtain rfl:=hw;go_wp2;go_ret;exact⟨rfl,HB.out⟩
theorem asB(ha:FlOk a)(hb:FlOk b)(hc:FlOk c)(h0:fv c<0):Calls Tryz.prog 127 #[curV 2 a b c] w (an9 w 5):=by
 obtain⟨w1,hw1,hb1,hs1,b1⟩:=pro1 w (curO 2 a b c);obtain⟨c0,c1,c2,c3⟩:=aY b1;have HB:=hdd hb1;have FA:Hid (∀w',Calls Tryz.prog 175 #[.float .f64 a] w' (RetB w' true)):=hdd fun w'=>by have:=jD (w:=w') ha.1;rwa[decide_eq_true ha.2]at this
 have FB:Hid (∀w',Calls Tryz.prog 175 #[.float .f64 b] w' (RetB w' true)):=hdd fun w'=>by have:=jD (w:=w') hb.1;rwa[decide_eq_true hb.2]at this
 have FC:Hid (∀w',Calls Tryz.prog 175 #[.float .f64 c] w' (RetB w' true)):=hdd fun w'=>by have:=jD (w:=w') hc.1;rwa[decide_eq_true hc.2]at this
 have hg:=amZ (b:=c) hc.2.num num0;rw[sr0,decide_eq_false (fun h=>by have:=apL.1 h;omega)]at hg;have HI:=hdd (aj9 (w:=w1) (s:=⟨#[99,105,114,99,108,101]⟩) (ErK.kind (S:=fun _=>False) (k:=5) (by decide) (by decide)));clear ha hb hc h0 hb1 hs1 b1;go_enter Tryz.func127,Tryz.ntmps127
 go_wp2_with fail
 refine(FA.out _).mono ?_;rintro e w2⟨rfl,hw⟩;obtain rfl:=hw;go_wp2_with fail
 refine(FB.out _).mono ?_;rintro e w2⟨rfl,hw⟩;obtain rfl:=hw;go_wp2_with fail
 refine(FC.out _).mono ?_;rintro e w2⟨rfl,hw⟩;obtain rfl:=hw;go_wp2_with fail
 refine degen_any.mono ?_;rintro e w2⟨rfl,hw⟩;obtain rfl:=hw;go_wp2_with fail
 refine HI.out.mono ?_;rintro e w2⟨er,rfl,he,hb2⟩;have HE:=hdd he;have HB2:=hdd hb2;clear he hb2;go_wp2;go_ret;exact⟨er,1,rfl,by omega,HE.out.mono fun b hb _=>by
  rcases hb with h|h
  . exact h.elim
  . exact⟨Nat.le_trans HB.out.size h.1,h.2⟩,HB.out.trans (HB2.out.mono HB.out.size)⟩
theorem aoZ{r:Bool}(h:(FloatKind.f64.format.order a b==some Ordering.eq)=r):(FloatKind.f64.format.order a b != some Ordering.eq)= !r:=by
 show(!(FloatKind.f64.format.order a b==some Ordering.eq))= !r;rw[h]
theorem ao8:sr b=0↔fv b=0:=by
 have h1:=acX (a:=sr b) (b:=0);have h2:=acX (a:=0) (b:=sr b);rw[dM]at h1 h2;unfold fv;omega
def apA(a b c:Nat):Prop:=FlOk a/\FlOk b/\FlOk c/\(fv a≠0\/fv b≠0)
theorem aoN(ha:a<18446744073709551616):Calls Tryz.prog 175 #[.float .f64 a] w (RetB w (decide (fin a))):=jD ha
theorem in_line:Calls Tryz.prog 51 #[.string ⟨#[108,105,110,101]⟩,.iface 124 (.int .i64 5)] w1 (an9 w1 5):=
 (aj9 (w:=w1) (ErK.kind (S:=fun _=>False) (k:=5) (by decide) (by decide))).mono fun _ _ ⟨er,h1,h2,h3⟩=>⟨er,1,h1,by omega,h2.mono fun b hb _=>by
   rcases hb with h|h
   . exact h.elim
   . exact h,h3⟩
theorem an9.up {e:Ending}(h:an9 w1 k e w')(hb:Below w.heap.size w w1):an9 w k e w':=by
 obtain⟨er,n,h1,h2,h3,h4⟩:=h;exact⟨er,n,h1,h2,h3.mono fun b hb' _=>⟨Nat.le_trans hb.size hb'.1,hb'.2⟩,hb.trans (h4.mono hb.size)⟩
theorem as3(h:apA a b c):Calls Tryz.prog 126 #[curV 1 a b c] w (RetV w .nilIface):=by
 obtain⟨ha,hb,hc,h0⟩:=h;obtain⟨w1,hw1,hb1,hs1,b1⟩:=pro1 w (curO 1 a b c);obtain⟨c0,c1,c2,c3⟩:=aY b1;have HB:=hdd hb1;have FA:Hid (∀w',Calls Tryz.prog 175 #[.float .f64 a] w' (RetB w' true)):=hdd fun w'=>by have:=aoN (w:=w') ha.1;rwa[decide_eq_true ha.2]at this
 have FB:Hid (∀w',Calls Tryz.prog 175 #[.float .f64 b] w' (RetB w' true)):=hdd fun w'=>by have:=aoN (w:=w') hb.1;rwa[decide_eq_true hb.2]at this
 have FC:Hid (∀w',Calls Tryz.prog 175 #[.float .f64 c] w' (RetB w' true)):=hdd fun w'=>by have:=aoN (w:=w') hc.1;rwa[decide_eq_true hc.2]at this
 have ea:=qJ (b:=a) ha.2.num num0;have eb:=qJ (b:=b) hb.2.num num0;rw[sr0]at ea eb;by_cases hz:fv a=0
 . have hz2:¬sr b=0:=fun e=>h0.elim (fun k=>k hz) (fun k=>k (ao8.1 e))
   rw[decide_eq_true (ao8.2 hz)]at ea;rw[decide_eq_false hz2]at eb;replace ea:=aoZ ea;replace eb:=aoZ eb;rw[Bool.not_true]at ea;rw[Bool.not_false]at eb;clear ha hb hc h0 hb1 hs1 b1 hz hz2;go_enter Tryz.func126,Tryz.ntmps126
   go_wp2_with fail
   refine(FA.out _).mono ?_;rintro e w2⟨rfl,hw⟩;obtain rfl:=hw;go_wp2_with fail
   refine(FB.out _).mono ?_;rintro e w2⟨rfl,hw⟩;obtain rfl:=hw;go_wp2_with fail
   refine(FC.out _).mono ?_;rintro e w2⟨rfl,hw⟩;obtain rfl:=hw;go_wp2;go_ret;exact⟨rfl,HB.out⟩
 . rw[decide_eq_false (fun e=>hz (ao8.1 e))]at ea
   replace ea:=aoZ ea;rw[Bool.not_false]at ea;clear ha hb hc h0 hb1 hs1 b1 hz eb;go_enter Tryz.func126,Tryz.ntmps126
   go_wp2_with fail
   refine(FA.out _).mono ?_;rintro e w2⟨rfl,hw⟩;obtain rfl:=hw;go_wp2_with fail
   refine(FB.out _).mono ?_;rintro e w2⟨rfl,hw⟩;obtain rfl:=hw;go_wp2_with fail
   refine(FC.out _).mono ?_;rintro e w2⟨rfl,hw⟩;obtain rfl:=hw;go_wp2;go_ret;exact⟨rfl,HB.out⟩
theorem asC(ha:a<18446744073709551616)(hb:b<18446744073709551616)(hc:c<18446744073709551616)(h:¬apA a b c):Calls Tryz.prog 126 #[curV 1 a b c] w (an9 w 5):=by
 obtain⟨w1,hw1,hb1,hs1,b1⟩:=pro1 w (curO 1 a b c);obtain⟨c0,c1,c2,c3⟩:=aY b1;have HB:=hdd hb1;have FA:Hid (∀w',Calls Tryz.prog 175 #[.float .f64 a] w' (RetB w' (decide (fin a)))):=hdd fun w'=>aoN ha;have FB:Hid (∀w',Calls Tryz.prog 175 #[.float .f64 b] w' (RetB w' (decide (fin b)))):=hdd fun w'=>aoN hb;have FC:Hid (∀w',Calls Tryz.prog 175 #[.float .f64 c] w' (RetB w' (decide (fin c)))):=hdd fun w'=>aoN hc;by_cases fa:fin a
 . rw[decide_eq_true fa]at FA
   by_cases fb:fin b
   . rw[decide_eq_true fb]at FB
     by_cases fc:fin c
     . rw[decide_eq_true fc]at FC
       have ea:=qJ (b:=a) fa.num num0;have eb:=qJ (b:=b) fb.num num0;rw[sr0,decide_eq_true (ao8.2 (Classical.byContradiction fun k=>h ⟨⟨ha,fa⟩,⟨hb,fb⟩,⟨hc,fc⟩,Or.inl k⟩))]at ea;rw[sr0,decide_eq_true (ao8.2 (Classical.byContradiction fun k=>h ⟨⟨ha,fa⟩,⟨hb,fb⟩,⟨hc,fc⟩,Or.inr k⟩))]at eb;replace ea:=aoZ ea;replace eb:=aoZ eb;rw[Bool.not_true]at ea eb;clear ha hb hc h hb1 hs1 b1 fa fb fc;go_enter Tryz.func126,Tryz.ntmps126
       go_wp2_with fail
       refine(FA.out _).mono ?_;rintro e w2⟨rfl,hw⟩;obtain rfl:=hw;go_wp2_with fail
       refine(FB.out _).mono ?_;rintro e w2⟨rfl,hw⟩;obtain rfl:=hw;go_wp2_with fail
       refine(FC.out _).mono ?_;rintro e w2⟨rfl,hw⟩;obtain rfl:=hw;go_wp2_with fail
       refine degen_any.mono ?_;rintro e w2⟨rfl,hw⟩;obtain rfl:=hw;go_wp2_with fail
       refine in_line.mono ?_;rintro e w2 hr;obtain⟨er,n,rfl,-⟩:=id hr;have HR:=hdd hr;clear hr;go_wp2;go_ret;exact HR.out.up HB.out
     . rw[decide_eq_false fc]at FC
       clear ha hb hc h hb1 hs1 b1 fa fb fc;go_enter Tryz.func126,Tryz.ntmps126
       go_wp2_with fail
       refine(FA.out _).mono ?_;rintro e w2⟨rfl,hw⟩;obtain rfl:=hw;go_wp2_with fail
       refine(FB.out _).mono ?_;rintro e w2⟨rfl,hw⟩;obtain rfl:=hw;go_wp2_with fail
       refine(FC.out _).mono ?_;rintro e w2⟨rfl,hw⟩;obtain rfl:=hw;go_wp2_with fail
       refine degen_any.mono ?_;rintro e w2⟨rfl,hw⟩;obtain rfl:=hw;go_wp2_with fail
       refine in_line.mono ?_;rintro e w2 hr;obtain⟨er,n,rfl,-⟩:=id hr;have HR:=hdd hr;clear hr;go_wp2;go_ret;exact HR.out.up HB.out
   . rw[decide_eq_false fb]at FB
     clear ha hb hc h hb1 hs1 b1 fa fb FC;go_enter Tryz.func126,Tryz.ntmps126
     go_wp2_with fail
     refine(FA.out _).mono ?_;rintro e w2⟨rfl,hw⟩;obtain rfl:=hw;go_wp2_with fail
     refine(FB.out _).mono ?_;rintro e w2⟨rfl,hw⟩;obtain rfl:=hw;go_wp2_with fail
     refine degen_any.mono ?_;rintro e w2⟨rfl,hw⟩;obtain rfl:=hw;go_wp2_with fail
     refine in_line.mono ?_;rintro e w2 hr;obtain⟨er,n,rfl,-⟩:=id hr;have HR:=hdd hr;clear hr;go_wp2;go_ret;exact HR.out.up HB.out
 . rw[decide_eq_false fa]at FA
   clear ha hb hc h hb1 hs1 b1 fa FB FC;go_enter Tryz.func126,Tryz.ntmps126
   go_wp2_with fail
   refine(FA.out _).mono ?_;rintro e w2⟨rfl,hw⟩;obtain rfl:=hw;go_wp2_with fail
   refine degen_any.mono ?_;rintro e w2⟨rfl,hw⟩;obtain rfl:=hw;go_wp2_with fail
   refine in_line.mono ?_;rintro e w2 hr;obtain⟨er,n,rfl,-⟩:=id hr;have HR:=hdd hr;clear hr;go_wp2;go_ret;exact HR.out.up HB.out
theorem apT:FlOk 0:=⟨by decide,by decide⟩
theorem as4:(0:Int)<U74:=by have h:0<U74:=ah8 1074;omega
theorem aoS(h:apA a b c):Calls Tryz.prog 79 #[curV 1 a b c] w (RetV w .nilIface):=by
 obtain⟨w1,hw1,hb1,hs1,b1⟩:=pro1 w (curO 1 a b c);obtain⟨c0,c1,c2,c3⟩:=aY b1;have HB:=hdd hb1;have HL:=hdd (as3 (w:=w1) h);clear h hb1 hs1 b1;go_enter Tryz.func79,Tryz.ntmps79
 go_wp2_with fail
 refine HL.out.mono ?_;rintro e w2⟨rfl,hb⟩;have HB2:=hdd (HB.out.trans (hb.mono HB.out.size));clear hb;go_wp2;go_ret;exact⟨rfl,HB2.out⟩
def ao4(a b c:Nat):Prop:=FlOk a/\FlOk b/\FlOk c/\0<=fv c
theorem ao0(h:ao4 a b c):Calls Tryz.prog 79 #[curV 2 a b c] w (RetV w .nilIface):=by
 obtain⟨w1,hw1,hb1,hs1,b1⟩:=pro1 w (curO 2 a b c);obtain⟨c0,c1,c2,c3⟩:=aY b1;have HB:=hdd hb1;have HL:=hdd (as2 (w:=w1) h.1 h.2.1 h.2.2.1 h.2.2.2);clear h hb1 hs1 b1;go_enter Tryz.func79,Tryz.ntmps79
 go_wp2_with fail
 refine HL.out.mono ?_;rintro e w2⟨rfl,hb⟩;have HB2:=hdd (HB.out.trans (hb.mono HB.out.size));clear hb;go_wp2;go_ret;exact⟨rfl,HB2.out⟩
end
end Go.Proofs.YtkpodipoegbclaaGreatDoor
