/- A part of the proof: contracts of functions and plain laws (RkA, RkB, RkC, RkD, RkE). -/
import Derived.Test.YtkpodipoegbclaaGreatDoorK01
import Derived.Test.YtkpodipoegbclaaGreatDoorK17
set_option linter.unusedVariables false
set_option linter.unusedSimpArgs false
set_option maxHeartbeats 25600000
set_option maxRecDepth 100000
namespace Go.Proofs.YtkpodipoegbclaaGreatDoor
section
open List renaming mem_cons_self->azV,mem_cons_of_mem->azW,mem_singleton->azX,mem_cons->azY,mem_append->azZ,flatten_cons->az0,cons_append->az1,append_assoc->az2,getLast?_cons_cons->az3,length_cons->az4,append_nil->az5
def jQ(v:Nat->Int)(i:Nat):List Nat->List Nat
 |[]=>[i]
 |x::xs=>if v i<v x/\∀y∈xs,v i<v y then i::x::xs else x::jQ v i xs
def rkIns(v:Nat->Int)(i:Nat):List (List Nat)->List (List Nat)
 |[]=>[[i]]
 |[]::gs=>rkIns v i gs
 |(x::g)::gs=>if v i<v x then[i]::(x::g)::gs else if v i=v x then(x::g++[i])::gs else(x::g)::rkIns v i gs
def RkGood(v:Nat->Int):List (List Nat)->Prop
 |[]=>True
 |g::gs=>g≠[]/\(∀x∈g,∀y∈g,v x=v y)/\(∀x∈g,∀h∈gs,∀y∈h,v x<v y)/\RkGood v gs
theorem qO{v:Nat->Int}{i:Nat}:∀{gs:List (List Nat)} {h:List Nat} {y:Nat},h∈rkIns v i gs->y∈h->y=i\/∃h'∈gs,y∈h'
 |[],h,y,h1,h2=>by
  simp only[rkIns,azX]at h1;subst h1;exact Or.inl (azX.1 h2)
 |[]::gs,h,y,h1,h2=>by
  rw[rkIns]at h1;rcases qO h1 h2 with e|⟨h',a,b⟩
  . exact Or.inl e
  . exact Or.inr ⟨h',azW _ a,b⟩
 |(x::g)::gs,h,y,h1,h2=>by
  rw[rkIns]at h1
  split at h1
  . rcases azY.1 h1 with rfl|h1
    . exact Or.inl (azX.1 h2)
    . exact Or.inr ⟨h,h1,h2⟩
  . split at h1
    . rcases azY.1 h1 with rfl|h1
      . rcases azZ.1 h2 with h2|h2
        . exact Or.inr ⟨_,azV ..,h2⟩
        . exact Or.inl (azX.1 h2)
      . exact Or.inr ⟨h,azW _ h1,h2⟩
    . rcases azY.1 h1 with rfl|h1
      . exact Or.inr ⟨_,azV ..,h2⟩
      . rcases qO h1 h2 with e|⟨h',a,b⟩
        . exact Or.inl e
        . exact Or.inr ⟨h',azW _ a,b⟩
theorem RkGood.rkIns {v:Nat->Int}{i:Nat}:∀{gs:List (List Nat)},RkGood v gs->RkGood v (rkIns v i gs)
 |[],_=>⟨by simp,by simp,by simp,trivial⟩
 |[]::gs,h=>absurd rfl h.1
 |(x::g)::gs,⟨h1,h2,h3,h4⟩=>by
  rw[YtkpodipoegbclaaGreatDoor.rkIns];have hx:∀y∈x::g,v y=v x:=fun y hy=>h2 y hy x (azV ..)
  split
  . rename_i hl
    refine⟨by simp,by simp,fun a ha b hb y hy=> ?_,h1,h2,h3,h4⟩;rw[azX.1 ha];rcases azY.1 hb with rfl|hb
    . rw[hx y hy];exact hl
    . exact Int.lt_trans hl (h3 x (azV ..) b hb y hy)
  . split
    . rename_i hl he
      refine⟨by simp,fun a ha b hb=> ?_,fun a ha b hb y hy=> ?_,h4⟩
      . have e:∀c∈x::g++[i],v c=v x:=fun c hc=>by
         rcases azZ.1 hc with hc|hc
         . exact hx c hc
         . rw[azX.1 hc];exact he
        rw[e a ha,e b hb]
      . have e:v a=v x:=by
         rcases azZ.1 ha with hc|hc
         . exact hx a hc
         . rw[azX.1 hc];exact he
        rw[e];exact h3 x (azV ..) b hb y hy
    . rename_i hl he
      refine⟨h1,h2,fun a ha b hb y hy=> ?_,RkGood.rkIns h4⟩;rcases qO hb hy with rfl|⟨h',c,d⟩
      . rw[hx a ha];omega
      . exact h3 a ha h' c y d
theorem vF{v:Nat->Int}{i:Nat}:∀{t r:List Nat},(∀y∈t,v y<=v i)->jQ v i (t++r)=t++jQ v i r
 |[],_,_=>rfl
 |y::t,r,h=>by
  have:=h y (azV ..);rw[az1,jQ,if_neg (fun k=>by have:=k.1;omega),vF (fun z hz=>h z (azW _ hz))];rfl
theorem qP{v:Nat->Int}{i:Nat}:∀{r:List Nat},(∀y∈r,v i<v y)->jQ v i r=i::r
 |[],_=>rfl
 |y::r,h=>by rw[jQ,if_pos ⟨h y (azV ..),fun z hz=>h z (azW _ hz)⟩]
theorem xS{v:Nat->Int}{i:Nat}:∀{gs:List (List Nat)},RkGood v gs->jQ v i gs.flatten=(rkIns v i gs).flatten
 |[],_=>rfl
 |[]::gs,h=>absurd rfl h.1
 |(x::t)::gs,⟨_,h2,h3,h4⟩=>by
  have hx:∀y∈x::t,v y=v x:=fun y hy=>h2 y hy x (azV ..);have hr:∀y∈gs.flatten,v x<v y:=fun y hy=>by
   obtain⟨h,a,b⟩:=List.mem_flatten.1 hy;exact h3 x (azV ..) h a y b
  rw[YtkpodipoegbclaaGreatDoor.rkIns,az0];by_cases a:v i<v x
  . rw[if_pos a,qP (fun y hy=>by
     rcases azZ.1 hy with hy|hy
     . rw[hx y hy];exact a
     . have:=hr y hy;omega)];rfl
  . rw[if_neg a,vF (fun y hy=>by rw[hx y hy];omega)]
    by_cases b:v i=v x
    . rw[if_pos b,qP (fun y hy=>by have:=hr y hy;omega),az0,az2];rfl
    . rw[if_neg b,xS h4,az0]
def bV(v:Nat->Int):Nat->List Nat
 |0=>[]
 |m+1=>jQ v m (bV v m)
def nM(v:Nat->Int):Nat->List (List Nat)
 |0=>[]
 |m+1=>rkIns v m (nM v m)
theorem nW(v:Nat->Int):∀m,RkGood v (nM v m)
 |0=>trivial
 |m+1=>(nW v m).rkIns
theorem vG(v:Nat->Int):∀m,bV v m=(nM v m).flatten
 |0=>rfl
 |m+1=>by rw[bV,vG v m,xS (nW v m)];rfl
def nN(v:Nat->Int)(gs:List (List Nat))(p:Option Nat)(i:Nat):List (List Nat):=
 match p with
 |none=>gs++[[i]]
 |some j=>if v i=v j then gs.dropLast++[(gs.getLast?.getD [])++[i]]else gs++[[i]]
def lY(v:Nat->Int):List (List Nat)->Option Nat->List Nat->List (List Nat)
 |gs,_,[]=>gs
 |gs,p,i::is=>lY v (nN v gs p i) (some i) is
theorem vH{v:Nat->Int}:∀{t r h:List Nat} {gs:List (List Nat)} {j:Nat},(∀y∈t,v y=v j)->∃j',v j'=v j/\lY v (gs++[h]) (some j) (t++r)=lY v (gs++[h++t]) (some j') r
 |[],r,h,gs,j,_=>⟨j,rfl,by rw[az5];rfl⟩
 |y::t,r,h,gs,j,hy=>by
  have e:=hy y (azV ..);obtain⟨j',h1,h2⟩:=vH (v:=v) (t:=t) (r:=r) (h:=h++[y]) (gs:=gs) (j:=y) (fun z hz=>by rw[hy z (azW _ hz),e]);refine⟨j',by rw[h1,e],?_⟩;rw[az1,lY];simp only[nN,if_pos e,List.dropLast_concat,List.getLast?_concat,Option.getD_some];rw[h2,az2];rfl
theorem vI{v:Nat->Int}:∀{gs g0:List (List Nat)} {p:Option Nat},RkGood v gs->(∀j,p=some j->∀h∈gs,∀y∈h,v j<v y)->lY v g0 p gs.flatten=g0++gs
 |[],g0,p,_,_=>by rw[az5];rfl
 |[]::gs,_,_,h,_=>absurd rfl h.1
 |(x::t)::gs,g0,p,⟨_,h2,h3,h4⟩,hp=>by
  have e:nN v g0 p x=g0++[[x]]:=by
   cases p with
   |none=>rfl
   |some j=>
    have:=hp j rfl _ (azV ..) x (azV ..);simp only[nN];rw[if_neg (by omega)]
  obtain⟨j',h5,h6⟩:=vH (v:=v) (t:=t) (r:=gs.flatten) (h:=[x]) (gs:=g0) (j:=x) (fun y hy=>h2 y (azW _ hy) x (azV ..));rw[az0,az1,lY,e,h6,vI h4 (fun j hj h hh y hy=>by
   cases hj;rw[h5];exact h3 x (azV ..) h hh y hy),az2];rfl
theorem agB(v:Nat->Int)(m:Nat):lY v [] none (bV v m)=nM v m:=by
 rw[vG,vI (nW v m) (fun _ h=>by cases h),List.nil_append]
theorem abG{v:Nat->Int}{i:Nat}:∀{p q:List Nat},(∀y∈q,v i<v y)->(∀z,p.getLast? =some z->¬v i<v z)->jQ v i (p++q)=p++i::q
 |[],q,hq,_=>qP hq
 |x::p,q,hq,hp=>by
  have ih:=abG (p:=p) hq (fun z hz=>hp z (by
   cases p with
   |nil=>simp at hz
   |cons y p=>rw[az3];exact hz))
  rw[az1,jQ,if_neg,ih]; · rfl
  rintro⟨h1,h2⟩
  cases p with
  |nil=>exact hp x rfl h1
  |cons y p=>
   obtain⟨z,hz⟩:∃z,(y::p).getLast? =some z:=by
    cases h:(y::p).getLast? with
    |none=>simp at h
    |some z=>exact⟨z,rfl⟩
   exact hp z (by rw[az3];exact hz) (h2 z (azZ.2 (Or.inl (List.mem_of_getLast? hz))))
theorem xU{v:Nat->Int}{i:Nat}:∀{l:List Nat},(jQ v i l).length=l.length+1
 |[]=>rfl
 |x::l=>by
  rw[jQ]
  split
  . rfl
  . rw[az4,xU,az4]
theorem dC(v:Nat->Int):∀m,(bV v m).length=m
 |0=>rfl
 |m+1=>by rw[bV,xU,dC v m]
theorem xV{v:Nat->Int}{i y:Nat}:∀{l:List Nat},y∈jQ v i l->y=i\/y∈l
 |[],h=>Or.inl (azX.1 h)
 |x::l,h=>by
  rw[jQ]at h
  split at h
  . exact azY.1 h
  . rcases azY.1 h with rfl|h
    . exact Or.inr (azV ..)
    . rcases xV h with h|h
      . exact Or.inl h
      . exact Or.inr (azW _ h)
theorem pG(v:Nat->Int):∀m,∀y∈bV v m,y<m
 |0,y,h=>by cases h
 |m+1,y,h=>by
  rcases xV h with rfl|h
  . exact Nat.lt_succ_self _
  . exact Nat.lt_succ_of_lt (pG v m y h)
end
section
open Go.RowKit Go.Maps
open List renaming mem_cons_self->az6,getElem?_eq_getElem->az7,mem_cons_of_mem->az8,nodup_cons->az9,map_cons->baA,mem_append->baB,mem_of_getElem?->baC
variable{L:List (Nat×Obj)}{o:List Nat}{j n x:Nat}
def numL(g:Nat):List Nat->List Value
 |[]=>[]
 |k::ks=>.pointer (some ⟨g,0,none⟩)::.int .i64 (k:Int)::numL g ks
theorem pI{g k:Nat}:∀{ids:List Nat} {sp:List Value} {j:Nat},ids[j]? =some k->(numL g ids++sp)[j*2]? =some (.pointer (some ⟨g,0,none⟩))/\(numL g ids++sp)[j*2+1]? =some (.int .i64 (k:Int))
 |[],_,_,h=>by simp at h
 |x::ids,sp,0,h=>by
  obtain rfl:x=k:=by simpa using h
  exact⟨rfl,rfl⟩
 |x::ids,sp,j+1,h=>by
  have:=pI (g:=g) (sp:=sp) (show ids[j]? =some k by simpa using h);rw[show(j+1)*2=j*2+1+1 by omega];exact this
def RowN(g:Nat)(v:Value)(ids:List Nat)(lr:List (Nat×Obj)):Prop:=
 (ids=[]/\v=.slice none 0 0/\lr=[])\/∃(b c:Nat) (sp:List Value),v=.slice (some ⟨b,0,none⟩) ids.length c/\lr=[(b,.cells (numL g ids++sp).toArray 26)]
section
variable{s:Bs}{g N b c m k:Nat}{K:List (Ex×Nat)}{l lr:List (Nat×Obj)}{W:World}{v:Value}{ids:List Nat}{sp:List Value}
theorem anA(hR:Run s g N K ([(b,.cells (numL g ids++sp).toArray 26)]++l) W)(h:ids[m]? =some k):W.cell? ⟨b,m*2,none⟩=some (.pointer (some ⟨g,0,none⟩))/\W.cell? ⟨b,m*2+1,none⟩=some (.int .i64 (k:Int)):=by
 have h0:=hR.at (az6 ..);exact⟨bZ h0 (pI h).1,bZ h0 (pI h).2⟩
theorem agC(hR:Run s g N K (lr++l) W)(hv:RowN g v ids lr)(hl:ids.length<=100)(hq:∀k∈ids,∃x q,(x,k)∈K/\gM PT x q):
 Calls Tryz.prog 71 #[v] W (fun e W'=>e=.returned .nilIface/\Run s g N K (lr++l) W'):=by
 rcases hv with ⟨rfl,rfl,rfl⟩|⟨b,c,sp,rfl,rfl⟩
 . have HR:=hdd hR
   clear hR hl hq;go_enter Tryz.func71,Tryz.ntmps71
   go_wp2_with fail
   refine wp_loop_rounds 1 ?_;rw[rounds_succ];go_wp2;go_ret;exact⟨rfl,HR.out⟩
 . have HR:=hdd hR;have HQ:=hdd hq
   have hlI:(ids.length:Int)<=100:=by omega
   clear hR hq;go_enter Tryz.func71,Tryz.ntmps71
   go_wp2_with fail
   go_loopw [9] (fun i wr=>∃m:Nat,m<=ids.length/\i=.int .i64 (m:Int)/\Hid (Run s g N K ([(b,.cells (numL g ids++sp).toArray 26)]++l) wr)) (fun i _=>((ids.length:Int)-intOf i).toNat)
   case atStart=>exact⟨0,Nat.zero_le _,rfl,HR⟩
   case round=>
    obtain⟨m,hm,rfl,HF⟩:=hrel;rcases Nat.lt_or_ge m ids.length with hlt|hge
    . obtain⟨x,hx⟩:∃x,ids[m]? =some x:=⟨_,az7 hlt⟩
      obtain⟨e,q,he,hS⟩:=HQ.out x (baC hx);obtain⟨x0,x1⟩:=anA HF.out hx;have hkI:(m:Int)<(ids.length:Int):=by omega
      have hk0:(0:Int)<=(m:Int):=by omega
      have HLT:=hdd hlt;have HC:=hdd (Run.sign (HF.out.alloc (.cells #[.pointer (some ⟨g,0,none⟩),.int .i64 (x:Int)] 26)) he hS);clear hx he hS HF hlt;go_wp2_with fail
      refine HC.out.mono ?_;rintro e2 w2⟨rfl,hR2⟩;have HR2:=hdd (hR2.sub (fun p hp=>az8 _ hp) (az9.1 (by have:=hR2.nodup;rwa[baA]at this)).2);clear hR2 HC x0 x1;go_wp2_with fail
      go_roundw
      case rel=>exact⟨m+1,by have:=HLT.out;omega,by go_num,HR2⟩
      case measure=>have:=HLT.out;simp[intOf];omega
    . have hme:m=ids.length:=by omega
      subst hme;clear hm hge;go_wp2;go_ret;exact⟨rfl,HF.out⟩
end
def zM(K:List (Ex×Nat))(κ:Nat->Int)(ids:List Nat):Prop:=
 (∀k∈ids,∃x q,(x,k)∈K/\gM PT x q)/\∀i j ki kj,ids[i]? =some ki->ids[j]? =some kj->∃x y,(x,ki)∈K/\(y,kj)∈K/\gM PT (.sub x y) (κ i-κ j).sign
theorem RowI.slice {v:Value}{lr:List (Nat×Obj)}(h:RowI v o lr):∃p c,v=.slice p o.length c:=by
 rcases h with ⟨rfl,rfl,-⟩|⟨r,sp,rfl,-,-⟩
 . exact⟨none,0,rfl⟩
 . exact⟨_,_,rfl⟩
theorem RowI.at {s:Bs}{g N:Nat}{K:List (Ex×Nat)}{l lr:List (Nat×Obj)}{W:World}{p:Option Addr}{c:Nat}(h:RowI (.slice p n c) o lr)(hR:Run s g N K (lr++l) W)(hx:o[j]? =some x):∃r,p=some ⟨r,0,none⟩/\W.cell? ⟨r,j,none⟩=some (.int .i64 (x:Int)):=by
 rcases h with ⟨rfl,-,-⟩|⟨r,sp,e,rfl,-⟩
 . simp at hx
 . simp only[Value.slice.injEq]at e
   refine⟨r,e.1,bZ (hR.at (az6 ..)) ?_⟩;have hj:j<(aF o).length:=by rw[bP];exact(List.getElem?_eq_some_iff.1 hx).1
   rw[List.getElem?_append_left hj];simp[aF,hx]
theorem RowI.cell {s:Bs}{g N:Nat}{K:List (Ex×Nat)}{l lr:List (Nat×Obj)}{W:World}{r c:Nat}(h:RowI (.slice (some ⟨r,0,none⟩) n c) o lr)(hR:Run s g N K (lr++l) W)(hx:o[j]? =some x):W.cell? ⟨r,j,none⟩=some (.int .i64 (x:Int)):=by
 obtain⟨r',e,hc⟩:=h.at hR hx;obtain rfl:r=r':=by simpa using e
 exact hc
theorem ajE{a b k:Int}(h:-1000000000000<a-b/\a-b<1000000000000)(e:k=a-b)(w:World):(binOp .sub 3 (.int .i64 a) (.int .i64 b)).run Tryz.prog w=.ok (.int .i64 k) w:=by
 have h1:=IntWalk.i64_in (a-b) (by omega);rw[e];simp[go_sem,h1]
section
variable{s:Bs}{g N:Nat}{K:List (Ex×Nat)}{l lr:List (Nat×Obj)}{W:World}{v:Value}{ids:List Nat}{κ:Nat->Int}
theorem row_in{b m k:Nat}{sp:List Value}(hR:Run s g N K L W)(hm:(b,.cells (numL g ids++sp).toArray 26)∈L)(h:ids[m]? =some k):W.cell? ⟨b,m*2,none⟩=some (.pointer (some ⟨g,0,none⟩))/\W.cell? ⟨b,m*2+1,none⟩=some (.int .i64 (k:Int)):=by
 have h0:=hR.at hm;exact⟨bZ h0 (pI h).1,bZ h0 (pI h).2⟩
theorem abH{M m w1 at':Nat}{a:Obj}{lm:List (Nat×Obj)}(hR:Run s g M K ((w1,a)::(lm++L)) W)(hv:RowI v (bV κ m) lm)(hat:at'<=m)(h1:∀y∈(bV κ m).drop at',κ m<κ y)(h2:∀z,((bV κ m).take at').getLast? =some z->¬κ m<κ z)(hm:m<1000):
 Calls Tryz.prog 73 #[v,.int .i64 (at':Int),.slice (some ⟨W.heap.size,0,none⟩) 1 1] (W.alloc (.cells #[.int .i64 (m:Int)] 3)) (InsR s g M K L (bV κ (m+1))):=by
 have e:bV κ (m+1)=(bV κ m).take at'++m::(bV κ m).drop at':=by
  rw[bV,<-abG h1 h2,List.take_append_drop]
 rw[e];have hnd:=hR.nodup;rw[baA]at hnd;exact adG ((hR.sub (fun p hp=>az8 _ hp) (az9.1 hnd).2).alloc _) hv (by rw[dC];exact hat) (by rw[dC];exact hm)
def OrdR(s:Bs)(g N:Nat)(K:List (Ex×Nat))(l:List (Nat×Obj))(κ:Nat->Int)(n:Nat)(e:Ending)(W':World):Prop:=∃v' lr',e=.returned (.tuple #[v',.nilIface])/\RowI v' (bV κ n) lr'/\Run s g (N+n*n) K (lr'++l) W'
theorem xW(hR:Run s g N K (lr++l) W)(hv:RowN g v ids lr)(hl:ids.length<=100)(hN:N+ids.length*ids.length<=20000)(hq:zM K κ ids):
 Calls Tryz.prog 27 #[v] W (OrdR s g N K (lr++l) κ ids.length):=by
 have HS:=hdd (agC hR hv hl hq.1);rcases hv with ⟨rfl,rfl,rfl⟩|⟨b,c,sp,rfl,rfl⟩
 . clear hR hl hq hN
   go_enter Tryz.func27,Tryz.ntmps27
   go_wp2_with fail
   refine HS.out.mono ?_;rintro e w2⟨rfl,hR2⟩;have HR:=hdd hR2;clear hR2 HS;go_wp2_with fail
   refine wp_loop_rounds 1 ?_;rw[rounds_succ];go_wp2
   go_ret2
   exact⟨_,[],rfl,Or.inl ⟨rfl,rfl,rfl⟩,HR.out⟩
 . have HQ:=hdd hq.2;have HN:=hdd hN
   have hlI:(ids.length:Int)<=100:=by omega
   clear hR hq hN;go_enter Tryz.func27,Tryz.ntmps27
   go_wp2_with fail
   refine HS.out.mono ?_;rintro e w2⟨rfl,hR2⟩;have HR:=hdd hR2;clear hR2 HS;go_wp2_with fail
   go_loopw [5,18] (fun v i wr=>∃(m:Nat) (lm:List (Nat×Obj)),m<=ids.length/\i=.int .i64 (m:Int)/\RowI v (bV κ m) lm/\Hid (Run s g (N+m*ids.length) K (lm++([(b,.cells (numL g ids++sp).toArray 26)]++l)) wr)) (fun _ i _=>((ids.length:Int)-intOf i).toNat)
   case atStart=>exact⟨0,[],Nat.zero_le _,rfl,Or.inl ⟨rfl,rfl,rfl⟩,hdd (HR.out.more (by omega))⟩
   case round=>
    obtain⟨m,lm,hm,rfl,hrow,HF⟩:=hrel;rcases Nat.lt_or_ge m ids.length with hlt|hge
    . obtain⟨x,hx⟩:∃x,ids[m]? =some x:=⟨_,az7 hlt⟩
      obtain⟨pa,ca,rfl⟩:=hrow.slice;have hRo:=hdd hrow;rw[dC]at hRo|-;obtain⟨x0,x1⟩:=row_in HF.out (baB.2 (Or.inr (az6 ..))) hx;obtain⟨w5,hw5,hb5,hs5,b5⟩:=pro1 wr (.cells #[.pointer (some ⟨g,0,none⟩),.int .i64 (x:Int)] 26);have R5:Hid (Run s g (N+m*ids.length) K ((wr.heap.size,.cells #[.pointer (some ⟨g,0,none⟩),.int .i64 (x:Int)] 26)::(lm++([(b,.cells (numL g ids++sp).toArray 26)]++l))) w5):=hdd (hw5▸HF.out.alloc _);have hkI:(m:Int)<(ids.length:Int):=by omega
      have hk0:(0:Int)<=(m:Int):=by omega
      have HLT:=hdd hlt;have HX:=hdd hx;clear hrow HF hb5 hs5 b5 hlt hx;go_wp2_with fail
      generalize hq1:wr.heap.size=w1 at R5|-
      go_loopw [8] (fun a wr=>∃at':Nat,at'<=m/\a=.int .i64 (at':Int)/\Hid ((∀y∈(bV κ m).drop at',κ m<κ y)/\Run s g (N+m*ids.length+(m-at')) K ((w1,.cells #[.pointer (some ⟨g,0,none⟩),.int .i64 (x:Int)] 26)::(lm++([(b,.cells (numL g ids++sp).toArray 26)]++l))) wr)) (fun a _=>(intOf a).toNat)
      case atStart=>exact⟨m,Nat.le_refl _,rfl,hdd ⟨fun y hy=>(by rw[List.drop_eq_nil_of_le (by rw[dC];exact Nat.le_refl _)]at hy;cases hy),R5.out.more (by omega)⟩⟩
      case round=>
       obtain⟨at',ha,rfl,HI⟩:=hrel;have HHA:=hdd ha
       cases at' with
       |zero=>
        have HB:Hid (m*ids.length+ids.length=(m+1)*ids.length):=hdd (Nat.succ_mul _ _).symm;have HI2:=hdd (abH (at':=0) HI.out.2 hRo.out (Nat.zero_le _) HI.out.1 (fun z hz=>by simp at hz) (by have:=HLT.out;omega));clear HI;go_wp2_with fail
        refine HI2.out.mono ?_;rintro e8 w8⟨v8,l8,rfl,hv8,hR8⟩;have HV8:=hdd hv8;have HR8:=hdd hR8;clear hv8 hR8 HI2;go_wp2_with fail
        go_roundw
        case rel=>exact⟨m+1,l8,by have:=HLT.out;omega,by go_num,HV8.out,hdd (HR8.out.more (by have h3:=HB.out;have h4:=HHA.out;have h5:=HLT.out;omega))⟩
        case measure=>have:=HLT.out;simp[intOf];omega
       |succ t=>
        obtain⟨y,hy⟩:∃y,(bV κ m)[t]? =some y:=⟨_,az7 (by rw[dC];omega)⟩;have hym:=pG κ m y (baC hy);obtain⟨ky,hky⟩:∃k,ids[y]? =some k:=⟨_,az7 (by have:=HLT.out;omega)⟩;obtain⟨e1,e2,he1,he2,hS⟩:=HQ.out m y x ky HX.out hky;have RD:=hdd HI.out.2.drew;obtain⟨r,rfl,c0⟩:=hRo.out.at (RD.out.sub (l':=lm++([(b,.cells (numL g ids++sp).toArray 26)]++l)) (fun p hp=>az8 _ hp) (az9.1 (by have:=RD.out.nodup;rwa[baA]at this)).2) hy;obtain⟨d0,d1⟩:=row_in RD.out (az8 _ (baB.2 (Or.inr (az6 ..)))) hky;have q0:=RD.out.at (az6 ..);have f0:=bZ (k:=0) (v:=.pointer (some ⟨g,0,none⟩)) q0 rfl;have f1:=bZ (k:=1) (v:=.int .i64 (x:Int)) q0 rfl;have hN2:=HN.out;have HC:=hdd (RD.out.cmp (by have:=HLT.out;have h3:m*ids.length+ids.length<=ids.length*ids.length:=(by rw[<-Nat.succ_mul];exact Nat.mul_le_mul_right _ (by omega));omega) he1 he2 hS);obtain⟨q,hqq⟩:∃q,(κ m-κ y).sign=q:=⟨_,rfl⟩
        rw[hqq]at HC;have HQQ:=hdd hqq;have HYM:=hdd hym;have HY:=hdd hy;have hyI:(y:Int)<(ids.length:Int):=by have:=HLT.out;omega
        have hy0:(0:Int)<=(y:Int):=by omega
        have htI:(t:Int)<(m:Int):=by omega
        have ht0:(0:Int)<=(t:Int):=by omega
        have HKY:=hdd hky;obtain⟨A,hA⟩:∃A,((t+1:Nat):Int)=A:=⟨_,rfl⟩;rw[hA];have hA1:(0:Int)<A:=by omega
        have hsb:=ajE (a:=A) (b:=1) (k:=(t:Int)) (by have:=HLT.out;omega) (by omega);have hwr:IntKind.i64.wrap (A-1)=(t:Int):=by rw[IntWalk.i64_in _ (by have:=HLT.out;omega)];omega
        have HA:=hdd hA;clear hA;clear he1 he2 hS q0 hky hN2 hqq hym hy;go_wp2_with fail
        go_region_held3 (fun w'=>w'.cell? ⟨r,t,none⟩=some (.int .i64 (y:Int))/\w'.cell? ⟨b,y*2,none⟩=some (.pointer (some ⟨g,0,none⟩))/\w'.cell? ⟨b,y*2+1,none⟩=some (.int .i64 (ky:Int))/\w'.cell? ⟨w1,0,none⟩=some (.pointer (some ⟨g,0,none⟩))/\w'.cell? ⟨w1,1,none⟩=some (.int .i64 (x:Int))) (go_keep)
         (first
         |(go_at_call 21
           with_reducible refine HC.out.mono ?_
           rintro e w6⟨rfl,hR6⟩;have R6:=hdd hR6;have c0:=hRo.out.cell (R6.out.sub (l':=lm++([(b,.cells (numL g ids++sp).toArray 26)]++l)) (fun p hp=>az8 _ hp) (az9.1 (by have:=R6.out.nodup;rwa[baA]at this)).2) HY.out;obtain⟨d0,d1⟩:=row_in R6.out (az8 _ (baB.2 (Or.inr (az6 ..)))) HKY.out;have q0:=R6.out.at (az6 ..);have f0:=bZ (k:=0) (v:=.pointer (some ⟨g,0,none⟩)) q0 rfl;have f1:=bZ (k:=1) (v:=.int .i64 (x:Int)) q0 rfl;clear q0;clear hR6))
        have HB:Hid (m*ids.length+ids.length=(m+1)*ids.length):=hdd (Nat.succ_mul _ _).symm;by_cases hq:q<0
        . have h1:decide (0<=q)=false:=decide_eq_false (by omega)
          have h2:decide (q>=0)=false:=decide_eq_false (by omega);have HT:Hid ((∀z∈(bV κ m).drop t,κ m<κ z)/\Run s g (N+m*ids.length+(m-t)) K ((w1,.cells #[.pointer (some ⟨g,0,none⟩),.int .i64 (x:Int)] 26)::(lm++([(b,.cells (numL g ids++sp).toArray 26)]++l))) w6):=hdd ⟨fun z hz=>by
           have hk:κ m<κ y:=by
            have:=HQQ.out;rcases Int.lt_trichotomy (κ m-κ y) 0 with h|h|h
            . omega
            . rw[h]at this;simp at this;omega
            . rw[Int.sign_eq_one_of_pos h]at this;omega
           rw[List.drop_eq_getElem_cons (by rw[dC];have:=htI;omega)]at hz;rcases List.mem_cons.1 hz with rfl|hz
           . have e3:=HY.out
             rw[az7 (by rw[dC];have:=htI;omega)]at e3;rw[Option.some.inj e3];exact hk
           . exact HI.out.1 z hz,R6.out.more (by have:=htI;omega)⟩
          clear HI R6 RD c0 d0 d1 f0 f1 HC;go_wp2_with fail
          go_roundw
          case rel=>exact⟨t,by have:=htI;omega,rfl,HT⟩
          case measure=>have:=HA.out;simp[intOf];omega
        . have h1:decide (0<=q)=true:=decide_eq_true (by omega)
          have h2:decide (q>=0)=true:=decide_eq_true (by omega);have HI2:=hdd (abH (at':=t+1) R6.out hRo.out HHA.out HI.out.1 (fun z hz=>by
           have e3:(bV κ m).take (t+1)=(bV κ m).take t++[y]:=by rw[List.take_add_one,HY.out];rfl
           rw[e3,List.getLast?_concat]at hz;obtain rfl:=Option.some.inj hz;intro hk;have:=HQQ.out;rw[Int.sign_eq_neg_one_of_neg (by omega)]at this;omega) (by have:=HLT.out;omega))
          rw[HA.out]at HI2;clear HI R6 RD c0 d0 d1 f0 f1 HC;go_wp2_with fail
          refine HI2.out.mono ?_;rintro e8 w8⟨v8,l8,rfl,hv8,hR8⟩;have HV8:=hdd hv8;have HR8:=hdd hR8;clear hv8 hR8 HI2;go_wp2_with fail
          go_roundw
          case rel=>exact⟨m+1,l8,by have:=HLT.out;omega,by go_num,HV8.out,hdd (HR8.out.more (by have h3:=HB.out;have h4:=HHA.out;have h5:=HLT.out;omega))⟩
          case measure=>have:=HLT.out;simp[intOf];omega
    . have hme:m=ids.length:=by omega
      subst hme;obtain⟨pa,ca,rfl⟩:=hrow.slice;have HO:=hdd hrow;clear hm hge hrow;go_wp2
      go_ret2
      exact⟨_,lm,rfl,HO.out,HF.out⟩
end
end
section

end
section
open Go.RowKit Go.Maps
open Go.Value renaming oneCell'->baM
open List renaming length_singleton->baD,length_append->baE,append_assoc->baF,getElem?_eq_getElem->baG,sublist_append_right->baH,sublist_cons_self->baI,mem_append->baK,perm_append_comm_assoc->baL,mem_of_getElem?->baN,mem_singleton->baO,length_cons->baP
open Nat renaming zero_le->baJ
def RowsG:List Value->List (List Nat)->List (Nat×Obj)->Prop
 |[],[],l=>l=[]
 |v::vs,o::gs,l=>∃l1 l2,l=l1++l2/\OwnR 3 1 v o.length (aF o) l1/\RowsG vs gs l2
 |_,_,_=>False
theorem RowsG.len:∀{vs:List Value} {gs:List (List Nat)} {l:List (Nat×Obj)},RowsG vs gs l->vs.length=gs.length
 |[],[],_,_=>rfl
 |_::vs,_::gs,_,⟨_,_,_,_,h⟩=>by rw[baP,baP,RowsG.len h]
 |[],_::_,_,h=>h.elim
 |_::_,[],_,h=>h.elim
theorem RowsG.snoc {v:Value}{o:List Nat}{l1:List (Nat×Obj)}(h1:OwnR 3 1 v o.length (aF o) l1):∀{vs:List Value} {gs:List (List Nat)} {l:List (Nat×Obj)},RowsG vs gs l->RowsG (vs++[v]) (gs++[o]) (l++l1)
 |[],[],_,h=>by
  subst h;exact⟨l1,[],by simp,h1,rfl⟩
 |_::vs,_::gs,_,⟨a,b,e,h2,h3⟩=>⟨a,b++l1,by rw[e,baF],h2,RowsG.snoc h1 h3⟩
 |[],_::_,_,h=>h.elim
 |_::_,[],_,h=>h.elim
theorem RowsG.last {o:List Nat}:∀{vs:List Value} {gs:List (List Nat)} {l:List (Nat×Obj)},RowsG vs (gs++[o]) l->∃vs0 v l0 l1,vs=vs0++[v]/\l=l0++l1/\RowsG vs0 gs l0/\OwnR 3 1 v o.length (aF o) l1
 |[],[],_,h=>h.elim
 |[],_::_,_,h=>h.elim
 |v::[],[],_,⟨a,b,e,h2,h3⟩=>by
  obtain rfl:b=[]:=h3;exact⟨[],v,[],a,rfl,by rw[e];simp,rfl,h2⟩
 |_::_::_,[],_,⟨_,_,_,_,h3⟩=>h3.elim
 |v::vs,x::gs,_,⟨a,b,e,h2,h3⟩=>by
  obtain⟨vs0,w,l0,l1,rfl,rfl,h4,h5⟩:=RowsG.last (gs:=gs) h3;exact⟨v::vs0,w,a++l0,l1,rfl,by rw[e,baF],⟨a,l0,rfl,h2,h4⟩,h5⟩
theorem aeF:Tryz.prog.underlying 58=some (.slice 48):=by kernel_rfl
theorem alI:(Tryz.prog.info? 48).map (fun i=>(i.zero,i.size,i.bytes))=some (some (.slice none 0 0),1,24):=by kernel_rfl
theorem rot3{α:Type}(a b c d:List α):(a++(b++(c++d))).Perm (c++(a++(b++d))):=
 (List.Perm.append_left a (baL b c d)).trans (baL a c (b++d))
section
variable{s:Bs}{g N:Nat}{K:List (Ex×Nat)}{l lr:List (Nat×Obj)}{W:World}{v:Value}{ids:List Nat}{κ:Nat->Int}
def GrpV(v:Value)(gs:List (List Nat))(lr:List (Nat×Obj)):Prop:=∃vs lo lg,OwnR 48 1 v gs.length vs lo/\RowsG vs gs lg/\lr=lo++lg
def GrpR(s:Bs)(g N:Nat)(K:List (Ex×Nat))(l:List (Nat×Obj))(κ:Nat->Int)(n:Nat)(e:Ending)(W':World):Prop:=∃v' lr',e=.returned (.tuple #[v',.nilIface])/\GrpV v' (nM κ n) lr'/\Run s g (N+n*n+n) K (lr'++l) W'
def lZ(o:List Nat)(k:Nat):Option Nat:=if k=0 then none else o[k-1]?
def CSt(s:Bs)(g N:Nat)(K:List (Ex×Nat))(L:List (Nat×Obj))(κ:Nat->Int)(n k i r cap M:Nat)(vs0:List Value)(pl:Option Addr)(gl:List Nat)(cl:Nat)(la lb lq:List (Nat×Obj))(gs0:List (List Nat))(W:World):Prop:=
 M=gs0.length+1/\OwnR 48 1 (.slice (some ⟨r,0,none⟩) M cap) M (vs0++[.slice pl gl.length cl]) lq/\RowsG vs0 gs0 la/\OwnR 3 1 (.slice pl gl.length cl) gl.length (aF gl) lb/\Run s g N K (lq++(la++(lb++L))) W/\
 lY κ (gs0++[gl++[i]]) (lZ (bV κ n) (k+1)) ((bV κ n).drop (k+1))=nM κ n/\gs0.length<=k/\(∀o∈gs0,o.length<=k)/\gl.length<=k
theorem vJ(hR:Run s g N K (lr++l) W)(hv:RowN g v ids lr)(hl:ids.length<=100)(hN:N+ids.length*ids.length+ids.length<=20000)(hq:zM K κ ids):
 Calls Tryz.prog 28 #[v] W (GrpR s g N K (lr++l) κ ids.length):=by
 have HS:=hdd (xW hR hv hl (by omega) hq);have hrow:(∃b c sp,v=.slice (some ⟨b,0,none⟩) ids.length c/\lr=[(b,.cells (numL g ids++sp).toArray 26)])\/ids.length=0:=by
  rcases hv with ⟨rfl,-,-⟩|⟨b,c,sp,h1,h2⟩
  . exact Or.inr rfl
  . exact Or.inl ⟨b,c,sp,h1,h2⟩
 have HQ:=hdd hq.2;have HN:=hdd hN;have HROW:=hdd hrow;obtain⟨i0,hi0,hz0,hz1,hz2⟩:=info_parts o6;obtain⟨j0,hj0,hy0,hy1,hy2⟩:=info_parts alI;have HI0:=hdd hi0;have HZ0:=hdd hz0;have HZ1:=hdd hz1;have HZ2:=hdd hz2;have HJ0:=hdd hj0;have HY0:=hdd hy0;have HY1:=hdd hy1;have HY2:=hdd hy2;have hlI:(ids.length:Int)<=100:=by omega
 clear hR hN hv hq hrow hi0 hz0 hz1 hz2 hj0 hy0 hy1 hy2;go_enter Tryz.func28,Tryz.ntmps28
 go_wp2_with fail
 refine HS.out.mono ?_;rintro e w2⟨vo,lo,rfl,hvo,hR2⟩;have HVO:=hdd hvo;obtain⟨pa,ca,rfl⟩:=hvo.slice;rw[dC]at HVO|-;have HR:=hdd hR2;clear hR2 HS hvo;go_wp2_with fail
 go_loopw [6,23] (fun v i wr=>∃(k:Nat) (gs:List (List Nat)) (lg:List (Nat×Obj)),k<=ids.length/\i=.int .i64 (k:Int)/\GrpV v gs lg/\(gs.length<=k/\∀o∈gs,o.length<=k)/\lY κ gs (lZ (bV κ ids.length) k) ((bV κ ids.length).drop k)=nM κ ids.length/\(0<k->gs≠[])/\Hid (Run s g (N+ids.length*ids.length+k) K (lg++(lo++(lr++l))) wr)) (fun _ i _=>((ids.length:Int)-intOf i).toNat)
 case atStart=>exact⟨0,[],[],baJ _,rfl,⟨[],[],[],OwnR.nil _ _,rfl,rfl⟩,⟨baJ _,fun o h=>by cases h⟩,agB κ ids.length,fun h=>absurd h (by omega),HR⟩
 case round=>
  obtain⟨k,gs,lg,hk,rfl,hgv,hgl,hall,hne,HF⟩:=hrel;have HGL:=hdd hgl;clear hgl;rcases Nat.lt_or_ge k ids.length with hlt|hge
  . obtain⟨i,hi⟩:∃i,(bV κ ids.length)[k]? =some i:=⟨_,baG (by rw[dC];exact hlt)⟩
    have him:=pG κ _ i (baN hi);have hpos:0<ids.length:=by omega
    obtain⟨b,c,sp,rfl,rfl⟩:=HROW.out.resolve_right (by omega);have HD:Hid (lY κ (nN κ gs (lZ (bV κ ids.length) k) i) (lZ (bV κ ids.length) (k+1)) ((bV κ ids.length).drop (k+1))=nM κ ids.length):=hdd (by
     have e:(bV κ ids.length).drop k=i::(bV κ ids.length).drop (k+1):=by
      rw[List.drop_eq_getElem_cons (by rw[dC];exact hlt)];rw[baG (by rw[dC];exact hlt)]at hi;rw[Option.some.inj hi]
     rw[e,lY]at hall;have e2:lZ (bV κ ids.length) (k+1)=some i:=by unfold lZ;rw[if_neg (by omega)];exact hi
     rw[e2];exact hall)
    obtain⟨vs,l1,l2,h1,h2,rfl⟩:=hgv;obtain⟨pg,cg,rfl⟩:=h1.slice;have HO1:=hdd h1;have HG2:=hdd h2;obtain⟨ra,rfl,c0⟩:=HVO.out.at (HF.out.subl (l':=lo++([(b,.cells (numL g ids++sp).toArray 26)]++l)) (baH _ _)) hi;have hkI:(k:Int)<(ids.length:Int):=by omega
    have hk0:(0:Int)<=(k:Int):=by omega
    have HLT:=hdd hlt;have HIM:=hdd him;have HI:=hdd hi;have HNE:=hdd hne;clear hall h1 h2 hlt him hi hne
    cases k with
    |zero=>
     obtain⟨w5,hw5,hb5,hs5,b5⟩:=pro1 wr (.cells #[.slice none 0 0] 48);have R5:Hid (Run s g (N+ids.length*ids.length+0) K ((wr.heap.size,.cells #[.slice none 0 0] 48)::((l1++l2)++(lo++([(b,.cells (numL g ids++sp).toArray 26)]++l)))) w5):=hdd (hw5▸HF.out.alloc _);have R6:=hdd (R5.out.subl (l':=l1++(l2++(lo++([(b,.cells (numL g ids++sp).toArray 26)]++l)))) (by rw[<-baF];exact baI _ _));have HC5:=hdd (dN b5);have HOW:=hdd (HO1.out.own R6.out);clear hb5 hs5 b5
     go_upto_region 16 with (first
      |(at_builtin
        go_loud (
        refine wpList_append_lies _ rfl _ _ 58 rfl 0 48 j0 (.slice none 0 0) 1 24 aeF HJ0.out HY0.out HY1.out HY2.out rfl (by decide) _ gs.length vs rfl HOW.out ⟨wr.heap.size,0,none⟩ 1 1 [.slice none 0 0] rfl rfl HC5.out (by simp[baM]) (by decide) (by have:=HGL.out.1;unfold maxLen;omega) (by have:=HGL.out.1;omega) (baJ _) w5.heap.size rfl ?_;intro r cap w6 hown6 hgrow6 hat6 hlt6;have HA6:=hdd (And.intro hown6 (And.intro hgrow6 hat6));clear hown6 hgrow6 hat6 hlt6)))
     obtain⟨lq,ho6,hR6⟩:=HO1.out.grow R6.out HA6.out.1 HA6.out.2.1 HA6.out.2.2;have HC:Hid (CSt s g (N+ids.length*ids.length+(0+1)) K (lo++([(b,.cells (numL g ids++sp).toArray 26)]++l)) κ ids.length 0 i r cap (gs.length+1) vs none [] 0 l2 [] lq gs w6):=hdd ⟨rfl,ho6,HG2.out,OwnR.nil _ _,hR6.more (by omega),by
      have:=HD.out;rw[show nN κ gs (lZ (bV κ ids.length) 0) i=gs++[[i]] from rfl]at this;exact this,HGL.out.1,HGL.out.2,baJ _⟩
     generalize gs.length+1=M at HC|-;clear ho6 hR6 HA6 HOW HC5 R5 R6 hw5 HG2 HO1 HF HD HGL HNE;obtain⟨gs0,gl,vs0,pl,cl,la,lb,HC⟩:∃gs0 gl vs0 pl cl la lb,Hid (CSt s g (N+ids.length*ids.length+(0+1)) K (lo++([(b,.cells (numL g ids++sp).toArray 26)]++l)) κ ids.length 0 i r cap M vs0 pl gl cl la lb lq gs0 w6):=⟨gs,[],vs,none,0,l2,[],HC⟩;generalize w6=Wc at HC|-;have hM1:=HC.out.1;have hgk:=HC.out.2.2.2.2.2.2.1;have hwm:IntKind.i64.wrap ((M:Int)-1)=(gs0.length:Int):=by rw[IntWalk.i64_in _ (by have:=HLT.out;omega)];omega
     have hqM:(gs0.length:Int)<(M:Int):=by omega
     have hq0:(0:Int)<=(gs0.length:Int):=by omega
     have hvl:(vs0++[Value.slice pl gl.length cl])[gs0.length]? =some (.slice pl gl.length cl):=by rw[<-HC.out.2.2.1.len];simp
     obtain⟨c1,-⟩:=HC.out.2.1.cell HC.out.2.2.2.2.1 hvl;obtain⟨w7,hw7,hb7,hs7,b7⟩:=pro1 Wc (.cells #[.int .i64 (i:Int)] 3);have c2:=cbl c1 hb7;have R7:Hid (Run s g (N+ids.length*ids.length+(0+1)) K ((Wc.heap.size,.cells #[.int .i64 (i:Int)] 3)::(lq++(la++(lb++(lo++([(b,.cells (numL g ids++sp).toArray 26)]++l)))))) w7):=hdd (hw7▸HC.out.2.2.2.2.1.alloc _);have R8:=hdd (Run.perm (R7.out.subl (baI _ _)) (rot3 lq la lb _).symm);have HC7:=hdd (dN b7);have HOL:=hdd (HC.out.2.2.2.1.own R8.out);have HVL:=hdd hvl;clear hb7 hs7 b7 hvl;have hgl2:=HC.out.2.2.2.2.2.2.2.2;have hkn:=HLT.out;go_wp2_with (first
      |(at_builtin
        go_loud (
        refine wpList_append_lies _ rfl _ _ 48 rfl 0 3 i0 (.int .i64 0) 1 8 jE HI0.out HZ0.out HZ1.out HZ2.out rfl (by decide) _ gl.length (aF gl) rfl HOL.out ⟨Wc.heap.size,0,none⟩ 1 1 [.int .i64 (i:Int)] rfl rfl HC7.out (by simp[baM]) (by decide) (by unfold maxLen;omega) (by omega) (baJ _) w7.heap.size rfl ?_;intro r2 cap2 w8 hown8 hgrow8 hat8 hlt8;obtain⟨lb2,ho8,hR8⟩:=HC.out.2.2.2.1.grow R8.out hown8 hgrow8 hat8;have HO8:=hdd ho8;have R9:=hdd (Run.perm hR8 (rot3 lq la lb2 _));obtain⟨c3,z3⟩:=HC.out.2.1.cell R9.out HVL.out;clear hown8 hgrow8 hat8 hlt8 ho8 hR8)))
     obtain⟨lq2,hq1,hq2⟩:=HC.out.2.1.set (q:=gs0.length) (u:=.slice (some ⟨r2,0,none⟩) (gl.length+1) cap2) R9.out;have HQ1:=hdd hq1;have HQ2:=hdd hq2;clear hq1 hq2 c3 z3 R9 R8 R7 HOL HC7 c1 c2
     go_roundw
     case rel=>
      obtain⟨d1,-,d3,-,-,d6,d7,d8,d9⟩:=HC.out;refine⟨0+1,gs0++[gl++[i]],lq2++(la++lb2),by omega,by go_num,⟨(vs0++[Value.slice pl gl.length cl]).set gs0.length (.slice (some ⟨r2,0,none⟩) (gl.length+1) cap2),lq2,la++lb2,?_,?_,rfl⟩,⟨by rw[baE,baD];omega,fun o ho=> ?_⟩,d6,fun _=>by simp,hdd (by rw[baF,baF];exact HQ2.out)⟩
      . rw[baE,baD,<-d1];exact HQ1.out
      . have e:(vs0++[Value.slice pl gl.length cl]).set gs0.length (.slice (some ⟨r2,0,none⟩) (gl.length+1) cap2)=vs0++[.slice (some ⟨r2,0,none⟩) (gl.length+1) cap2]:=by rw[<-d3.len];simp
        rw[e];refine RowsG.snoc ?_ d3;have:=HO8.out;rw[iG]at this;rw[baE,baD];exact this
      . rcases baK.1 ho with ho|ho
        . have:=d8 o ho;omega
        . rw[baO.1 ho,baE,baD];omega
     case measure=>simp[intOf];omega
    |succ t=>
     obtain⟨j,hj⟩:∃j,(bV κ ids.length)[t]? =some j:=⟨_,baG (by rw[dC];have:=HLT.out;omega)⟩;have hjm:=pG κ _ j (baN hj);obtain⟨ki,hki⟩:∃k,ids[i]? =some k:=⟨_,baG HIM.out⟩;obtain⟨kj,hkj⟩:∃k,ids[j]? =some k:=⟨_,baG hjm⟩;obtain⟨e1,e2,he1,he2,hS⟩:=HQ.out i j ki kj hki hkj;obtain⟨q,hqq⟩:∃q,(κ i-κ j).sign=q:=⟨_,rfl⟩;rw[hqq]at hS;have RD:=hdd HF.out.drew;have hin:(b,.cells (numL g ids++sp).toArray 26)∈(l1++l2)++(lo++([(b,.cells (numL g ids++sp).toArray 26)]++l)):=baK.2 (Or.inr (baK.2 (Or.inr (List.mem_cons_self ..))));have b0:=HVO.out.cell (RD.out.subl (l':=lo++([(b,.cells (numL g ids++sp).toArray 26)]++l)) (baH _ _)) hj;obtain⟨d0,d1⟩:=row_in RD.out hin hki;obtain⟨f0,f1⟩:=row_in RD.out hin hkj;have HCM:=hdd (RD.out.cmp (by have:=HLT.out;have:=HN.out;omega) he1 he2 hS);have hiI:(i:Int)<(ids.length:Int):=by have:=HIM.out;omega
     have hi0:(0:Int)<=(i:Int):=by omega
     have hjI:(j:Int)<(ids.length:Int):=by omega
     have hj0:(0:Int)<=(j:Int):=by omega
     have htI:(t:Int)<(ids.length:Int):=by have:=HLT.out;omega
     have ht0:(0:Int)<=(t:Int):=by omega
     have HIN:=hdd hin;have HKI:=hdd hki;have HKJ:=hdd hkj;have HJ:=hdd hj;have HQQ:=hdd hqq;obtain⟨A,hA⟩:∃A,((t+1:Nat):Int)=A:=⟨_,rfl⟩;rw[hA];have hA1:(0:Int)<A:=by omega
     have hwr:IntKind.i64.wrap (A-1)=(t:Int):=by rw[IntWalk.i64_in _ (by have:=HLT.out;omega)];omega
     have hAI:A<(ids.length:Int):=by omega
     have hA0:(0:Int)<=A:=by omega
     have hAt:A.toNat=t+1:=by omega
     have HA:=hdd hA;clear hA he1 he2 hS hin hki hkj hj hqq hjm hkI hk0
     go_upto_region 10 with fail
     go_region_held3 (fun w'=>w'.cell? ⟨ra,t,none⟩=some (.int .i64 (j:Int))/\w'.cell? ⟨b,i*2,none⟩=some (.pointer (some ⟨g,0,none⟩))/\w'.cell? ⟨b,i*2+1,none⟩=some (.int .i64 (ki:Int))/\w'.cell? ⟨b,j*2,none⟩=some (.pointer (some ⟨g,0,none⟩))/\w'.cell? ⟨b,j*2+1,none⟩=some (.int .i64 (kj:Int))) (go_keep)
      (first
      |(go_at_call 21
        with_reducible refine HCM.out.mono ?_
        rintro e wm⟨rfl,hR6⟩;have RM:=hdd hR6;have b0:=HVO.out.cell (RM.out.subl (l':=(lo++([(b,.cells (numL g ids++sp).toArray 26)]++l))) (baH _ _)) HJ.out;obtain⟨d0,d1⟩:=row_in RM.out HIN.out HKI.out;obtain⟨f0,f1⟩:=row_in RM.out HIN.out HKJ.out;clear hR6))
     clear b0 d0 d1 f0 f1 c0 RD HCM HIN HKI HKJ HF hAt;by_cases hq:q=0
     case' pos=>
      have h1:(q==0)=true:=beq_iff_eq.2 hq;obtain⟨gs0,gl,hgg⟩:∃gs0 gl,gs=gs0++[gl]:=by
       have h5:=HNE.out (by omega);exact⟨gs.dropLast,gs.getLast h5,(List.dropLast_concat_getLast h5).symm⟩
      obtain⟨vs0,vl,la,lb,e5,e6,h7,h8⟩:=RowsG.last (hgg▸HG2.out);obtain⟨pl,cl,rfl⟩:=h8.slice;obtain⟨r,rfl⟩:∃r,pg=some ⟨r,0,none⟩:=by
       rcases HO1.out.2 with ⟨-,h5,-⟩|⟨r,cap,cur,h5,-⟩
       . rw[hgg]at h5;simp at h5
       . simp only[Value.slice.injEq]at h5;exact⟨r,h5.1⟩
      have HC:Hid (CSt s g (N+ids.length*ids.length+(t+1+1)) K (lo++([(b,.cells (numL g ids++sp).toArray 26)]++l)) κ ids.length (t+1) i r cg gs.length vs0 pl gl cl la lb l1 gs0 wm):=hdd ⟨by rw[hgg,baE,baD],e5▸HO1.out,h7,h8,by
       have:=RM.out;rw[e6,baF,baF]at this;exact this.more (by omega),by
       have:=HD.out;rw[show nN κ gs (lZ (bV κ ids.length) (t+1)) i=gs0++[gl++[i]] by
        rw[show lZ (bV κ ids.length) (t+1)=some j from HJ.out,hgg];have h5:=HQQ.out;simp only[nN,List.dropLast_concat,List.getLast?_concat,Option.getD_some];rw[if_pos (by have:=Int.sign_eq_zero_iff_zero.1 (h5.trans hq);omega)]]at this
       exact this,by have:=HGL.out.1;rw[hgg,baE,baD]at this;omega,fun o ho=>HGL.out.2 o (by rw[hgg];exact baK.2 (Or.inl ho)),HGL.out.2 gl (by rw[hgg];simp)⟩
      clear e5 e6 h7 h8
      go_upto_region 16 with fail
      obtain⟨M,cap,lq,hM,hcap,HC⟩:∃M cap lq,gs.length=M/\cg=cap/\Hid (CSt s g (N+ids.length*ids.length+(t+1+1)) K (lo++([(b,.cells (numL g ids++sp).toArray 26)]++l)) κ ids.length (t+1) i r cap M vs0 pl gl cl la lb lq gs0 wm):=⟨_,_,l1,rfl,rfl,HC⟩;simp only[hM,hcap];clear hM hcap hgg;generalize wm=Wc at HC|-
     case' neg=>
      have h1:(q==0)=false:=beq_eq_false_iff_ne.2 hq;obtain⟨w5,hw5,hb5,hs5,b5⟩:=pro1 wm (.cells #[.slice none 0 0] 48);have R5:Hid (Run s g (N+ids.length*ids.length+(t+1)+1) K ((wm.heap.size,.cells #[.slice none 0 0] 48)::((l1++l2)++(lo++([(b,.cells (numL g ids++sp).toArray 26)]++l)))) w5):=hdd (hw5▸RM.out.alloc _);have R6:=hdd (R5.out.subl (l':=l1++(l2++(lo++([(b,.cells (numL g ids++sp).toArray 26)]++l)))) (by rw[<-baF];exact baI _ _));have HC5:=hdd (dN b5);have HOW:=hdd (HO1.out.own R6.out);clear hb5 hs5 b5
      go_upto_region 16 with (first
       |(at_builtin
         go_loud (
         refine wpList_append_lies _ rfl _ _ 58 rfl 0 48 j0 (.slice none 0 0) 1 24 aeF HJ0.out HY0.out HY1.out HY2.out rfl (by decide) _ gs.length vs rfl HOW.out ⟨wm.heap.size,0,none⟩ 1 1 [.slice none 0 0] rfl rfl HC5.out (by simp[baM]) (by decide) (by have:=HGL.out.1;unfold maxLen;omega) (by have:=HGL.out.1;omega) (baJ _) w5.heap.size rfl ?_;intro r cap w6 hown6 hgrow6 hat6 hlt6;have HA6:=hdd (And.intro hown6 (And.intro hgrow6 hat6));clear hown6 hgrow6 hat6 hlt6)))
      obtain⟨lq,ho6,hR6⟩:=HO1.out.grow R6.out HA6.out.1 HA6.out.2.1 HA6.out.2.2;have HC:Hid (CSt s g (N+ids.length*ids.length+(t+1+1)) K (lo++([(b,.cells (numL g ids++sp).toArray 26)]++l)) κ ids.length (t+1) i r cap (gs.length+1) vs none [] 0 l2 [] lq gs w6):=hdd ⟨rfl,ho6,HG2.out,OwnR.nil _ _,hR6.more (by omega),by
       have:=HD.out;rw[show nN κ gs (lZ (bV κ ids.length) (t+1)) i=gs++[[i]] by
        rw[show lZ (bV κ ids.length) (t+1)=some j from HJ.out];have h5:=HQQ.out;simp only[nN];rw[if_neg (fun e=>hq (by rw[<-h5,e,Int.sub_self];rfl))]]at this
       exact this,HGL.out.1,HGL.out.2,baJ _⟩
      clear ho6 hR6 HA6 HOW HC5 R5 R6 hw5;obtain⟨M,gs0,gl,vs0,pl,cl,la,lb,hM,HC⟩:∃M gs0 gl vs0 pl cl la lb,gs.length+1=M/\Hid (CSt s g (N+ids.length*ids.length+(t+1+1)) K (lo++([(b,.cells (numL g ids++sp).toArray 26)]++l)) κ ids.length (t+1) i r cap M vs0 pl gl cl la lb lq gs0 w6):=⟨_,gs,[],vs,none,0,l2,[],rfl,HC⟩;simp only[hM];clear hM;generalize w6=Wc at HC|-
     all_goals (
      clear hq h1 HD HGL HNE HG2 HO1 HQQ HJ RM;have hM1:=HC.out.1;have hgk:=HC.out.2.2.2.2.2.2.1;have hwm:IntKind.i64.wrap ((M:Int)-1)=(gs0.length:Int):=by rw[IntWalk.i64_in _ (by have:=HLT.out;omega)];omega
      have hqM:(gs0.length:Int)<(M:Int):=by omega
      have hq0:(0:Int)<=(gs0.length:Int):=by omega
      have hvl:(vs0++[Value.slice pl gl.length cl])[gs0.length]? =some (.slice pl gl.length cl):=by rw[<-HC.out.2.2.1.len];simp
      obtain⟨c1,-⟩:=HC.out.2.1.cell HC.out.2.2.2.2.1 hvl;obtain⟨w7,hw7,hb7,hs7,b7⟩:=pro1 Wc (.cells #[.int .i64 (i:Int)] 3);have c2:=cbl c1 hb7;have R7:Hid (Run s g (N+ids.length*ids.length+(t+1+1)) K ((Wc.heap.size,.cells #[.int .i64 (i:Int)] 3)::(lq++(la++(lb++(lo++([(b,.cells (numL g ids++sp).toArray 26)]++l)))))) w7):=hdd (hw7▸HC.out.2.2.2.2.1.alloc _);have R8:=hdd (Run.perm (R7.out.subl (baI _ _)) (rot3 lq la lb _).symm);have HC7:=hdd (dN b7);have HOL:=hdd (HC.out.2.2.2.1.own R8.out);have HVL:=hdd hvl;clear hb7 hs7 b7 hvl;have hgl2:=HC.out.2.2.2.2.2.2.2.2;have hkn:=HLT.out;go_wp2_with (first
       |(at_builtin
         go_loud (
         refine wpList_append_lies _ rfl _ _ 48 rfl 0 3 i0 (.int .i64 0) 1 8 jE HI0.out HZ0.out HZ1.out HZ2.out rfl (by decide) _ gl.length (aF gl) rfl HOL.out ⟨Wc.heap.size,0,none⟩ 1 1 [.int .i64 (i:Int)] rfl rfl HC7.out (by simp[baM]) (by decide) (by unfold maxLen;omega) (by omega) (baJ _) w7.heap.size rfl ?_;intro r2 cap2 w8 hown8 hgrow8 hat8 hlt8;obtain⟨lb2,ho8,hR8⟩:=HC.out.2.2.2.1.grow R8.out hown8 hgrow8 hat8;have HO8:=hdd ho8;have R9:=hdd (Run.perm hR8 (rot3 lq la lb2 _));obtain⟨c3,z3⟩:=HC.out.2.1.cell R9.out HVL.out;clear hown8 hgrow8 hat8 hlt8 ho8 hR8)))
      obtain⟨lq2,hq1,hq2⟩:=HC.out.2.1.set (q:=gs0.length) (u:=.slice (some ⟨r2,0,none⟩) (gl.length+1) cap2) R9.out;have HQ1:=hdd hq1;have HQ2:=hdd hq2;clear hq1 hq2 c3 z3 R9 R8 R7 HOL HC7 c1 c2
      go_roundw
      case rel=>
       obtain⟨d1,-,d3,-,-,d6,d7,d8,d9⟩:=HC.out;refine⟨t+1+1,gs0++[gl++[i]],lq2++(la++lb2),by omega,(by rw[<-HA.out];go_num),⟨(vs0++[Value.slice pl gl.length cl]).set gs0.length (.slice (some ⟨r2,0,none⟩) (gl.length+1) cap2),lq2,la++lb2,?_,?_,rfl⟩,⟨by rw[baE,baD];omega,fun o ho=> ?_⟩,d6,fun _=>by simp,hdd (by rw[baF,baF];exact HQ2.out)⟩
       . rw[baE,baD,<-d1];exact HQ1.out
       . have e:(vs0++[Value.slice pl gl.length cl]).set gs0.length (.slice (some ⟨r2,0,none⟩) (gl.length+1) cap2)=vs0++[.slice (some ⟨r2,0,none⟩) (gl.length+1) cap2]:=by rw[<-d3.len];simp
         rw[e];refine RowsG.snoc ?_ d3;have:=HO8.out;rw[iG]at this;rw[baE,baD];exact this
       . rcases baK.1 ho with ho|ho
         . have:=d8 o ho;omega
         . rw[baO.1 ho,baE,baD];omega
      case measure=>have:=HA.out;simp[intOf];omega
      )
  . have hke:k=ids.length:=by omega
    subst hke;obtain⟨vs,l1,l2,h1,h2,h3⟩:=id hgv;obtain⟨pg,cg,rfl⟩:=h1.slice;have HGV:Hid (GrpV (.slice pg gs.length cg) (nM κ ids.length) lg):=hdd (by
     rw[List.drop_eq_nil_of_le (by rw[dC];exact Nat.le_refl _)]at hall;have hall:gs=nM κ ids.length:=hall;rw[<-hall];exact hgv)
    clear hgv hall hne h1 h2 h3 hk hge;go_wp2
    go_ret2
    exact⟨_,lg,rfl,HGV.out,HF.out.subl (List.Sublist.append (List.Sublist.refl _) (baH _ _))⟩
end
end
end Go.Proofs.YtkpodipoegbclaaGreatDoor
