/- A part of the proof: contracts of functions and plain laws (TrD, SgA, SgB, SgC). -/
import Derived.Test.YtkadpnljocflaaaGreatDoorK28
set_option linter.unusedVariables false
set_option linter.unusedSimpArgs false
set_option linter.unnecessarySimpa false
set_option maxHeartbeats 25600000
set_option maxRecDepth 100000
namespace Go.Proofs.YtkadpnljocflaaaGreatDoor
section
open Re (rat ofI ofN)
open Int renaming toNat_natCast->azO
open List renaming mem_cons_of_mem->azK,nil_append->azL,mem_cons_self->azM,getElem?_eq_getElem->azN,mem_filter->azP
variable{a e:Ex}{l:List Nat}{ns:List Nd}{K i j:Nat}{n:Nd}{v:Re}
theorem gG(h:Is ns a i)(hn:ns[i]? =some n):
 (n.kind=0/\a=.leaf n.val)\/(n.kind=1/\∃x y,a=.add x y/\Is ns x n.a.toNat/\Is ns y n.b.toNat)\/(n.kind=2/\∃x y,a=.sub x y/\Is ns x n.a.toNat/\Is ns y n.b.toNat)\/
 (n.kind=3/\∃x y,a=.mul x y/\Is ns x n.a.toNat/\Is ns y n.b.toNat)\/(n.kind=4/\∃x y,a=.div x y/\Is ns x n.a.toNat/\Is ns y n.b.toNat)\/(n.kind=5/\∃x,a=.root x/\Is ns x n.a.toNat):=by
 cases a with
 |leaf v=>have h:ns[i]? =some ⟨0,v,0,0⟩:=h;rw[hn]at h;cases h;exact Or.inl ⟨rfl,rfl⟩
 |add a b=>obtain⟨p,q,h,-,-,h4,h5⟩:=h;rw[hn]at h;cases h;exact Or.inr (Or.inl ⟨rfl,a,b,rfl,by rw[aO];exact h4,by rw[aO];exact h5⟩)
 |sub a b=>obtain⟨p,q,h,-,-,h4,h5⟩:=h;rw[hn]at h;cases h;exact Or.inr (Or.inr (Or.inl ⟨rfl,a,b,rfl,by rw[aO];exact h4,by rw[aO];exact h5⟩))
 |mul a b=>obtain⟨p,q,h,-,-,h4,h5⟩:=h;rw[hn]at h;cases h;exact Or.inr (Or.inr (Or.inr (Or.inl ⟨rfl,a,b,rfl,by rw[aO];exact h4,by rw[aO];exact h5⟩)))
 |div a b=>obtain⟨p,q,h,-,-,h4,h5⟩:=h;rw[hn]at h;cases h;exact Or.inr (Or.inr (Or.inr (Or.inr (Or.inl ⟨rfl,a,b,rfl,by rw[aO];exact h4,by rw[aO];exact h5⟩))))
 |root a=>obtain⟨p,h,-,h4⟩:=h;rw[hn]at h;cases h;exact Or.inr (Or.inr (Or.inr (Or.inr (Or.inr ⟨rfl,a,rfl,by rw[aO];exact h4⟩))))
theorem Is.at (h:Is ns a i):∃n,ns[i]? =some n:=⟨_,azN h.lt⟩
noncomputable def tZ(ns:List Nd)(i:Nat):Ex:=by
 classical exact if h:∃a,Is ns a i then h.choose else .leaf 0
theorem lM(h:Is ns a i):tZ ns i=a:=by
 unfold tZ;have hex:∃a,Is ns a i:=⟨a,h⟩;rw[dif_pos hex];exact hex.choose_spec.det h
noncomputable def ulT(ns:List Nd)(i:Nat):Nat×Nat:=uE (tZ ns i)
theorem gQ(h:Is ns a i):ulT ns i=uE a:=by unfold ulT;rw[lM h]
def cK:Ex->Nat
 | .leaf v=>max (jA v) (jB v)
 | .add a b=>1+cK a+cK b
 | .sub a b=>1+cK a+cK b
 | .mul a b=>cK a+cK b
 | .div a b=>cK a+cK b
 | .root a=>cK a
theorem aiI(e:Ex):(uE e).1<=cK e/\(uE e).2<=cK e:=by
 induction e with
 |leaf v=>simp only[uE,cK];omega
 |add a b iha ihb=>simp only[uE,cK];omega
 |sub a b iha ihb=>simp only[uE,cK];omega
 |mul a b iha ihb=>simp only[uE,cK];omega
 |div a b iha ihb=>simp only[uE,cK];omega
 |root a iha=>simp only[uE,cK];split<;>(simp only;omega)
theorem SubE.cost {b:Ex}(h:SubE a b):cK a<=cK b:=by
 induction h with
 |refl=>exact Nat.le_refl _
 |addL _ ih=>simp only[cK];omega
 |addR _ ih=>simp only[cK];omega
 |subL _ ih=>simp only[cK];omega
 |subR _ ih=>simp only[cK];omega
 |mulL _ ih=>simp only[cK];omega
 |mulR _ ih=>simp only[cK];omega
 |divL _ ih=>simp only[cK];omega
 |divR _ ih=>simp only[cK];omega
 |root _ ih=>simp only[cK];omega
theorem akL(hf:FinE e)(hc:cK e<=1000000):UE ns (Part ns e) (ulT ns) where
 cl:=xE
 step:=by
  intro i n ⟨a,hs,hi⟩ hn;rw[gQ hi];rcases gG hi hn with ⟨k,rfl⟩|⟨k,x,y,rfl,h1,h2⟩|⟨k,x,y,rfl,h1,h2⟩|⟨k,x,y,rfl,h1,h2⟩|⟨k,x,y,rfl,h1,h2⟩|⟨k,x,rfl,h1⟩
  . unfold uN;rw[if_pos k];rfl
  . rw[gQ h1,gQ h2];unfold uN;rw[k];rfl
  . rw[gQ h1,gQ h2];unfold uN;rw[k];rfl
  . rw[gQ h1,gQ h2];unfold uN;rw[k];rfl
  . rw[gQ h1,gQ h2];unfold uN;rw[k];rfl
  . rw[gQ h1];unfold uN;rw[k];rfl
 bd:=by
  intro i ⟨a,hs,hi⟩;rw[gQ hi];have:=aiI a;have:=hs.cost;omega
 leaf:=by
  intro i n ⟨a,hs,hi⟩ hn hk;rcases gG hi hn with ⟨k,rfl⟩|⟨k,-⟩|⟨k,-⟩|⟨k,-⟩|⟨k,-⟩|⟨k,-⟩
  . have:=hs.fin hf;exact⟨this.2.1,this.1,this.2.2⟩
  all_goals exfalso;omega
def gapD(ns:List Nd)(i:Nat)(x:Re):Prop:=∃a v,Is ns a i/\DenR a v/\x=v*ofN U74
theorem adW(v:Nat):rat (rv (leafD v))*ofN U74=ofI (fv v):=by
 obtain⟨u,hu,hU⟩:=iL;have e1:ofN (2^u)=rat (p2 u):=by rw[eX];exact congrArg rat (Rat.intCast_natCast (2^u))
 rw[hU,e1,<-Re.rat_mul];unfold leafD;rw[jV,Rat.mul_assoc,<-bZ,show(-1074:Int)+u=0 by omega,kK,Rat.mul_one];rfl
theorem uA(a b u:Re):a*b*u*u=a*u*(b*u):=by
 revert a b u;exact Re.all3 fun a b c=>Re.same fun n=>by simp only[Re.mulC_f];grind
theorem aiJ:ofN U74≠0:=Re.ne_of_gt kW
theorem akM(ok:OkNs ns):DV ns (gapD ns):=by
 intro i n hn;have hk:=(ok i n hn).1;have kinds:n.kind=0\/n.kind=1\/n.kind=2\/n.kind=3\/n.kind=4\/n.kind=5:=by omega
 unfold nX;rcases kinds with h|h|h|h|h|h
 . refine Or.inl ⟨h,?_⟩
   rintro z⟨a,v,hI,hd,e⟩;rcases gG hI hn with ⟨k,rfl⟩|⟨k,-⟩|⟨k,-⟩|⟨k,-⟩|⟨k,-⟩|⟨k,-⟩
   . cases hd;rw[e,adW]
   all_goals exfalso;omega
 . refine Or.inr (Or.inl ⟨h,?_⟩)
   rintro z⟨a,v,hI,hd,e⟩;rcases gG hI hn with ⟨k,-⟩|⟨k,x,y,rfl,h1,h2⟩|⟨k,-⟩|⟨k,-⟩|⟨k,-⟩|⟨k,-⟩
   . exfalso;omega
   . cases hd with|add ha hb=>exact⟨_,_,⟨_,_,h1,ha,rfl⟩,⟨_,_,h2,hb,rfl⟩,by rw[e,Re.add_mul]⟩
   all_goals exfalso;omega
 . refine Or.inr (Or.inr (Or.inl ⟨h,?_⟩))
   rintro z⟨a,v,hI,hd,e⟩;rcases gG hI hn with ⟨k,-⟩|⟨k,-⟩|⟨k,x,y,rfl,h1,h2⟩|⟨k,-⟩|⟨k,-⟩|⟨k,-⟩
   . exfalso;omega
   . exfalso;omega
   . cases hd with|sub ha hb=>exact⟨_,_,⟨_,_,h1,ha,rfl⟩,⟨_,_,h2,hb,rfl⟩,by rw[e,Re.sub_mul]⟩
   all_goals exfalso;omega
 . refine Or.inr (Or.inr (Or.inr (Or.inl ⟨h,?_⟩)))
   rintro z⟨a,v,hI,hd,e⟩;rcases gG hI hn with ⟨k,-⟩|⟨k,-⟩|⟨k,-⟩|⟨k,x,y,rfl,h1,h2⟩|⟨k,-⟩|⟨k,-⟩
   . exfalso;omega
   . exfalso;omega
   . exfalso;omega
   . cases hd with|mul ha hb=>exact⟨_,_,⟨_,_,h1,ha,rfl⟩,⟨_,_,h2,hb,rfl⟩,by rw[e,uA]⟩
   all_goals exfalso;omega
 . refine Or.inr (Or.inr (Or.inr (Or.inr (Or.inl ⟨h,?_⟩))))
   rintro z⟨a,v,hI,hd,e⟩;rcases gG hI hn with ⟨k,-⟩|⟨k,-⟩|⟨k,-⟩|⟨k,-⟩|⟨k,x,y,rfl,h1,h2⟩|⟨k,-⟩
   . exfalso;omega
   . exfalso;omega
   . exfalso;omega
   . exfalso;omega
   . cases hd with|div ha hb h0 hz=>exact⟨_,_,⟨_,_,h1,ha,rfl⟩,⟨_,_,h2,hb,rfl⟩,Re.mul_ne_zero h0 aiJ,by rw[e,<-uA,hz]⟩
   . exfalso;omega
 . refine Or.inr (Or.inr (Or.inr (Or.inr (Or.inr ⟨h,?_⟩))))
   rintro z⟨a,v,hI,hd,e⟩;rcases gG hI hn with ⟨k,-⟩|⟨k,-⟩|⟨k,-⟩|⟨k,-⟩|⟨k,-⟩|⟨k,x,rfl,h1⟩
   . exfalso;omega
   . exfalso;omega
   . exfalso;omega
   . exfalso;omega
   . exfalso;omega
   . cases hd with|root ha h0 hz=>exact⟨_,⟨_,_,h1,ha,rfl⟩,by rw[e];exact Re.mul_nonneg h0 (Re.le_of_lt kW),by rw[e,<-uA,hz]⟩
noncomputable def jR(ns:List Nd)(l:List Nat):List Ex:=((l.filter (isRt ns)).map (tZ ns)).reverse
theorem abB(ns:List Nd)(l:List Nat):(jR ns l).length=nRt ns l:=by unfold jR nRt;rw[List.length_reverse,List.length_map]
theorem zT(ns:List Nd)(l:List Nat)(x:Nat):jR ns (l++[x])=(if isRt ns x=true then[tZ ns x]else[])++jR ns l:=by
 unfold jR;rw[List.filter_append,List.map_append,List.reverse_append]
 congr 1
 by_cases h:isRt ns x=true<;>simp[List.filter_cons,h]
theorem xI{x:Nat}(hn:ns[x]? =some n):isRt ns x=decide (n.kind=5):=by unfold isRt;rw[hn]
theorem zU{ns:List Nd}{root:Nat}{l:List Nat}(ok:OkNs ns)(hI:IsB ns root l)(hall:∀i∈l,∃a,Is ns a i):
 ∀k,k<=l.length->RootsL (jR ns (l.take k))/\∀i∈l.take k,∀a,Is ns a i->RootsIn (jR ns (l.take k)) a
 |0,_=>by rw[List.take_zero];exact⟨trivial,fun i hi=>by cases hi⟩
 |k+1,hk=>by
  obtain⟨ih1,ih2⟩:=zU ok hI hall k (by omega);obtain⟨x,hx⟩:∃x,l[k]? =some x:=⟨_,azN (by omega)⟩;obtain⟨a,ha⟩:=hall x (List.mem_of_getElem? hx);obtain⟨n,hn⟩:=ha.at;obtain⟨o1,o2⟩:=y9 ok hI.srt hI.cl hx hn;rw[List.take_add_one,hx,show(some x).toList=[x] from rfl,zT,xI hn];generalize jR ns (l.take k)=L at*;have old:∀M:List Ex,∀i∈l.take k++[x],(∀r∈L,r∈M)->RootsIn M a->∀b,Is ns b i->RootsIn M b:=by
   intro M i hi hM hx' b hb;rcases List.mem_append.1 hi with hi|hi
   . exact(ih2 i hi b hb).weak hM
   . have:i=x:=by simpa using hi
     subst this;rw[hb.det ha];exact hx'
  rcases gG ha hn with ⟨q,e⟩|⟨q,x',y',e,h1,h2⟩|⟨q,x',y',e,h1,h2⟩|⟨q,x',y',e,h1,h2⟩|⟨q,x',y',e,h1,h2⟩|⟨q,x',e,h1⟩
  . rw[decide_eq_false (by omega),if_neg (by simp),azL]
    exact⟨ih1,fun i hi b hb=>old L i hi (fun r hr=>hr) (by rw[e];trivial) b hb⟩
  . rw[decide_eq_false (by omega),if_neg (by simp),azL]
    exact⟨ih1,fun i hi b hb=>old L i hi (fun r hr=>hr) (by rw[e];exact⟨ih2 _ (o1 (by omega)).1 _ h1,ih2 _ (o2 (by omega) (by omega)).1 _ h2⟩) b hb⟩
  . rw[decide_eq_false (by omega),if_neg (by simp),azL]
    exact⟨ih1,fun i hi b hb=>old L i hi (fun r hr=>hr) (by rw[e];exact⟨ih2 _ (o1 (by omega)).1 _ h1,ih2 _ (o2 (by omega) (by omega)).1 _ h2⟩) b hb⟩
  . rw[decide_eq_false (by omega),if_neg (by simp),azL]
    exact⟨ih1,fun i hi b hb=>old L i hi (fun r hr=>hr) (by rw[e];exact⟨ih2 _ (o1 (by omega)).1 _ h1,ih2 _ (o2 (by omega) (by omega)).1 _ h2⟩) b hb⟩
  . rw[decide_eq_false (by omega),if_neg (by simp),azL]
    exact⟨ih1,fun i hi b hb=>old L i hi (fun r hr=>hr) (by rw[e];exact⟨ih2 _ (o1 (by omega)).1 _ h1,ih2 _ (o2 (by omega) (by omega)).1 _ h2⟩) b hb⟩
  . rw[decide_eq_true q,if_pos rfl,lM ha,List.singleton_append]
    have h3:=ih2 _ (o1 (by omega)).1 _ h1;have hin:RootsIn (a::L) a:=by
     rw[e];exact⟨azM,h3.weak fun r hr=>azK _ hr⟩
    exact⟨⟨ih1,x',e,h3⟩,fun i hi b hb=>old (a::L) i hi (fun r hr=>azK _ hr) hin b hb⟩
theorem acB{α β:Type}(f:α->β):∀(l:List α) (R:List β),l.Nodup->(∀x∈l,∀y∈l,f x=f y->x=y)->(∀x∈l,f x∈R)->l.length<=R.length
 |[],R,_,_,_=>Nat.zero_le _
 |x::t,R,hn,hi,hm=>by
  classical
  have hx:=hm x azM;have hn':=List.nodup_cons.1 hn;have:=acB f t (R.erase (f x)) hn'.2 (fun a ha b hb=>hi a (azK _ ha) b (azK _ hb)) fun y hy=>by
   have hne:f y≠f x:=fun e=>hn'.1 (by rw[<-hi y (azK _ hy) x azM e];exact hy);exact(List.mem_erase_of_ne hne).2 (hm y (azK _ hy))
  rw[List.length_erase_of_mem hx]at this;have h0:=List.length_pos_of_mem hx;rw[List.length_cons];omega
theorem acC{root:Nat}(hI:IsB ns root l)(he:Is ns e root):∀i∈l,Part ns e i:=hI.mn _ xE ⟨e,.refl e,he⟩
def rtE:Ex->Nat
 | .leaf _=>0
 | .add a b=>rtE a+rtE b
 | .sub a b=>rtE a+rtE b
 | .mul a b=>rtE a+rtE b
 | .div a b=>rtE a+rtE b
 | .root a=>rtE a+1
def RtS(ns:List Nd)(i:Nat)(R:List Nat)(S:Nat->Prop):Prop:=S i/\ClS ns S/\∀x,S x->isRt ns x=true->x∈R
theorem RtS.two {k:Nat}{kd:Int}{R T:List Nat}{S U:Nat->Prop}(hk:ns[k]? =some ⟨kd,0,i,j⟩)(h5:kd≠5)(h:RtS ns i R S)(g:RtS ns j T U):RtS ns k (R++T) (fun x=>x=k\/S x\/U x):=by
 refine⟨Or.inl rfl,?_,?_⟩
 . intro x n hx hn o ho
   rcases hx with rfl|hx|hx
   . rw[hk]at hn;cases hn
     unfold opsN at ho
     split at ho
     . simp at ho
     . simp only[List.mem_cons,List.not_mem_nil,or_false]at ho
       rcases ho with rfl|rfl
       . right;left;rw[azO];exact h.1
       . right;right;rw[azO];exact g.1
   . right;left;exact h.2.1 x n hx hn o ho
   . right;right;exact g.2.1 x n hx hn o ho
 . intro x hx hr
   rcases hx with rfl|hx|hx
   . rw[xI hk]at hr;exact absurd (of_decide_eq_true hr) h5
   . exact List.mem_append_left _ (h.2.2 x hx hr)
   . exact List.mem_append_right _ (g.2.2 x hx hr)
theorem aj0:∀{e:Ex} {i:Nat},Is ns e i->∃R S,R.length<=rtE e/\RtS ns i R S:=by
 intro e
 induction e with
 |leaf v=>
  intro i h;have h:ns[i]? =some ⟨0,v,0,0⟩:=h;refine⟨[],fun x=>x=i,Nat.le_refl _,rfl,?_,?_⟩
  . intro x n hx hn o ho
    subst hx;rw[h]at hn;cases hn;simp[opsN]at ho
  . intro x hx hr
    subst hx;rw[xI h]at hr;have:=of_decide_eq_true hr;dsimp only at this;omega
 |root a ih=>
  intro i h;obtain⟨k,q,-,q3⟩:=h;obtain⟨R,S,h1,h2⟩:=ih q3;refine⟨i::R,fun x=>x=i\/S x,by simp[rtE];omega,Or.inl rfl,?_,?_⟩
  . intro x n hx hn o ho
    rcases hx with rfl|hx
    . rw[q]at hn;cases hn
      simp[opsN]at ho;subst ho;right;rw[azO];exact h2.1
    . right;exact h2.2.1 x n hx hn o ho
  . intro x hx hr
    rcases hx with rfl|hx
    . exact azM
    . exact azK _ (h2.2.2 x hx hr)
 |add a b iha ihb=>
  intro i h;obtain⟨k,j,q,-,-,q4,q5⟩:=h;obtain⟨R,S,h1,h2⟩:=iha q4;obtain⟨T,U,g1,g2⟩:=ihb q5;exact⟨_,_,by simp[rtE];omega,RtS.two q (by decide) h2 g2⟩
 |sub a b iha ihb=>
  intro i h;obtain⟨k,j,q,-,-,q4,q5⟩:=h;obtain⟨R,S,h1,h2⟩:=iha q4;obtain⟨T,U,g1,g2⟩:=ihb q5;exact⟨_,_,by simp[rtE];omega,RtS.two q (by decide) h2 g2⟩
 |mul a b iha ihb=>
  intro i h;obtain⟨k,j,q,-,-,q4,q5⟩:=h;obtain⟨R,S,h1,h2⟩:=iha q4;obtain⟨T,U,g1,g2⟩:=ihb q5;exact⟨_,_,by simp[rtE];omega,RtS.two q (by decide) h2 g2⟩
 |div a b iha ihb=>
  intro i h;obtain⟨k,j,q,-,-,q4,q5⟩:=h;obtain⟨R,S,h1,h2⟩:=iha q4;obtain⟨T,U,g1,g2⟩:=ihb q5;exact⟨_,_,by simp[rtE];omega,RtS.two q (by decide) h2 g2⟩
theorem zV{root:Nat}(hI:IsB ns root l)(he:Is ns e root):nRt ns l<=rtE e:=by
 obtain⟨R,S,h1,h2,h3,h4⟩:=aj0 he;refine Nat.le_trans ?_ h1;unfold nRt;refine acB (fun x:Nat=>x) _ R ?_ (fun x _ y _ h=>h) ?_
 . exact(hI.srt.filter _).imp fun{a b} h=>by omega
 . intro x hx
   obtain⟨g1,g2⟩:=azP.1 hx;exact h4 x (hI.mn S h3 h2 x g1) g2
structure Gd(K j:Nat)(e:Ex)(v:Re):Prop where
 den:DenR e v
 fin:FinE e
 cost:cK e<=1000000
 size:bN (32*2^j) e<=4000000
 hj:j<=11
 hK:K<=15
 sep:max (uE e).1 (uE e).2*2^K+1<=32768
 roots:rtE e<=K
 hit:∃b M W,dB e (32*2^j)=some b/\Acc M W b/\((max (uE e).1 (uE e).2*2^K+2:Nat):Int)<=W
theorem uB{m a b:Nat}(h:a<=b):m*2^a<=m*2^b:=Nat.mul_le_mul_left m (Nat.pow_le_pow_right (by omega) h)
theorem Gd.sepOk (h:Gd K j e v)(he:Is ns e i):agW ns (ulT ns i) i:=by
 intro l hI;have hn:=Nat.le_trans (zV hI he) h.roots;rw[gQ he];have h1:=uB (m:=max (uE e).1 (uE e).2) hn;have h2:=h.sep;have h3:=h.hK;exact⟨by omega,by omega⟩
theorem Gd.fnd (h:Gd K j e v)(ok:OkNs ns)(he:Is ns e i)(hI:IsB ns i l):Fnd e v ((max (ulT ns i).1 (ulT ns i).2*2^Go.Proofs.YtkadpnljocflaaaGreatDoor.nRt ns l+1:Nat):Int) j:=by
 have hn:=Nat.le_trans (zV hI he) h.roots;have hpt:=acC hI he;have hro:=zU ok hI (fun i hi=>(hpt i hi).imp fun a h=>h.2) l.length nlr;rw[List.take_length]at hro;have hL:Lok (jR ns l):=by
  refine⟨hro.1,fun r hr=> ?_⟩;unfold jR at hr;obtain⟨x,hx,rfl⟩:=List.mem_map.1 (List.mem_reverse.1 hr);obtain⟨a,hs,ha⟩:=hpt x (azP.1 hx).1;rw[lM ha];exact hs.den h.den
 rw[gQ he];have h1:=uB (m:=max (uE e).1 (uE e).2) hn;refine⟨h.den,h.fin,h.size,h.hj,?_,fun h0=> ?_⟩
 . obtain⟨b,M,W,k1,k2,k3⟩:=h.hit
   exact⟨b,M,W,k1,k2,by omega⟩
 . have:=ah4 hL h.den (hro.2 i hI.rt e he) h0
   rw[abB]at this;generalize max (uE e).1 (uE e).2*2^Go.Proofs.YtkadpnljocflaaaGreatDoor.nRt ns l=m at*;rw[show-((m+1:Nat):Int)+1=-(m:Int) by omega];exact this
theorem Gd.of {L:List Ex}{c:Ct}(h:Vl L (32*2^j) e v c)(hL:rtE e<=K)(hj:j<=11)(hK:K<=15)(hc:cK e<=1000000)(hs:c.s<=4000000)(hm:max c.u c.l*2^K+1<=32768)(hW:((max c.u c.l*2^K+2:Nat):Int)<=c.W):Gd K j e v:=by
 have h1:max (uE e).1 (uE e).2*2^K<=max c.u c.l*2^K:=Nat.mul_le_mul_right _ (by have:=h.hu;have:=h.hl;omega);obtain⟨b,k1,k2⟩:=h.near;exact⟨h.den,h.fin,hc,Int.le_trans h.hs hs,hj,hK,by omega,hL,b,_,_,k1,k2,by omega⟩
def AllGd(e:Ex):Prop:=(∀a b,SubE (.div a b) e->∃K j v,Gd K j b v)/\∀a,SubE (.root a) e->∃K j v,Gd K j a v
noncomputable def sgT(ns:List Nd)(i:Nat):Int:=by
 classical exact if h:∃v,DenR (tZ ns i) v then Re.sgn h.choose else 0
theorem xJ(h:Is ns a i)(hd:DenR a v):sgT ns i=Re.sgn v:=by
 unfold sgT;have hex:∃v,DenR (tZ ns i) v:=⟨v,by rw[lM h];exact hd⟩;rw[dif_pos hex];have h1:=hex.choose_spec;generalize hex.choose=u at*;rw[lM h]at h1;rw[h1.uniq hd]
theorem agX(v:Re):Re.sgn (v*ofN U74)=Re.sgn v:=by rw[Re.sgn_mul,Re.sgn_pos kW,Int.mul_one]
end
section
open Go.RowKit Go.Maps
open Go.RowKit.Below renaming refl->azQ,heap_setCell->azT
open List renaming getElem?_eq_getElem->azR,mem_of_getElem?->azU
open Option.some renaming inj->azS
variable{a e e0:Ex}{l:List Nat}{ns:List Nd}{K g i j jj mg ms q:Nat}{v v0:Re}{m s s':Value->Option Value}{w w' w1 w3 w5 wa:World}
theorem ways(w:World)(T:TypeId):∃w1,w.alloc (.cells #[.bool false,.int .i64 0] T)=w1/\∃w2,w1.alloc (.cells #[.bool false,.int .i64 0] T)=w2/\(w2.cell? ⟨w1.heap.size,0,none⟩=some (.bool false)/\w2.cell? ⟨w1.heap.size,1,none⟩=some (.int .i64 0)/\w2.frozen? ⟨w1.heap.size,0,none⟩=false/\w2.frozen? ⟨w1.heap.size,1,none⟩=false)/\
 ∃w3,(w2.setCell ⟨w1.heap.size,0,none⟩ (.bool true)).setCell ⟨w1.heap.size,1,none⟩ (.int .i64 32)=w3/\(w3.cell? ⟨w1.heap.size,0,none⟩=some (.bool true)/\w3.cell? ⟨w1.heap.size,1,none⟩=some (.int .i64 32)/\w3.frozen? ⟨w1.heap.size,0,none⟩=false/\w3.frozen? ⟨w1.heap.size,1,none⟩=false)/\
 ∃w4,w3.setCell ⟨w1.heap.size,1,none⟩ (.int .i64 (min 32 65536))=w4/\(w4.cell? ⟨w1.heap.size,0,none⟩=some (.bool true)/\w4.cell? ⟨w1.heap.size,1,none⟩=some (.int .i64 32)/\w4.frozen? ⟨w1.heap.size,0,none⟩=false/\w4.frozen? ⟨w1.heap.size,1,none⟩=false)/\
  (w4.cell? ⟨w.heap.size,0,none⟩=some (.bool false)/\w4.cell? ⟨w.heap.size,1,none⟩=some (.int .i64 0)/\w4.frozen? ⟨w.heap.size,0,none⟩=false/\w4.frozen? ⟨w.heap.size,1,none⟩=false)/\
 ∃w5,(w4.setCell ⟨w.heap.size,0,none⟩ (.bool true)).setCell ⟨w.heap.size,1,none⟩ (.int .i64 32)=w5/\(w5.cell? ⟨w.heap.size,0,none⟩=some (.bool true)/\w5.cell? ⟨w.heap.size,1,none⟩=some (.int .i64 32))/\Below w.heap.size w w5:=by
 obtain⟨w1,hw1,hb1,hs1,b1⟩:=pro1 w (.cells #[.bool false,.int .i64 0] T);obtain⟨w2,hw2,hb2,hs2,b2⟩:=pro1 w1 (.cells #[.bool false,.int .i64 0] T);have h12:=hbl b1 hb2;have hb:=aA hb1 hb2;have g1:=set2 b2 (.bool true) (.int .i64 32);have g2:=setB g1 (.int .i64 (min 32 65536));have e:(((w2.setCell ⟨w1.heap.size,0,none⟩ (.bool true)).setCell ⟨w1.heap.size,1,none⟩ (.int .i64 32)).setCell ⟨w1.heap.size,1,none⟩ (.int .i64 (min 32 65536))).heap[w.heap.size]? =some (.cells #[.bool false,.int .i64 0] T (0,0)):=by
  rw[azT _ _ _ _ (by simp;omega),azT _ _ _ _ (by simp;omega),azT _ _ _ _ (by simp;omega)];exact h12
 have g3:=set2 e (.bool true) (.int .i64 32);have hk:w.heap.size<=w1.heap.size:=hb1.size;obtain⟨c0,c1,-,-⟩:=aB g3;exact⟨w1,hw1,w2,hw2,aB b2,_,rfl,aB g1,_,rfl,aB g2,aB e,_,rfl,⟨c0,c1⟩,((((hb.setCell hk _).setCell hk _).setCell hk _).setCell nlr _).setCell nlr _⟩
theorem chosen_any:
 Calls Tryz.prog 65 #[.slice none 0 0] w (fun e w'=>e=.returned (.agg #[.bool true,.int .i64 32])/\Below w.heap.size w w'):=by
 obtain⟨w1,hw1,w2,hw2,⟨a0,a1,a2,a3⟩,w3,hw3,⟨b0,b1,b2,b3⟩,w4,hw4,⟨c0,c1,c2,c3⟩,⟨d0,d1,d2,d3⟩,w5,hw5,⟨e0,e1⟩,hb⟩:=ways w 116;have HB:=hdd hb;clear hb;go_enter Tryz.func65,Tryz.ntmps65
 go_wp2;refine bodyPost_ret (v:=.agg #[_,_]) (by simp[results,Tryz.results65,go_sem,e0,e1];first|exact⟨rfl,rfl⟩|rfl) rfl ?_;exact⟨rfl,HB.out⟩
def SM(sg:Nat->Int)(s:Value->Option Value):Prop:=∀i:Nat,s (.int .i64 (i:Int))=none\/s (.int .i64 (i:Int))=some (.int .i64 (sg i))
theorem SM.put {sg:Nat->Int}(h:SM sg s)(hu:Upd s (.int .i64 (i:Int)) (some (.int .i64 (sg i))) s'):SM sg s':=by
 intro j;by_cases hji:j=i
 . subst hji;exact Or.inr hu.1
 . rw[hu.2 _ (fun e=>hji (by injection e with _ e;omega))];exact h j
def JG(w:World)(j ms g:Nat)(ns:List Nd)(l:List Nat):Prop:=∃mg m s,w.heap[j]? =some (.cells #[.pointer (some ⟨g,0,none⟩),.bool true,.int .i64 32,.map (some mg),.map none,.map (some ms)] 168 (0,0))/\
 MapP Tryz.prog 3 w mg m/\MG (gapD ns) m l/\MapP Tryz.prog 3 w ms s/\SM (sgT ns) s/\j≠ms/\mg≠ms
theorem JG.below (h:JG w j ms g ns l)(hb:Below w.heap.size w w'):JG w' j ms g ns l:=by
 obtain⟨mg,m,s,h1,h2,h3,h4,h5,h6,h7⟩:=h;exact⟨mg,m,s,hbl h1 hb,h2.below hb h2.lt,h3,h4.below hb h4.lt,h5,h6,h7⟩
theorem JG.put {S:Int}(h:JG w j ms g ns l)(hb:Below w.heap.size w w1)(hs:SM (sgT ns) s)(hS:sgT ns i=S)(hu:Upd s (.int .i64 (i:Int)) (some (.int .i64 S)) s')(hm:MapP Tryz.prog 3 w' ms s')(hg:w1.grownBy w' (some ms)):JG w' j ms g ns l:=by
 subst hS;obtain⟨mg,m,s0,h1,h2,h3,h4,h5,h6,h7⟩:=h.below hb;refine⟨mg,m,s',?_,h2.keep (hg.block mg h2.lt (fun e=>h7 (azS e))),h3,hm,hs.put hu,h6,h7⟩;rw[hg.block j (aC h1) (fun e=>h6 (azS e))];exact h1
def RetJ(w:World)(g root:Nat)(ns:List Nd)(e:Ending)(w':World):Prop:=Below w.heap.size w w'/\∃j ms l,e=.returned (.pointer (some ⟨j,0,none⟩))/\w.heap.size<=ms/\ms<w'.heap.size/\IsB ns root l/\JG w' j ms g ns l
theorem RetJ.to {w2:World}{root:Nat}{e:Ending}(h:RetJ w g root ns e w1)(hb:Below w1.heap.size w1 w2):RetJ w g root ns e w2:=by
 obtain⟨h1,j,ms,l,e,h2,h3,h4,h5⟩:=h;exact⟨h1.trans (hb.mono h1.size),j,ms,l,e,h2,Nat.lt_of_lt_of_le h3 hb.size,h4,h5.below hb⟩
theorem JG.of (h1:w.heap[j]? =some (.cells #[.pointer (some ⟨g,0,none⟩),.bool true,.int .i64 32,.map (some mg),.map none,.map (some ms)] 168 (0,0)))
 (h2:MapP Tryz.prog 3 w mg m) (h4:MG (gapD ns) m l) (h5:w.heap[ms]? =some (.map #[] 0)) (h6:j≠ms) (h7:mg≠ms):JG w j ms g ns l:=⟨mg,m,_,h1,h2,h4,MapP.made (es:=#[]) h5,fun i=>Or.inl rfl,h6,h7⟩
theorem abC{w4:World}{root:Nat}(ha:Below w.heap.size w wa)(hb3:Below wa.heap.size wa w3)(hm:MapP Tryz.prog 3 w3 mg m)(hmr:IsB ns root l)(hg:MG (gapD ns) m l)
 (hb4:Below w3.heap.size w3 w4) (b4:w4.heap[w3.heap.size]? =some (.map #[] 0)) (hb5:Below w4.heap.size w4 w5) (b5:w5.heap[w4.heap.size]? =some (.cells #[.pointer (some ⟨g,0,none⟩),.bool true,.int .i64 32,.map (some mg),.map none,.map (some w3.heap.size)] 168 (0,0))):
 RetJ w g root ns (.returned (.pointer (some ⟨w4.heap.size,0,none⟩))) w5:=by
 have h34:=aA hb4 hb5;have q1:=aC b4;have q2:=hm.lt;have h:=JG.of b5 (hm.below h34 hm.lt) hg (hbl b4 hb5) (by omega) (by omega);have hall:=ha.trans ((aA hb3 h34).mono ha.size);exact⟨hall,_,_,l,rfl,by have:=ha.size;have:=hb3.size;omega,by have:=hb5.size;omega,hmr,h⟩
theorem zW{root:Nat}(hms:w.heap.size<=ms)(ha:Below w.heap.size w wa)(hs:wa.heap[ms]? =some (.map #[] 0))(hb3:Below wa.heap.size wa w3)(hne:wa.heap.size<=mg)(hm:MapP Tryz.prog 3 w3 mg m)(hmr:IsB ns root l)(hg:MG (gapD ns) m l)
 (hb5:Below w3.heap.size w3 w5) (b5:w5.heap[w3.heap.size]? =some (.cells #[.pointer (some ⟨g,0,none⟩),.bool true,.int .i64 32,.map (some mg),.map none,.map (some ms)] 168 (0,0))):
 RetJ w g root ns (.returned (.pointer (some ⟨w3.heap.size,0,none⟩))) w5:=by
 have q1:=aC hs;have q2:=hb3.size;have q3:=hb5.size;have h:=JG.of b5 (hm.below hb5 hm.lt) hg (aD hs (aA hb3 hb5) (aC hs)) (by omega) (by omega);have hall:=ha.trans ((aA hb3 hb5).mono ha.size);exact⟨hall,_,_,l,rfl,hms,by omega,hmr,h⟩
theorem xK{root:Nat}(hd:DagP w g ns)(ok:OkNs ns)(hlf:gB ns)(hro:gD ns)(hr:root<ns.length):
 Calls Tryz.prog 101 #[.pointer (some ⟨g,0,none⟩),.int .i64 (root:Int),.agg #[.bool true,.int .i64 32]] w (RetJ w g root ns):=by
 obtain⟨w1,hw1,hb1,hs1,b1⟩:=pro1 w (.cells #[.bool true,.int .i64 32] 116);obtain⟨c0,c1,-,-⟩:=aB b1;have HB1:=hdd hb1;have HGA:Hid (∀w',Below w.heap.size w w'->Calls Tryz.prog 128 #[.pointer (some ⟨g,0,none⟩),.int .i64 (root:Int)] w' (agB w' ns (gapD ns) root)):=hdd fun w' h=>xB (hd.below h) ok (akM ok) hlf hro hr;have HBW:Below w1.heap.size w1 w1.drew:=(azQ _ _).drew;clear hd ok hlf hro hr hb1 b1 hs1;have hmm:=@run_makeMap Tryz.prog;go_enter Tryz.func101,Tryz.ntmps101
 go_wp2_with fail
 obtain⟨w2,hw2,hb2,hs2,b2⟩:=pro1 w1 (.map #[] 0);have e0:=cbl c0 hb2;have e1:=cbl c1 hb2;have HA:=hdd (HB1.out.trans (HBW.mono HB1.out.size));have HX:=hdd (HB1.out.trans ((hb2.drew).mono HB1.out.size));have HB2:=hdd b2;have HBB2:=hdd hb2;clear hb2 b2 hs2
 go_region_held3 (fun w'=>w'.cell? ⟨w.heap.size,0,none⟩=some (.bool true)/\w'.cell? ⟨w.heap.size,1,none⟩=some (.int .i64 32)) (go_keep)
  (first
  |(go_at_call 128
    with_reducible refine(HGA.out _ HA.out).mono ?_
    rintro r w3⟨hb3,mg,m,l,rfl,hmg,hm,hmr,hgs⟩;have c0:=cell_below c0 ((azQ _ _).drew.trans hb3) nlr;have c1:=cell_below c1 ((azQ _ _).drew.trans hb3) nlr;obtain⟨w4,hw4,hb4,hs4,b4⟩:=pro1 w3 (.map #[] 0);have d0:=cbl c0 hb4;have d1:=cbl c1 hb4;obtain⟨w5,hw5,hb5,hs5,b5⟩:=pro1 w4 (.cells #[.pointer (some ⟨g,0,none⟩),.bool true,.int .i64 32,.map (some mg),.map none,.map (some w3.heap.size)] 168);have x0:=cbl d0 hb5;have x1:=cbl d1 hb5;have HJ:Hid (RetJ w g root ns (.returned (.pointer (some ⟨w4.heap.size,0,none⟩))) w5):=hdd (abC HA.out hb3 hm hmr hgs hb4 b4 hb5 b5);clear hb3 hmg hm hmr hgs hb4 hs4 b4 hb5 hs5 b5)
  |(go_at_call 128
    with_reducible refine(HGA.out _ HX.out).mono ?_
    rintro r w3⟨hb3,mg,m,l,rfl,hmg,hm,hmr,hgs⟩;have c0:=cell_below e0 ((azQ _ _).drew.trans hb3) nlr;have c1:=cell_below e1 ((azQ _ _).drew.trans hb3) nlr;obtain⟨w5,hw5,hb5,hs5,b5⟩:=pro1 w3 (.cells #[.pointer (some ⟨g,0,none⟩),.bool true,.int .i64 32,.map (some mg),.map none,.map (some w1.heap.size)] 168);have x0:=cbl c0 hb5;have x1:=cbl c1 hb5;have HJ:Hid (RetJ w g root ns (.returned (.pointer (some ⟨w3.heap.size,0,none⟩))) w5):=hdd (zW HB1.out.size HX.out (aD HB2.out ((azQ _ _).drew) (aC HB2.out)) hb3 hmg hm hmr hgs hb5 b5);clear hb3 hmg hm hmr hgs hb5 hs5 b5))
 all_goals
  go_wp2
  go_quiet (fail)
  go_wp2;go_ret;exact HJ.out.to (below_drewN w5 _)
theorem lN{id:Nat}(hj:JG w j ms g ns l)(hl:id∈l)(hd:DagP w g ns)(ok:OkNs ns)(hlf:gB ns)(hro:gD ns)(hI:Is ns a id)(hG:Gd K jj a v)(hT:Tab w):
 Calls Tryz.prog 66 #[.pointer (some ⟨j,0,none⟩),.int .i64 (id:Int)] w (fun e w'=>e=.returned (.tuple #[.int .i64 (sgT ns id),.nilIface])/\Fr (fun b=>b=ms) w w'/\JG w' j ms g ns l):=by
 have hue:=akL (ns:=ns) hG.fin hG.cost;have hpt:Part ns a id:=⟨a,.refl a,hI⟩;have hsg:=xJ hI hG.den;have HSE:Hid (∀w',Below w.heap.size w w'->Calls Tryz.prog 108 #[.pointer (some ⟨g,0,none⟩),.int .i64 (id:Int)] w' (zS w' ns (ulT ns id) id)):=hdd fun w' h=>qI (hd.below h) ok hlf hro hue hpt (hT.below h) hI.lt (hG.sepOk hI);have HSR:Hid (∀w' (s:Int) l,Below w.heap.size w w'->IsB ns id l->s=((max (ulT ns id).1 (ulT ns id).2*2^nRt ns l+1:Nat):Int)->s<=32768->Calls Tryz.prog 109 #[.pointer (some ⟨g,0,none⟩),.int .i64 (id:Int),.int .i64 32,.int .i64 s,.bool true] w' (ai7 w' (sgT ns id))):=hdd fun w' s l h hB hs hle=>by
  rw[hsg];have hf:=hG.fnd ok hI hB;rw[<-hs]at hf;exact zJ (hd.below h) ok hlf hro hI hf (hT.below h) (by omega) (Sq.start hf.hj)
 have HK:=hdd (iO (i:=id) (by have:=hd.len;have:=hI.lt;omega));have HJ0:=hdd hj;obtain⟨mg,m,s,b1,hm,hmg,hms,hsm,-,-⟩:=hj;obtain⟨lo,hi,hmr,hg⟩:=hmg.1 id hl;have B1:=hdd b1;have HM:=hdd hm;have HMS:=hdd hms;have HSM:=hdd hsm;have HG1:=hdd (acZ (w:=w) hg.1 hg.2.1);obtain⟨s',hu⟩:=jQ s (.int .i64 (id:Int)) (some (.int .i64 (sgT ns id)));have HU:=hdd hu;have HGD:Hid ((m (.int .i64 (id:Int))).getD (.agg #[.float .f64 0,.float .f64 0])=gv lo hi):=hdd (by rw[hmr];rfl);have hok:(dR lo hi).2=true->(dR lo hi).1=sgT ns id:=fun h=>by
  rw[hsg,<-agX];exact aaT hg (x:=v*Re.ofN U74) ⟨a,v,hI,hG.den,rfl⟩ h
 obtain⟨c0,c1,c2,c3,c4,c5⟩:=aG b1;have hcase:=hsm id;clear hd ok hlf hro hT hm hms hu b1 hmr hg hue hpt hsg hI hG hl hmg hsm;obtain⟨S,hS⟩:∃S,sgT ns id=S:=⟨_,rfl⟩;rw[hS]at hok HU HSR hcase|-;have HSS:=hdd hS;clear hS;generalize dR lo hi=G at*;obtain⟨gs,gk⟩:=G;replace hok:gk=true->gs=S:=hok;replace HG1:Hid (Calls Tryz.prog 106 #[gv lo hi] w (qA w gs gk)):=HG1;rcases hcase with hcase|hcase
 . have HSN:Hid ((s (.int .i64 (id:Int))).getD (.int .i64 0)=.int .i64 0):=hdd (by rw[hcase];rfl)
   have HSB:Hid ((s (.int .i64 (id:Int))).isSome=false):=hdd (by rw[hcase];rfl);clear hcase
   cases gk
   . clear hok
     go_enter Tryz.func66,Tryz.ntmps66
     go_wp2_with (first
      |(at_lookup
        refine iM _ rfl _ _ _ rfl _ _ aK bT (dV _) _ s rfl HMS.out (.int .i64 (id:Int)) _ rfl HK.out (.int .i64 0) HSN.out false HSB.out ?_)
      |(at_lookup
        refine aU _ rfl _ _ _ rfl _ _ aK lH (oM _) _ m rfl HM.out (.int .i64 (id:Int)) _ rfl HK.out (gv lo hi) HGD.out ?_))
     refine HG1.out.mono ?_;rintro e w1⟨rfl,hb1⟩;replace c0:=cbl c0 hb1;replace c1:=cbl c1 hb1;replace c2:=cbl c2 hb1;replace c3:=cbl c3 hb1;replace c4:=cbl c4 hb1;replace c5:=cbl c5 hb1;have HB1:=hdd hb1;clear hb1;go_wp2_with fail
     refine(HSE.out _ HB1.out).mono ?_;rintro e w2⟨hb2,sp,l',rfl,hIB,hsp,hspl⟩;have HSC:=hdd (HSR.out _ sp l' (aA (aA HB1.out hb2) (azQ _ _).drew) hIB hsp hspl);clear hIB hsp hspl;replace c0:=cbl c0 hb2;replace c1:=cbl c1 hb2;replace c2:=cbl c2 hb2;replace c3:=cbl c3 hb2;replace c4:=cbl c4 hb2;replace c5:=cbl c5 hb2;have HB2:=hdd (aA HB1.out hb2);have HB3:=hdd (aA (aA HB1.out hb2) (azQ _ _).drew);clear hb2;go_wp2_with fail
     have hdr:Below w2.heap.size w2 w2.drew:=(azQ _ _).drew;replace c0:=cbl c0 hdr;replace c1:=cbl c1 hdr;replace c2:=cbl c2 hdr;replace c3:=cbl c3 hdr;replace c4:=cbl c4 hdr;replace c5:=cbl c5 hdr;clear hdr
     go_region_held3 (fun w'=>w'.cell? ⟨j,0,none⟩=some (.pointer (some ⟨g,0,none⟩))/\w'.cell? ⟨j,2,none⟩=some (.int .i64 32)/\w'.cell? ⟨j,5,none⟩=some (.map (some ms))) (go_keep)
      (first
      |(go_at_call 109
        refine HSC.out.mono ?_;rintro e w4⟨hb4,vw,rfl⟩;have c0:=cbl c0 hb4;have c1:=cbl c1 hb4;have c2:=cbl c2 hb4;have c3:=cbl c3 hb4;have c4:=cbl c4 hb4;have c5:=cbl c5 hb4;have HBF:=hdd (aA HB3.out hb4);have HMF:=hdd (HMS.out.below (aA HB3.out hb4) HMS.out.lt);clear hb4))
     go_wp2_with (first
      |(at_mapUpdate
        refine dP _ rfl _ _ _ _ rfl _ _ aK bT _ s s' rfl HMF.out (.int .i64 (id:Int)) (.int .i64 S) _ rfl rfl HK.out HU.out ?_;intro w9 HM9 hgr hsz;have HF9:=hdd ((Fr.of_below HBF.out).trans (Fr.of_grown hgr (fun i e=>(azS e).symm)));have HJ9:=hdd (HJ0.out.put HBF.out HSM.out HSS.out HU.out HM9.out hgr);clear hgr hsz))
     go_ret2
     exact⟨rfl,HF9.out,HJ9.out⟩
   . have hgs:S=gs:=(hok rfl).symm
     subst hgs;clear hok;go_enter Tryz.func66,Tryz.ntmps66
     go_wp2_with (first
      |(at_lookup
        refine iM _ rfl _ _ _ rfl _ _ aK bT (dV _) _ s rfl HMS.out (.int .i64 (id:Int)) _ rfl HK.out (.int .i64 0) HSN.out false HSB.out ?_)
      |(at_lookup
        refine aU _ rfl _ _ _ rfl _ _ aK lH (oM _) _ m rfl HM.out (.int .i64 (id:Int)) _ rfl HK.out (gv lo hi) HGD.out ?_))
     refine HG1.out.mono ?_;rintro e w1⟨rfl,hb1⟩;replace c0:=cbl c0 hb1;replace c1:=cbl c1 hb1;replace c2:=cbl c2 hb1;replace c3:=cbl c3 hb1;replace c4:=cbl c4 hb1;replace c5:=cbl c5 hb1;have HBF:=hdd hb1;have HMF:=hdd (HMS.out.below hb1 HMS.out.lt);clear hb1;go_wp2_with (first
      |(at_mapUpdate
        refine dP _ rfl _ _ _ _ rfl _ _ aK bT _ s s' rfl HMF.out (.int .i64 (id:Int)) (.int .i64 S) _ rfl rfl HK.out HU.out ?_;intro w9 HM9 hgr hsz;have HF9:=hdd ((Fr.of_below HBF.out).trans (Fr.of_grown hgr (fun i e=>(azS e).symm)));have HJ9:=hdd (HJ0.out.put HBF.out HSM.out HSS.out HU.out HM9.out hgr);clear hgr hsz))
     go_ret2
     exact⟨rfl,HF9.out,HJ9.out⟩
 . have HSN:Hid ((s (.int .i64 (id:Int))).getD (.int .i64 0)=.int .i64 S):=hdd (by rw[hcase];rfl)
   have HSB:Hid ((s (.int .i64 (id:Int))).isSome=true):=hdd (by rw[hcase];rfl);clear hcase hok;go_enter Tryz.func66,Tryz.ntmps66
   go_wp2_with (first
    |(at_lookup
      refine iM _ rfl _ _ _ rfl _ _ aK bT (dV _) _ s rfl HMS.out (.int .i64 (id:Int)) _ rfl HK.out (.int .i64 S) HSN.out true HSB.out ?_))
   go_ret2
   exact⟨rfl,Fr.of_below (azQ _ _),HJ0.out⟩
def GdAt(ns:List Nd)(i:Nat):Prop:=∃a K j v,Is ns a i/\Gd K j a v
theorem abD{x:Nat}{n:Nd}(hp:Part ns e x)(hn:ns[x]? =some n):
 (n.kind≠4/\n.kind≠5)\/(∃a b,∃p q:Nat,n=⟨4,0,p,q⟩/\SubE (.div a b) e/\Is ns b q)\/(∃a,∃p:Nat,n=⟨5,0,p,0⟩/\SubE (.root a) e/\Is ns a p):=by
 obtain⟨a',hs,hi⟩:=hp
 cases a' with
 |leaf v=>have hi:ns[x]? =some ⟨0,v,0,0⟩:=hi;rw[hn]at hi;cases hi;exact Or.inl ⟨show(0:Int)≠4 by decide,show(0:Int)≠5 by decide⟩
 |add a b=>obtain⟨p,q,h,-⟩:=hi;rw[hn]at h;cases h;exact Or.inl ⟨show(1:Int)≠4 by decide,show(1:Int)≠5 by decide⟩
 |sub a b=>obtain⟨p,q,h,-⟩:=hi;rw[hn]at h;cases h;exact Or.inl ⟨show(2:Int)≠4 by decide,show(2:Int)≠5 by decide⟩
 |mul a b=>obtain⟨p,q,h,-⟩:=hi;rw[hn]at h;cases h;exact Or.inl ⟨show(3:Int)≠4 by decide,show(3:Int)≠5 by decide⟩
 |div a b=>obtain⟨p,q,h,-,-,-,h5⟩:=hi;rw[hn]at h;cases h;exact Or.inr (Or.inl ⟨a,b,p,q,rfl,hs,h5⟩)
 |root a=>obtain⟨p,h,-,h3⟩:=hi;rw[hn]at h;cases h;exact Or.inr (Or.inr ⟨a,p,rfl,hs,h3⟩)
theorem aiK{b:Ex}(hd:DenR e v)(hg:AllGd e)(hs:SubE (.div a b) e)(hi:Is ns b q):GdAt ns q/\sgT ns q≠0:=by
 obtain⟨K,j,u,hu⟩:=hg.1 a b hs;refine⟨⟨b,K,j,u,hi,hu⟩,?_⟩;rw[xJ hi hu.den];obtain⟨t,ht⟩:=hs.den hd
 cases ht with
 |div h1 h2 h0 hz=>rw[hu.den.uniq h2];exact fun h=>h0 (Re.sgn_eq_zero.1 h)
theorem agY(hd:DenR e v)(hg:AllGd e)(hs:SubE (.root a) e)(hi:Is ns a q):GdAt ns q/\¬sgT ns q<0:=by
 obtain⟨K,j,u,hu⟩:=hg.2 a hs;refine⟨⟨a,K,j,u,hi,hu⟩,?_⟩;rw[xJ hi hu.den];obtain⟨t,ht⟩:=hs.den hd
 cases ht with
 |root h1 h0 hz=>
  rw[hu.den.uniq h1];have:(0:Re)<=_:=Re.mul_nonneg h0 h0;rw[hz]at this;rcases Re.sgn_cases _ with ⟨-,h⟩|⟨-,h⟩|⟨h,-⟩
  . rw[h];decide
  . rw[h];decide
  . exact absurd h (Re.not_lt.2 this)
theorem aiL{root:Nat}{m:List Nat}(hl:IsB ns root l)(hm:IsB ns root m):∀x∈l,x∈m:=by
 refine hl.mn (fun x=>x∈m) ?_ hm.rt;intro x n hx hn o ho;obtain⟨y,hy,e⟩:=hm.cl x hx n hn o ho;rw[<-e,Int.toNat_natCast];exact hy
def agZ(w:World)(g root:Nat)(ns:List Nd)(e:Ending)(w':World):Prop:=Below w.heap.size w w'/\∃j ms l,e=.returned (.tuple #[.pointer (some ⟨j,0,none⟩),.nilIface])/\w.heap.size<=ms/\IsB ns root l/\JG w' j ms g ns l
theorem xL{root:Nat}(hd:DagP w g ns)(ok:OkNs ns)(hlf:gB ns)(hro:gD ns)(hI:Is ns e0 root)(hde:DenR e0 v0)(hgd:AllGd e0)(hT:Tab w):
 Calls Tryz.prog 64 #[.pointer (some ⟨g,0,none⟩),.int .i64 (root:Int),.agg #[.bool true,.int .i64 32]] w (agZ w g root ns):=by
 obtain⟨w1,hw1,hb1,hs1,b1⟩:=pro1 w (.cells #[.bool true,.int .i64 32] 116);obtain⟨c0,c1,-,-⟩:=aB b1;have hr:=hI.lt;obtain⟨nr,hnr⟩:∃n,ns[root]? =some n:=⟨_,azR hr⟩;have HB1:=hdd hb1;have HN1:=hdd (eO (hd.below hb1) hnr);have HDW:=hdd hd;have HDE:=hdd hde;have HGD:=hdd hgd;have HI0:=hdd hI;have HLN:=hdd hd.len;have HNJ:Hid (∀w',Below w.heap.size w w'->Calls Tryz.prog 101 #[.pointer (some ⟨g,0,none⟩),.int .i64 (root:Int),.agg #[.bool true,.int .i64 32]] w' (RetJ w' g root ns)):=hdd fun w' h=>xK (hd.below h) ok hlf hro hr;have HJS:Hid (∀w' j ms l (p:Nat),Below w.heap.size w w'->JG w' j ms g ns l->p∈l->GdAt ns p->Calls Tryz.prog 66 #[.pointer (some ⟨j,0,none⟩),.int .i64 (p:Int)] w' (fun e w''=>e=.returned (.tuple #[.int .i64 (sgT ns p),.nilIface])/\Fr (fun b=>b=ms) w' w''/\JG w'' j ms g ns l)):=hdd fun w' j ms l p h hj hl ⟨a,K,jj,v,hi,hg⟩=>lN hj hl (hd.below h) ok hlf hro hi hg (hT.below h);have HBE:Hid (∀w' b0,Below w.heap.size w w'->w'.heap[b0]? =some (.cells #[.int .i64 (root:Int)] 3 (0,0))->Calls Tryz.prog 102 #[.pointer (some ⟨g,0,none⟩),.slice (some ⟨b0,0,none⟩) 1 1] w' (oL w' ns root)):=hdd fun w' b0 h hb=>iT (hd.below h) ok hr hb
 clear hd ok hlf hro hr hb1 b1 hs1 hnr hI hde hgd hT;have hst:=aT;go_enter Tryz.func64,Tryz.ntmps64
 go_wp2_with fail
 refine HN1.out.mono ?_;rintro e w2⟨rfl,hb2⟩;obtain⟨w3,hw3,z0,z1,z2,z3,y0,y1,y2,y3,w4,hw4,hb4,hs4⟩:=new4 w2 87 (.int .i64 0) (.float .f64 0) (.int .i64 0) (.int .i64 0) (.int .i64 nr.kind) (.float .f64 nr.val) (.int .i64 nr.a) (.int .i64 nr.b);have h14:=aA hb2 hb4;replace c0:=cbl c0 h14;replace c1:=cbl c1 h14;have HB4:=hdd (HB1.out.trans (h14.mono HB1.out.size));clear hb2 hb4 hs4 h14;go_wp2_with fail
 refine(HNJ.out _ HB4.out).mono ?_;rintro e w5⟨hb5,j,ms,l0,rfl,hms,hms5,hI0,hjp⟩;obtain⟨w6,hw6,hb6,hs6,b6⟩:=pro1 w5 (.cells #[.int .i64 (root:Int)] 3);have h46:=aA hb5 hb6;have HB6:=hdd (HB4.out.trans (h46.mono HB4.out.size));have HJ6:=hdd (hjp.below hb6);have HIL:=hdd hI0;have HM6:Hid (ms<w6.heap.size):=hdd (by have:=hb6.size;omega);have HMS:=hdd (Nat.le_trans HB4.out.size hms);have HBE6:=hdd (HBE.out w6 _ HB6.out b6);clear hb5 hb6 hs6 b6 h46 hjp hms hms5 hI0 c0 c1 z0 z1 z2 z3 y0 y1 y2 y3 hw3 hw4;go_wp2_with fail
 refine HBE6.out.mono ?_;rintro e w7⟨hb7,v7,l,rfl,hl,hI⟩;obtain⟨bl,cl,rfl,hlc,hcm,-⟩:=id hl;have HL:=hdd hl;have HI:=hdd hI;have HB7:=hdd (HB6.out.trans (hb7.mono HB6.out.size));have HJ7:=hdd (HJ6.out.below hb7);have HMS7:Hid (w.heap.size<=ms):=HMS;have HLL:=hdd (lI hI HLN.out);clear hb7 hl hI hlc hcm hw6;go_wp2_with fail
 go_loopw [37] (fun i wr=>∃k:Nat,k<=l.length/\i=.int .i64 (k:Int)/\Hid (Fr (fun b=>b=ms) w7 wr)/\Hid (JG wr j ms g ns l0)) (fun i _=>((l.length:Int)-intOf i).toNat)
 case atStart=>exact⟨0,Nat.zero_le _,rfl,hdd (Fr.of_below (azQ _ _)),HJ7⟩
 case round=>
  obtain⟨k,hk,rfl,HF,HJR⟩:=hrel;have HBR:Hid (Below w.heap.size w wr):=hdd (HB7.out.trans (HF.out.below HB7.out.size (fun b hb=>by have:=HMS.out;omega)));rcases Nat.lt_or_ge k l.length with hlt|hge
  . obtain⟨x,hx⟩:∃x,l[k]? =some x:=⟨_,azR hlt⟩
    have hxl:x<ns.length:=HI.out.lt x (azU hx);obtain⟨n,hn⟩:∃n,ns[x]? =some n:=⟨_,azR hxl⟩;have cx:=(HL.out.fr HF.out (fun b hb=>by have:=HM6.out;omega)).cell hx;have HN:=hdd (eO (HDW.out.below HBR.out) hn);have hkI:(k:Int)<(l.length:Int):=by omega
    have hk0:(0:Int)<=(k:Int):=by omega
    have hlI:(l.length:Int)<=20000:=by have:=HLL.out;omega
    have HKL:=hdd hlt;have hx0:x∈l0:=aiL HI.out HIL.out x (azU hx);have hkc:=abD (acC HIL.out HI0.out x hx0) hn;have HCL:Hid (∀o∈opsN n,∃y∈l0,(y:Int)=o):=hdd (HIL.out.cl x hx0 n hn);clear hx hn hxl hlt hx0;rcases hkc with ⟨hk4,hk5⟩|⟨a,b,p,q,rfl,hs,hi⟩|⟨a,p,rfl,hs,hi⟩
    . go_wp2_with fail
      refine HN.out.mono ?_;rintro e w8⟨rfl,hb8⟩;obtain⟨w9,hw9,z0,z1,z2,z3,y0,y1,y2,y3,wa,hwa,hba,hsa⟩:=new4 w8 87 (.int .i64 0) (.float .f64 0) (.int .i64 0) (.int .i64 0) (.int .i64 n.kind) (.float .f64 n.val) (.int .i64 n.a) (.int .i64 n.b);obtain⟨x0,x1,x2,x3⟩:=bM hsa;have HFa:=hdd (HF.out.trans (Fr.of_below (aA hb8 hba)));have HJa:=hdd (HJR.out.below (aA hb8 hba));clear hb8 hba hsa cx;go_wp2_with fail
      go_roundw
      case rel=>exact⟨k+1,by have:=HKL.out;omega,by go_num,HFa,HJa⟩
      case measure=>have:=HKL.out;simp[intOf];omega
    . obtain⟨hga,hsg⟩:=aiK HDE.out HGD.out hs hi
      have hq0:q∈l0:=by
       obtain⟨y,hy,e⟩:=HCL.out (q:Int) (by simp[opsN]);have:y=q:=by omega
       rw[<-this];exact hy
      have HGA:=hdd hga;have HQ0:=hdd hq0;clear hga hq0 hs hi;dsimp only at HN;go_wp2_with fail
      refine HN.out.mono ?_;rintro e w8⟨rfl,hb8⟩;obtain⟨w9,hw9,z0,z1,z2,z3,y0,y1,y2,y3,wa,hwa,hba,hsa⟩:=new4 w8 87 (.int .i64 0) (.float .f64 0) (.int .i64 0) (.int .i64 0) (.int .i64 4) (.float .f64 0) (.int .i64 (p:Int)) (.int .i64 (q:Int));obtain⟨x0,x1,x2,x3⟩:=bM hsa;have HFa:=hdd (HF.out.trans (Fr.of_below (aA hb8 hba)));have HJa:=hdd (HJR.out.below (aA hb8 hba));have HBa:=hdd (HBR.out.trans ((aA hb8 hba).mono HBR.out.size));clear hb8 hba hsa cx;go_wp2_with fail
      refine(HJS.out _ _ _ _ q HBa.out HJa.out HQ0.out HGA.out).mono ?_;rintro e wb⟨rfl,hfb,hjb⟩;have HFb:=hdd (HFa.out.trans hfb);have HJb:=hdd hjb;clear hfb hjb x0 x1 x2 x3 z0 z1 z2 z3 y0 y1 y2 y3 hw9 hwa;generalize sgT ns q=S at*;go_wp2_with fail
      go_roundw
      case rel=>exact⟨k+1,by have:=HKL.out;omega,by go_num,HFb,HJb⟩
      case measure=>have:=HKL.out;simp[intOf];omega
    . obtain⟨hga,hsg⟩:=agY HDE.out HGD.out hs hi
      have hq0:p∈l0:=by
       obtain⟨y,hy,e⟩:=HCL.out (p:Int) (by simp[opsN]);have:y=p:=by omega
       rw[<-this];exact hy
      have HGA:=hdd hga;have HQ0:=hdd hq0;clear hga hq0 hs hi;dsimp only at HN;go_wp2_with fail
      refine HN.out.mono ?_;rintro e w8⟨rfl,hb8⟩;obtain⟨w9,hw9,z0,z1,z2,z3,y0,y1,y2,y3,wa,hwa,hba,hsa⟩:=new4 w8 87 (.int .i64 0) (.float .f64 0) (.int .i64 0) (.int .i64 0) (.int .i64 5) (.float .f64 0) (.int .i64 (p:Int)) (.int .i64 0);obtain⟨x0,x1,x2,x3⟩:=bM hsa;have HFa:=hdd (HF.out.trans (Fr.of_below (aA hb8 hba)));have HJa:=hdd (HJR.out.below (aA hb8 hba));have HBa:=hdd (HBR.out.trans ((aA hb8 hba).mono HBR.out.size));clear hb8 hba hsa cx;go_wp2_with fail
      refine(HJS.out _ _ _ _ p HBa.out HJa.out HQ0.out HGA.out).mono ?_;rintro e wb⟨rfl,hfb,hjb⟩;have HFb:=hdd (HFa.out.trans hfb);have HJb:=hdd hjb;clear hfb hjb x0 x1 x2 x3 z0 z1 z2 z3 y0 y1 y2 y3 hw9 hwa;generalize sgT ns p=S at*;go_wp2_with fail
      go_roundw
      case rel=>exact⟨k+1,by have:=HKL.out;omega,by go_num,HFb,HJb⟩
      case measure=>have:=HKL.out;simp[intOf];omega
  . have hke:k=l.length:=by omega
    subst hke;have HRES:Hid (agZ w g root ns (.returned (.tuple #[.pointer (some ⟨j,0,none⟩),.nilIface])) wr):=hdd ⟨HBR.out,j,ms,l0,rfl,HMS.out,HIL.out,HJR.out⟩;clear hk hge;go_wp2
    go_ret2
    exact HRES.out
theorem zX{root:Nat}(hd:DagP w g ns)(ok:OkNs ns)(hlf:gB ns)(hro:gD ns)(hI:Is ns e0 root)(hG:Gd K jj e0 v0)(hgd:AllGd e0)(hT:Tab w):
 Calls Tryz.prog 44 #[.pointer (some ⟨g,0,none⟩),.int .i64 (root:Int),.slice none 0 0] w (fun e w'=>e=.returned (.tuple #[.int .i64 (Re.sgn v0),.nilIface])/\Below w.heap.size w w'):=by
 have HEX:Hid (∀w',Below w.heap.size w w'->Calls Tryz.prog 64 #[.pointer (some ⟨g,0,none⟩),.int .i64 (root:Int),.agg #[.bool true,.int .i64 32]] w' (agZ w' g root ns)):=hdd fun w' h=>xL (hd.below h) ok hlf hro hI hG.den hgd (hT.below h);have HJS:Hid (∀w' j ms l,Below w.heap.size w w'->JG w' j ms g ns l->root∈l->Calls Tryz.prog 66 #[.pointer (some ⟨j,0,none⟩),.int .i64 (root:Int)] w' (fun e w''=>e=.returned (.tuple #[.int .i64 (Re.sgn v0),.nilIface])/\Fr (fun b=>b=ms) w' w''/\JG w'' j ms g ns l)):=hdd fun w' j ms l h hj hl=>by
  have:=lN hj hl (hd.below h) ok hlf hro hI hG (hT.below h);rwa[xJ hI hG.den]at this
 clear hd ok hlf hro hI hG hgd hT;go_enter Tryz.func44,Tryz.ntmps44
 go_wp2_with fail
 refine chosen_any.mono ?_;rintro e w1⟨rfl,hb1⟩;have HB1:=hdd hb1;clear hb1;go_wp2_with fail
 refine(HEX.out _ HB1.out).mono ?_;rintro e w2⟨hb2,j,ms,l,rfl,hms,hIB,hjp⟩;have HB2:=hdd (HB1.out.trans (hb2.mono HB1.out.size));have HMS:=hdd (Nat.le_trans HB1.out.size hms);have HJC:=hdd (HJS.out _ j ms l HB2.out hjp hIB.rt);clear hb2 hms hjp hIB HJS HEX;go_wp2_with fail
 refine HJC.out.mono ?_;rintro e w3⟨rfl,hf,-⟩;have HB3:=hdd (HB2.out.trans (hf.below HB2.out.size (fun b hb=>by have:=HMS.out;omega)));clear hf;go_wp2
 go_ret2
 exact⟨rfl,HB3.out⟩
end
end Go.Proofs.YtkadpnljocflaaaGreatDoor
