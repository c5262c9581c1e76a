/- A part of the proof: contracts of functions and plain laws (PrG, PrH, AlvP, MkB, PgW). -/
import Derived.Test.YtjdgaogkioabeaaGreatDoorK36
import Derived.Test.YtjdgaogkioabeaaGreatDoorK34
import Derived.Test.YtjdgaogkioabeaaGreatDoorK20
set_option linter.unusedVariables false
set_option linter.unusedSimpArgs false
set_option maxHeartbeats 25600000
set_option maxRecDepth 100000
namespace Go.Proofs.YtjdgaogkioabeaaGreatDoor
section
open Go.RowKit Go.Maps
open Re (rat ofI ofN)
open Int renaming sign_eq_zero_iff_zero->bjP,sub_zero->bjR,tmod_eq_of_lt->bjS,sign_mul->bjT,neg_neg->bjU
open Nat renaming le_trans->bjQ
variable{n t0 t1 t2 t3:Nat}
structure Mark where
 n0:Nat
 n1:Nat
 p0:Nat
 p1:Nat
 t:Int
def lexs(u v:Int):Int:=cmpP u v 0 0
theorem al2(x y u v s t:Int):cmpP (x+s*u) (y+s*v) (x+t*u) (y+t*v)=(s-t).sign*lexs u v:=by
 unfold lexs cmpP;rw[show x+s*u-(x+t*u)=(s-t)*u by grind,show y+s*v-(y+t*v)=(s-t)*v by grind,bjT,bjT,bjR,bjR];by_cases h:(s-t).sign=0
 . rw[h];simp
 . by_cases h2:u.sign=0
   . rw[h2];simp
   . rw[if_neg (by simp[h,h2]),if_neg h2]
def Mark.ok (m:Mark)(K0:List (Ex×Nat))(x y u v:Int):Prop:=(.leaf m.p0,m.n0)∈K0/\(.leaf m.p1,m.n1)∈K0/\Wp m.p0 m.p1 (x+m.t*u) (y+m.t*v)
section
variable{g wa wb wc:Nat}{A B C x y u v:Int}{K0:List (Ex×Nat)}{a b c d:Mark}
def ndP(a b:Mark):List (Ex×Nat):=[(.leaf a.p0,a.n0),(.leaf a.p1,a.n1),(.leaf b.p0,b.n0),(.leaf b.p1,b.n1)]
theorem zD(ha:a.ok K0 x y u v)(hb:b.ok K0 x y u v):∀p∈ndP a b,p∈K0:=by
 intro p hp;simp only[ndP,List.mem_cons,List.not_mem_nil,or_false]at hp;rcases hp with rfl|rfl|rfl|rfl
 . exact ha.1
 . exact ha.2.1
 . exact hb.1
 . exact hb.2.1
def loM(s:Int)(a b:Mark):Mark:=bif decide (0<(a.t-b.t).sign*s)then b else a
def hiM(s:Int)(a b:Mark):Mark:=bif decide (0<(a.t-b.t).sign*s)then a else b
theorem mD{e:Bool}(ha:a.ok K0 x y u v)(hb:b.ok K0 x y u v):(bif e then a else b).ok K0 x y u v:=by
 cases e
 . exact hb
 . exact ha
theorem mcmp(ha:a.ok K0 x y u v)(hb:b.ok K0 x y u v):gQ PT (.leaf a.p0) (.leaf a.p1) (.leaf b.p0) (.leaf b.p1) ((a.t-b.t).sign*lexs u v):=al2 x y u v a.t b.t▸wcmp ha.2.2 hb.2.2
theorem al3(ha:a.ok K0 x y u v)(hb:b.ok K0 x y u v):FnOk 52 g 2 #[aT g 1 wa wb wc a.n0 a.n1 b.n0 b.n1] (ndP a b) (fun _=>.tuple #[bD g (loM (lexs u v) a b).n0 (loM (lexs u v) a b).n1,bD g (hiM (lexs u v) a b).n0 (hiM (lexs u v) a b).n1,.nilIface]) []:=by
 have:=ah8 (g:=g) (i:=a.n0) (j:=a.n1) (k:=b.n0) (l:=b.n1) (kd:=1) (ca:=wa) (cb:=wb) (cc:=wc) (mcmp ha hb);unfold loM hiM
 cases e:decide (0<(a.t-b.t).sign*lexs u v)<;>(rw[e]at this;exact this)
def frM(s:Int)(p q:Mark):Mark:=bif decide ((p.t-q.t).sign*s<0)then q else p
def toM(s:Int)(p q:Mark):Mark:=bif decide (0<(p.t-q.t).sign*s)then q else p
def segF(s:Int)(a b c d:Mark):Mark:=frM s (loM s a b) (loM s c d)
def segC(s:Int)(a b c d:Mark):Int:=((segF s a b c d).t-(toM s (hiM s a b) (hiM s c d)).t).sign*s
theorem aiD(ha:a.ok K0 x y u v)(hb:b.ok K0 x y u v)(hc:c.ok K0 x y u v)(hd:d.ok K0 x y u v):
 FnOk 33 g 10 #[aT g 1 wa wb wc a.n0 a.n1 b.n0 b.n1,aT g 1 wa wb wc c.n0 c.n1 d.n0 d.n1] K0 (fun _=>.tuple #[bD g (segF (lexs u v) a b c d).n0 (segF (lexs u v) a b c d).n1,.int .i64 (segC (lexs u v) a b c d),.nilIface]) []:=by
 have lp:(loM (lexs u v) a b).ok K0 x y u v:=mD hb ha;have hp:(hiM (lexs u v) a b).ok K0 x y u v:=mD ha hb;have lq:(loM (lexs u v) c d).ok K0 x y u v:=mD hd hc;have hq:(hiM (lexs u v) c d).ok K0 x y u v:=mD hc hd;have fo:(segF (lexs u v) a b c d).ok K0 x y u v:=mD lq lp;have so:(toM (lexs u v) (hiM (lexs u v) a b) (hiM (lexs u v) c d)).ok K0 x y u v:=mD hq hp;refine aaY (t0:=(toM (lexs u v) (hiM (lexs u v) a b) (hiM (lexs u v) c d)).n0) (t1:=(toM (lexs u v) (hiM (lexs u v) a b) (hiM (lexs u v) c d)).n1) (al3 ha hb) (al3 hc hd) (zD ha hb) (zD hc hd) ?_ (mcmp lp lq) (mcmp hp hq) (mcmp fo so) ?_ ?_
 . intro p h
   simp only[List.mem_cons,List.not_mem_nil,or_false]at h;rcases h with rfl|rfl|rfl|rfl|rfl|rfl|rfl|rfl|rfl|rfl|rfl|rfl
   . exact lp.1
   . exact lp.2.1
   . exact hp.1
   . exact hp.2.1
   . exact lq.1
   . exact lq.2.1
   . exact hq.1
   . exact hq.2.1
   . exact fo.1
   . exact fo.2.1
   . exact so.1
   . exact so.2.1
 . unfold segF frM
   cases e:decide (((loM (lexs u v) a b).t-(loM (lexs u v) c d).t).sign*lexs u v<0)
   . exact Or.inr ⟨rfl,rfl,rfl⟩
   . exact Or.inl ⟨rfl,rfl,rfl⟩
 . unfold toM
   cases e:decide (0<((hiM (lexs u v) a b).t-(hiM (lexs u v) c d).t).sign*lexs u v)
   . exact Or.inr ⟨rfl,rfl,rfl⟩
   . exact Or.inl ⟨rfl,rfl,rfl⟩
def SegQ(K0:List (Ex×Nat))(x y u v lo hi:Int)(ps:List (Nat×Nat)):Prop:=(lo≠hi->ps=[])/\(lo=hi->∃m:Mark,ps=[(m.n0,m.n1)]/\m.t=lo/\m.ok K0 x y u v)
theorem anZ:∀a b c d:Fin 6,a≠b->c≠d->∀s∈[(1:Int),-1],
 let m:=fun(k:Fin 6)=>(⟨0,0,0,0,(k.val:Int)⟩:Mark);let lo:Int:=max (min a.val b.val) (min c.val d.val);let hi:Int:=min (max a.val b.val) (max c.val d.val)
 decide (segC s (m a) (m b) (m c) (m d)<0)=decide (lo<hi)/\((segC s (m a) (m b) (m c) (m d)==0)=(lo==hi))/\(lo=hi->(segF s (m a) (m b) (m c) (m d)).t=lo):=by decide+kernel
theorem aqH(s:Int)(a b:Mark):(loM s a b).t=bif decide (0<(a.t-b.t).sign*s)then b.t else a.t:=by unfold loM;cases decide (0<(a.t-b.t).sign*s)<;>rfl
theorem aqI(s:Int)(a b:Mark):(hiM s a b).t=bif decide (0<(a.t-b.t).sign*s)then a.t else b.t:=by unfold hiM;cases decide (0<(a.t-b.t).sign*s)<;>rfl
theorem aqJ(s:Int)(a b:Mark):(frM s a b).t=bif decide ((a.t-b.t).sign*s<0)then b.t else a.t:=by unfold frM;cases decide ((a.t-b.t).sign*s<0)<;>rfl
theorem aqK(s:Int)(a b:Mark):(toM s a b).t=bif decide (0<(a.t-b.t).sign*s)then b.t else a.t:=by unfold toM;cases decide (0<(a.t-b.t).sign*s)<;>rfl
theorem aqL{s:Int}{a b c d a' b' c' d':Mark}(h1:a.t=a'.t)(h2:b.t=b'.t)(h3:c.t=c'.t)(h4:d.t=d'.t):(segF s a b c d).t=(segF s a' b' c' d').t/\segC s a b c d=segC s a' b' c' d':=by
 have e:(segF s a b c d).t=(segF s a' b' c' d').t:=by unfold segF;simp only[aqJ,aqH,h1,h2,h3,h4]
 refine⟨e,?_⟩;unfold segC;rw[e];simp only[aqK,aqI,h1,h2,h3,h4]
theorem af4(h:u≠0\/v≠0):lexs u v=1\/lexs u v=-1:=by
 unfold lexs;rcases al1 u v 0 0 with e|e|e
 . exact Or.inr e
 . unfold cmpP at e
   rw[bjR,bjR]at e
   split at e
   . rename_i h0
     have:=bjP.1 h0;have:=bjP.1 e;omega
   . rename_i h0;exact(h0 e).elim
 . exact Or.inl e
abbrev loT(a b c d:Nat):Int:=max (min (a:Int) b) (min (c:Int) d)
abbrev hiT(a b c d:Nat):Int:=min (max (a:Int) b) (max (c:Int) d)
theorem an0(h0:t0<6)(h1:t1<6)(h2:t2<6)(h3:t3<6)(n1:t0≠t1)(n2:t2≠t3)(ea:a.t=t0)(eb:b.t=t1)(ec:c.t=t2)(ed:d.t=t3)(huv:u≠0\/v≠0):
 decide (segC (lexs u v) a b c d<0)=decide (loT t0 t1 t2 t3<hiT t0 t1 t2 t3)/\((segC (lexs u v) a b c d==0)=(loT t0 t1 t2 t3==hiT t0 t1 t2 t3))/\(loT t0 t1 t2 t3=hiT t0 t1 t2 t3->(segF (lexs u v) a b c d).t=loT t0 t1 t2 t3):=by
 obtain⟨e1,e2⟩:=aqL (s:=lexs u v) (a:=a) (b:=b) (c:=c) (d:=d) (a':=⟨0,0,0,0,t0⟩) (b':=⟨0,0,0,0,t1⟩) (c':=⟨0,0,0,0,t2⟩) (d':=⟨0,0,0,0,t3⟩) ea eb ec ed;rw[e1,e2];exact anZ ⟨t0,h0⟩ ⟨t1,h1⟩ ⟨t2,h2⟩ ⟨t3,h3⟩ (fun e=>n1 (Fin.mk.inj e)) (fun e=>n2 (Fin.mk.inj e)) _ (by rcases af4 huv with e|e<;>rw[e]<;>simp)
theorem al4(h:Crv 1 wa wb wc v (-u) (v*x-u*y))(ha:a.ok K0 x y u v)(hb:b.ok K0 x y u v)(hs:a.t≠b.t)(huv:u≠0\/v≠0):okP 1 v (-u) (v*x-u*y) (x+a.t*u) (y+a.t*v) (x+b.t*u) (y+b.t*v)=true:=by
 have e:∀t:Int,onP 1 v (-u) (v*x-u*y) (x+t*u) (y+t*v)=0:=fun t=>by
  unfold onP;rw[if_pos rfl,show v*(x+t*u)+-u*(y+t*v)-(v*x-u*y)=0 by grind];rfl
 have hc:(cmpP (x+a.t*u) (y+a.t*v) (x+b.t*u) (y+b.t*v)==0)=false:=by
  rw[al2,beq_eq_false_iff_ne];have h1:(a.t-b.t).sign≠0:=fun e=>hs (by have:=bjP.1 e;omega);rcases af4 huv with e|e<;>rw[e]<;>omega
 unfold okP;rw[e,e,hc];rfl
theorem al5(h:Crv 1 wa wb wc v (-u) (v*x-u*y))(ha:a.ok K0 x y u v)(hb:b.ok K0 x y u v)(hc:c.ok K0 x y u v)(hd:d.ok K0 x y u v)(h0:t0<6)(h1:t1<6)(h2:t2<6)(h3:t3<6)(n1:t0≠t1)(n2:t2≠t3)(ea:a.t=t0)(eb:b.t=t1)(ec:c.t=t2)(ed:d.t=t3)(huv:u≠0\/v≠0):
 sZ 10 g 200 #[.pointer (some ⟨g,0,none⟩),aT g 1 wa wb wc a.n0 a.n1 b.n0 b.n1,aT g 1 wa wb wc c.n0 c.n1 d.n0 d.n1] K0 (qO g (decide (loT t0 t1 t2 t3<hiT t0 t1 t2 t3)) (fun _ ps=>SegQ K0 x y u v (loT t0 t1 t2 t3) (hiT t0 t1 t2 t3) ps)):=by
 obtain⟨g1,g2,g3⟩:=an0 h0 h1 h2 h3 n1 n2 ea eb ec ed huv;have hs:=aiD (g:=g) (wa:=wa) (wb:=wb) (wc:=wc) ha hb hc hd;have k1:=h.check (g:=g) (i:=a.n0) (j:=a.n1) (k:=b.n0) (l:=b.n1) ha.2.2 hb.2.2;rw[al4 h ha hb (by omega) huv]at k1;have k2:=h.check (g:=g) (i:=c.n0) (j:=c.n1) (k:=d.n0) (l:=d.n1) hc.2.2 hd.2.2;rw[al4 h hc hd (by omega) huv]at k2;have ho:=xM hs k1 k2 (zD ha hb) (zD hc hd) h.alike;rw[g1]at ho;have w1:=lZ (g:=g) (i:=a.n0) (j:=a.n1) (k:=b.n0) (l:=b.n1) (kd:=1) (ca:=wa) (cb:=wb) (cc:=wc) (A1:=.leaf a.p0) (A2:=.leaf a.p1) (B1:=.leaf b.p0) (B2:=.leaf b.p1) (Or.inr ⟨rfl,rfl⟩);have w2:=lZ (g:=g) (i:=c.n0) (j:=c.n1) (k:=d.n0) (l:=d.n1) (kd:=1) (ca:=wa) (cb:=wb) (cc:=wc) (A1:=.leaf c.p0) (A2:=.leaf c.p1) (B1:=.leaf d.p0) (B2:=.leaf d.p1) (Or.inr ⟨rfl,rfl⟩);have fo:(segF (lexs u v) a b c d).ok K0 x y u v:=mD (mD hd hc) (mD hb ha);refine aaZ ho h.alike (xE w1 w2 (zD ha hb) (zD hc hd)) (fun e _=>⟨fun _=>rfl,fun e2=> ?_⟩) (fun _=>aeP hs (fun e _=> ?_) (fun e _=>⟨fun _=>rfl,fun e2=> ?_⟩))
 . have:=of_decide_eq_true e;omega
 . have e2:loT t0 t1 t2 t3=hiT t0 t1 t2 t3:=by rw[g2]at e;exact beq_iff_eq.1 e
   exact⟨fun hn=>(hn e2).elim,fun _=>⟨_,rfl,g3 e2,fo⟩⟩
 . rw[g2,e2]at e;simp at e
end
theorem nbeq(a b:Nat):((a:Int)==(b:Int))=(a==b):=by rw[Bool.eq_iff_iff,beq_iff_eq,beq_iff_eq];omega
theorem al6{α:Type}(a b:α)(l m:List α):(b::(l++(m++[a]))).Perm (a::b::(l++m)):=by
 rw[<-List.append_assoc];exact((List.Perm.swap ..).trans (List.Perm.cons _ (List.perm_append_singleton ..).symm)).symm
theorem wrap_small{z:Int}(h:z.natAbs<=1000):wrap64 z=z:=by unfold wrap64;omega
theorem flw'{a:Int}(h:a.natAbs<=n)(hn:n<=1000:=by decide):Iw (fl a) a:=⟨⟨(rO (by omega)).1,(rO (by omega)).2.1⟩,(rO (by omega)).2.2⟩
theorem mE{u:Int}(h:u.natAbs<n):u.tmod n=u:=by
 rcases Int.lt_or_le u 0 with h0|h0
 . have:=Int.neg_tmod (-u) (n:Int)
   rw[bjU]at this;rw[this,bjS (by omega) (by omega),bjU]
 . exact bjS h0 (by omega)
theorem uK{x u:Int}{T:Nat}(bx:x.natAbs<=6)(bu:u.natAbs<=3)(hT:T<6):∃a q,Op2 .mul (fl (T:Int)) (fl u) a/\Op2 .add (fl x) a q/\Iw q (x+T*u)/\(x+T*u).natAbs<=22:=by
 have bt:((T:Int)).natAbs<=5:=by omega
 have p3:=nab bt bu;have z:=nadd bx p3;obtain⟨a1,o1,j1⟩:=aaW (flw (bjQ bt (by decide))) (flw (bjQ bu (by decide))) (nlt p3);obtain⟨q1,o2,k1⟩:=apN (flw bx) j1 (nlt z);exact⟨_,_,o1,o2,k1,bjQ z (by decide)⟩
def Crv0(wc:Nat)(X Y u v:Int):Prop:=Iw (fl v) v/\Iw (fl u ^^^ 2^63) (-u)/\Iw wc (v*X.tmod 7-u*Y.tmod 7)/\v.natAbs<=6/\(-u).natAbs<=6/\(v*X.tmod 7-u*Y.tmod 7).natAbs<=36
theorem Crv0.crv {wc:Nat}{X Y u v:Int}(h:Crv0 wc X Y u v)(huv:u≠0\/v≠0):Crv 1 (fl v) (fl u ^^^ 2^63) wc v (-u) (v*X.tmod 7-u*Y.tmod 7):=
 ⟨h.1,h.2.1,h.2.2.1,h.2.2.2.1,h.2.2.2.2.1,h.2.2.2.2.2,Or.inl ⟨rfl,h.1.1,h.2.1.1,h.2.2.1.1,huv.symm.imp (fun e=>aoH h.1 e) (fun e=>aoH h.2.1 (by omega))⟩⟩
theorem aiE(X Y:Int){u v:Int}(bu:u.natAbs<=3)(bv:v.natAbs<=3):∃wc,Crv0 wc X Y u v/\∀{T0 T1:Nat},T0<6->T1<6->∃p0 p1 q0 q1,aoJ X Y u v (T0:Int) (T1:Int) (fl (X.tmod 7)) (fl (Y.tmod 7)) false 1 (fl v) (fl u ^^^ 2^63) wc p0 p1 q0 q1/\Wp p0 p1 (X.tmod 7+T0*u) (Y.tmod 7+T0*v)/\Wp q0 q1 (X.tmod 7+T1*u) (Y.tmod 7+T1*v):=by
 have bx:(X.tmod 7).natAbs<=6:=tmb X 7 (by decide);have b_y:(Y.tmod 7).natAbs<=6:=tmb Y 7 (by decide);have wx:=flw bx;have wy:=flw b_y;have wu:=flw (bjQ bu (by decide));have wv:=flw (bjQ bv (by decide));have p1:=nab bv bx;have p2:=nab bu b_y;have z0:=nsub p1 p2;obtain⟨m1,n1,i1⟩:=aaW wv wx (nlt p1);obtain⟨m2,n2,i2⟩:=aaW wu wy (nlt p2);obtain⟨wc,n3,i3⟩:=apO i1 i2 (nlt z0);refine⟨wc,⟨wv,anX wu,i3,bjQ bv (by decide),by rw[Int.natAbs_neg];exact bjQ bu (by decide),z0⟩,fun{T0 T1} h0 h1=> ?_⟩;obtain⟨a1,q1,o1,o2,k1,d1⟩:=uK bx bu h0;obtain⟨a2,q2,o3,o4,k2,d2⟩:=uK b_y bv h0;obtain⟨a3,q3,o5,o6,k3,d3⟩:=uK bx bu h1;obtain⟨a4,q4,o7,o8,k4,d4⟩:=uK b_y bv h1;have eu:u.tmod 4=u:=mE (n:=4) (by omega);have ev:v.tmod 4=v:=mE (n:=4) (by omega);have e0:(T0:Int).tmod 6=T0:=mE (n:=6) (by omega);have e1:(T1:Int).tmod 6=T1:=mE (n:=6) (by omega);exact⟨q1,q2,q3,q4,⟨rfl,rfl,Or.inr ⟨rfl,rfl,_,_,_,m1,m2,a1,a2,a3,a4,rfl,by rw[ev],by rw[eu],n1,by rw[eu];exact n2,n3,rfl,rfl,by rw[e0,eu];exact o1,o2,by rw[e0];exact o3,o4,by rw[e1,eu];exact o5,o6,by rw[e1];exact o7,o8⟩⟩,⟨k1,k2,d1,d2⟩,k3,k4,d3,d4⟩
end
section
open Go.RowKit Go.Maps Go.Stop Go.Extern
open List renaming mem_cons_of_mem->bjV,mem_append_right->bjW,nodup_cons->bjZ,mem_cons->bj0,not_mem_nil->bj1
open Nat renaming le_add_right->bjX,le_trans->bjY,zero_mul->bj2,zero_add->bj3
variable{w:World}
theorem an1:Crv 2 0 0 4607182418800017408 0 0 1:=⟨⟨yQ,afY⟩,⟨yQ,afY⟩,iw_1,by decide,by decide,by decide,Or.inr ⟨rfl,⟨yQ,yQ,iw_1.1,aqD iw_1 (by decide)⟩,by decide⟩⟩
theorem al7:Wp 4607182418800017408 0 1 0:=⟨iw_1,⟨yQ,afY⟩,by decide,by decide⟩
theorem af5:Wp 13830554455654793216 0 (-1) 0:=⟨⟨⟨by decide,by decide⟩,by kernel_rfl⟩,⟨yQ,afY⟩,by decide,by decide⟩
theorem an2(hT:Tab w)(htb:1<w.heap.size):
 Calls Tryz.prog 7 #[] w (RetV w (.bool true)):=by
 have HN:=hdd (afD (l:=[]) (Below.refl w.heap.size w) (fun p hp=>by cases hp) (by simp) hT htb);clear hT htb;have hst:=aN;go_enter Tryz.func7,Tryz.ntmps7
 go_wp2_with fail
 refine HN.out.mono ?_;rintro e W1⟨g,rfl,hR⟩;dsimp only;obtain⟨w2,hw2,b1,hR⟩:=hR.box1 (curO 2 0 0 4607182418800017408);have HA:=hdd (hR.spot (by omega) (v:=4607182418800017408) (u:=0) (by decide) (by decide) (by decide) (by decide));clear b1 hR HN;go_wp2_with fail
 refine HA.out.mono ?_;rintro e w3⟨i,j,rfl,hR⟩;have HA:=hdd (hR.spot (by omega) (v:=13830554455654793216) (u:=0) (by decide) (by decide) (by decide) (by decide));clear hR;go_wp2_with fail
 refine HA.out.mono ?_;rintro e w4⟨k,l,rfl,hR⟩;obtain⟨w5,hw5,b1,b2,hR⟩:=hR.box2 (dN g i j) (dN g k l);obtain⟨x0,x1,x2,x3⟩:=aD (hR.at m2);obtain⟨y0,y1,y2,y3⟩:=aD b1;obtain⟨z0,z1,z2,z3⟩:=aD b2;have HC:=hdd (aiC (g:=g) (i:=i) (j:=j) (k:=k) (l:=l) (i':=k) (j':=l) (k':=i) (l':=j) an1 al7 af5 af5 al7 (by decide) (by decide) _ _ _ _ w5 hR (by omega) (fun p hp=>(eQ [2,3,0,1,0,1,2,3]) p hp));clear b1 b2 hR;go_wp2_with fail
 refine HC.out.mono ?_;rintro e w6⟨K1,l1,⟨v,ps,hq,rfl,ho⟩,hR⟩;obtain⟨pp,cp,rfl⟩:=ho.slice;replace hq:ps.length=2:=hq;rw[hq];have HB:=hdd hR.below;clear hR ho hq HC;go_wp2;go_ret;exact⟨rfl,HB.out⟩
theorem adB{s:Bs}{g N bb n:Nat}{K:List (Ex×Nat)}{l ln:List (Nat×Obj)}{W:World}{O:Obj}{r:Bool}{X Y U V I Kk oo kd:Int}{wx wy wa wb wc p0 p1 q0 q1 P0 Q1:Nat}(hR:Run s g N K ((bb,O)::(ln++l)) W)(hB:BrdB bb n ln O)(hN:N+4<=20000)(hn:n<900)(hM:aoJ X Y U V I Kk wx wy r kd wa wb wc p0 p1 q0 q1)(hO:aoK oo p0 q1 P0 Q1)(f0:FlOk P0)(f1:FlOk p1)(f2:FlOk q0)(f3:FlOk Q1)(hr:r=false):
 Calls Tryz.prog 9 #[aqE r X Y U V I Kk oo,.pointer (some ⟨g,0,none⟩),.pointer (some ⟨bb,0,none⟩)] W (fun e W'=>∃(i j k m:Nat) (O':Obj) (ln':List (Nat×Obj)),e=.returned (.tuple #[arcW g kd wa wb wc i j k m,refW kd wa wb wc n])/\BrdB bb (n+4) ln' O'/\Run s g (N+4) ((.leaf P0,i)::(.leaf p1,j)::(.leaf q0,k)::(.leaf Q1,m)::K) ((bb,O')::(ln'++l)) W'):=by
 obtain⟨w3,hw3,hb3,hs3,b1,b2,b3⟩:=pro3 W (aqF r X Y U V I Kk oo) (.cells #[.int .i64 0,.float .f64 0,.float .f64 0,.float .f64 0,.pointer none,.int .i64 0,.pointer none,.int .i64 0,.pointer none,.int .i64 0,.pointer none,.int .i64 0] 38) (.cells #[.int .i64 0,.float .f64 0,.float .f64 0,.float .f64 0,.int .i64 0,.int .i64 0,.int .i64 0,.int .i64 0] 42);have C1:∀k v,[.bool r,.int .i64 X,.int .i64 Y,.int .i64 U,.int .i64 V,.int .i64 I,.int .i64 Kk,.int .i64 oo][k]? =some v->w3.cell? ⟨W.heap.size,k,none⟩=some v:=fun k v h=>aL b1 h;have c0:=C1 0 _ rfl;have c1:=C1 1 _ rfl;have c2:=C1 2 _ rfl;have c3:=C1 3 _ rfl;have c4:=C1 4 _ rfl;have c5:=C1 5 _ rfl;have c6:=C1 6 _ rfl;have c7:=C1 7 _ rfl;have HR:=hdd hR;have HB:=hdd hB;have HB3:=hdd hb3;have B1:=hdd b1;have B2:=hdd b2;have B3:=hdd b3;have FF:=hdd (And.intro f0 (And.intro f1 (And.intro f2 f3)));obtain⟨hx,hy,hM⟩:=hM;obtain⟨o,ho,hO⟩:=hO;have HO:=hdd hO;have HM:=hdd hM;replace hr:=hdd hr;clear hR hB hb3 b1 b2 b3 C1 f0 f1 f2 f3 hM hO;have hst:=aN
 go_enter Tryz.func9,Tryz.ntmps9
 go_wp2_with fail
 go_quiet (fail)
 obtain⟨v3,hv3⟩:∃v,w3.drewN nq=v:=⟨_,rfl⟩;have hx':floatOfInt FloatKind.f64 (X.tmod 7)=wx:=hx;have hy':floatOfInt FloatKind.f64 (Y.tmod 7)=wy:=hy;simp only[hv3,hx',hy'];have hh:v3.heap=w3.heap:=by rw[<-hv3];rfl
 have D1:=B1.out;have D2:=B2.out;have D3:=B3.out;rw[<-hh]at D1 D2 D3;replace D1:=hdd D1;replace D2:=hdd D2;replace D3:=hdd D3;have HV:Hid (Below W.heap.size W v3):=hdd (by rw[<-hv3];exact⟨HB3.out.os,HB3.out.tape,HB3.out.output,HB3.out.size,HB3.out.block⟩);have hvs:v3.heap.size=W.heap.size+3:=by rw[hh];exact hs3
 clear hh hw3 hs3 c0 c1 c2 c3 c4 c5 c6 c7 hv3 hx hy hx' hy' B1 B2 B3 HB3;clear nq;obtain⟨w5,hw5,hb5,hs5,b4,b5⟩:=pro2 v3 (curO 0 0 0 0) (.cells #[.float .f64 0,.float .f64 0,.float .f64 0,.float .f64 0] 68);rw[hvs]at b4 b5;have E1:=hdd (hbl D1.out hb5);have E2:=hdd (hbl D2.out hb5);have E3:=hdd (hbl D3.out hb5);have E4:=hdd b4;have E5:=hdd b5;have H5:=hdd (aB HV.out hb5);have C1:∀k v,[.bool r,.int .i64 X,.int .i64 Y,.int .i64 U,.int .i64 V,.int .i64 I,.int .i64 Kk,.int .i64 oo][k]? =some v->w5.cell? ⟨W.heap.size,k,none⟩=some v:=fun k v h=>aL E1.out h;have c0:=C1 0 _ rfl;have c1:=C1 1 _ rfl;have c2:=C1 2 _ rfl;have c3:=C1 3 _ rfl;have c4:=C1 4 _ rfl;have c5:=C1 5 _ rfl;have c6:=C1 6 _ rfl;have c7:=C1 7 _ rfl;obtain⟨d0,d1,d2,d3⟩:=aD b4;obtain⟨e0,e1,e2,e3⟩:=sF b4;clear D1 D2 D3 HV hb5 b4 b5 C1 w3;rcases HM.out with ⟨rfl,hk,hwa,hwb,hwc,J,L,hJ,hI,hL,hK,a1,a2,a3,a4⟩|⟨rfl,hk,wu,ws,wt,zz1,zz2,a1,a2,b1,b2,hu,hv,hwb,n1,n2,n3,hs,ht,o1,o2,o3,o4,o5,o6,o7,o8⟩
 . exact absurd hr.out (by decide)
 clear hr;clear HM;have hu':floatOfInt FloatKind.f64 (U.tmod 4)=wu:=hu;have hv':floatOfInt FloatKind.f64 (V.tmod 4)=wa:=hv;have hs':floatOfInt FloatKind.f64 (I.tmod 6)=ws:=hs;have ht':floatOfInt FloatKind.f64 (Kk.tmod 6)=wt:=ht;have hng:=alU;clear hu hv hs ht;go_wp2_with fail
 go_quiet (fail)
 obtain⟨v5,hv5⟩:∃v,w5.drewN nq=v:=⟨_,rfl⟩;simp only[hv5,hu',hv'];have hh:v5.heap=w5.heap:=by rw[<-hv5];rfl
 have D1:=E1.out;have D2:=E2.out;have D3:=E3.out;have D4:=E4.out;have D5:=E5.out;rw[<-hh]at D1 D2 D3 D4 D5;replace E1:=hdd D1;replace E2:=hdd D2;replace E3:=hdd D3;replace E4:=hdd D4;replace E5:=hdd D5;replace H5:Hid (Below W.heap.size W v5):=hdd (by rw[<-hv5];exact⟨H5.out.os,H5.out.tape,H5.out.output,H5.out.size,H5.out.block⟩);clear hh hv5 D1 D2 D3 D5 c0 c1 c2 c3 c4 c5 c6 c7 d0 d1 d2 d3 e0 e1 e2 e3 nq;have C1:∀k v,[.bool false,.int .i64 X,.int .i64 Y,.int .i64 U,.int .i64 V,.int .i64 I,.int .i64 Kk,.int .i64 oo][k]? =some v->v5.cell? ⟨W.heap.size,k,none⟩=some v:=fun k v h=>aL E1.out h;have c0:=C1 0 _ rfl;have c1:=C1 1 _ rfl;have c2:=C1 2 _ rfl;have c3:=C1 3 _ rfl;have c4:=C1 4 _ rfl;have c5:=C1 5 _ rfl;have c6:=C1 6 _ rfl;have c7:=C1 7 _ rfl;obtain⟨d0,d1,d2,d3⟩:=aD D4;obtain⟨e0,e1,e2,e3⟩:=sF D4;clear C1 D4 hu' hv';go_wp2_with (simp only[hng,n1,n2,n3])
 obtain⟨w6,hw6,hb6,q1,q2⟩:=alV (a:=.int .i64 1) (b:=.float .f64 wa) (c:=.float .f64 (wu ^^^ 2^63)) (d:=.float .f64 wc) H5.out (bjX _ 3) E4.out;simp only[hw6];have G1:=hdd ((q2 (W.heap.size) (by omega)).trans E1.out);have G2:=hdd ((q2 (W.heap.size+1) (by omega)).trans E2.out);have G3:=hdd ((q2 (W.heap.size+2) (by omega)).trans E3.out);have G5:=hdd ((q2 (W.heap.size+4) (by omega)).trans E5.out);have G4:=hdd q1;have H6:=hdd hb6;clear c0 c1 c2 c3 c4 c5 c6 c7 d0 d1 d2 d3 e0 e1 e2 e3 E1 E2 E3 E4 E5 H5 hb6 q1 q2 hw6;have hix0:=ixp0 I Kk;have hix1:=ixp1 I Kk;refine wp_loop_rounds 3 ?_;rw[rounds_succ];have I1:=G1;have I2:=G2;have I3:=G3;have I4:=G4;have I5:=G5;have H7:=H6;obtain⟨d0,d1,d2,d3⟩:=aD I5.out;obtain⟨e0,e1,e2,e3⟩:=sF I5.out;clear G1 G2 G3 G4 G5 H6;go_wp2_with (simp only[hs',o1,o2,o3,o4])
 obtain⟨w8,hw8,hb8,r1,r2⟩:=apP (a:=.float .f64 p0) (b:=.float .f64 p1) H7.out (show W.heap.size<=W.heap.size+3+1 by omega) I5.out;simp only[hw8];have G1:=hdd ((r2 (W.heap.size) (by omega)).trans I1.out);have G2:=hdd ((r2 (W.heap.size+1) (by omega)).trans I2.out);have G3:=hdd ((r2 (W.heap.size+2) (by omega)).trans I3.out);have G4:=hdd ((r2 (W.heap.size+3) (by omega)).trans I4.out);have G5:=hdd r1;have H8:=hdd hb8;clear d0 d1 d2 d3 e0 e1 e2 e3 I1 I2 I3 I4 I5 H7 hb8 r1 r2 hw8;rw[rounds_succ];have I1:=G1;have I2:=G2;have I3:=G3;have I4:=G4;have I5:=G5;have H9:=H8;obtain⟨d0,d1,d2,d3⟩:=aD I5.out;obtain⟨e0,e1,e2,e3⟩:=sF I5.out;clear G1 G2 G3 G4 G5 H8;go_wp2_with (simp only[ht',o5,o6,o7,o8])
 obtain⟨wz,hwz,hbz,r1,r2⟩:=apQ (a:=.float .f64 q0) (b:=.float .f64 q1) H9.out (show W.heap.size<=W.heap.size+3+1 by omega) I5.out;simp only[hwz];have G1:=hdd ((r2 (W.heap.size) (by omega)).trans I1.out);have G2:=hdd ((r2 (W.heap.size+1) (by omega)).trans I2.out);have G3:=hdd ((r2 (W.heap.size+2) (by omega)).trans I3.out);have G4:=hdd ((r2 (W.heap.size+3) (by omega)).trans I4.out);have G5:=hdd r1;have HA:=hdd hbz;clear d0 d1 d2 d3 e0 e1 e2 e3 I1 I2 I3 I4 I5 H9 hbz r1 r2 hwz;replace G4:Hid (wz.heap[W.heap.size+3]? =some (curO kd wa wb wc)):=hdd (by rw[hk,hwb];exact G4.out);clear hng n1 n2 n3 o1 o2 o3 o4 o5 o6 o7 o8 hs' ht' hk hwb;have c7:=aL (k:=7) (v:=.int .i64 oo) G1.out rfl;rcases HO.out with ⟨k1,k2,k3,rfl⟩|⟨k1,k2,rfl,k3⟩|⟨k1,k2,rfl,rfl⟩;have e0:=aL (k:=0) (v:=.float .f64 p0) G5.out rfl;have z5:=aaX G5.out;rw[rounds_succ];go_wp2_with (simp only[ho,k1,k2,k3])
 obtain⟨wv,hwv,hbv,r1,r2⟩:=af0 (k:=0) (a:=.float .f64 P0) HA.out (show W.heap.size<=W.heap.size+3+1 by omega) (cs:=[.float .f64 p0,.float .f64 p1,.float .f64 q0,.float .f64 Q1]) G5.out;simp only[hwv];have J1:=hdd ((r2 (W.heap.size) (by omega)).trans G1.out);have J2:=hdd ((r2 (W.heap.size+1) (by omega)).trans G2.out);have J3:=hdd ((r2 (W.heap.size+2) (by omega)).trans G3.out);have J4:=hdd ((r2 (W.heap.size+3) (by omega)).trans G4.out);have J5:=hdd r1;have HC:=hdd hbv;clear e0 z5 G1 G2 G3 G4 G5 HA r1 r2 hbv hwv
 rotate_left
 have e3:=aL (k:=3) (v:=.float .f64 q1) G5.out rfl;have z5:=aaX G5.out;rw[rounds_succ];go_wp2_with (simp only[ho,k1,k2,k3])
 obtain⟨wv,hwv,hbv,r1,r2⟩:=af0 (k:=3) (a:=.float .f64 Q1) HA.out (show W.heap.size<=W.heap.size+3+1 by omega) (cs:=[.float .f64 P0,.float .f64 p1,.float .f64 q0,.float .f64 q1]) G5.out;simp only[hwv];have J1:=hdd ((r2 (W.heap.size) (by omega)).trans G1.out);have J2:=hdd ((r2 (W.heap.size+1) (by omega)).trans G2.out);have J3:=hdd ((r2 (W.heap.size+2) (by omega)).trans G3.out);have J4:=hdd ((r2 (W.heap.size+3) (by omega)).trans G4.out);have J5:=hdd r1;have HC:=hdd hbv;clear e3 z5 G1 G2 G3 G4 G5 HA r1 r2 hbv hwv
 rotate_left
 rw[rounds_succ];go_wp2_with (simp only[ho,k1,k2])
 have J1:=G1;have J2:=G2;have J3:=G3;have J4:=G4;have J5:=G5;have HC:=HA;clear G1 G2 G3 G4 G5 HA;generalize wz=wv at c7 J1 J2 J3 J4 J5 HC|-
 all_goals (
  clear c7 k1 k2 ho;have HD:Below W.heap.size W wv.drew:=⟨HC.out.os,HC.out.tape,HC.out.output,HC.out.size,HC.out.block⟩;have R0:=hdd ((HR.out.keeps HD [(W.heap.size+1,.cells #[.int .i64 0,.float .f64 0,.float .f64 0,.float .f64 0,.pointer none,.int .i64 0,.pointer none,.int .i64 0,.pointer none,.int .i64 0,.pointer none,.int .i64 0] 38),(W.heap.size+2,.cells #[.int .i64 0,.float .f64 0,.float .f64 0,.float .f64 0,.int .i64 0,.int .i64 0,.int .i64 0,.int .i64 0] 42),(W.heap.size+3,curO kd wa wb wc),(W.heap.size+4,.cells #[.float .f64 P0,.float .f64 p1,.float .f64 q0,.float .f64 Q1] 68)] (by
   intro p hp;simp only[bj0,bj1,or_false]at hp;rcases hp with rfl|rfl|rfl|rfl
   . exact⟨J2.out,bjX _ _⟩
   . exact⟨J3.out,bjX _ _⟩
   . exact⟨J4.out,bjX _ _⟩
   . exact⟨J5.out,bjX _ _⟩) (by simp)).perm akW)
  have SP1:=hdd (R0.out.spot (by omega) FF.out.1.1 FF.out.2.1.1 FF.out.1.2 FF.out.2.1.2);have Q4:=R0.out.at (m_lb m2);have Q5:=R0.out.at (m_lb m3);obtain⟨d0,d1,d2,d3⟩:=aD Q4;obtain⟨e0,e1,e2,e3⟩:=aD Q5;clear Q4 Q5 HD
  go_region_held3 (fun w'=>w'.cell? ⟨W.heap.size+3,0,none⟩=some (.int .i64 kd)/\w'.cell? ⟨W.heap.size+3,1,none⟩=some (.float .f64 wa)/\w'.cell? ⟨W.heap.size+3,2,none⟩=some (.float .f64 wb)/\w'.cell? ⟨W.heap.size+3,3,none⟩=some (.float .f64 wc)/\w'.cell? ⟨W.heap.size+3+1,0,none⟩=some (.float .f64 P0)/\w'.cell? ⟨W.heap.size+3+1,1,none⟩=some (.float .f64 p1)/\w'.cell? ⟨W.heap.size+3+1,2,none⟩=some (.float .f64 q0)/\w'.cell? ⟨W.heap.size+3+1,3,none⟩=some (.float .f64 Q1)) (go_keep)
   (first
   |(go_at_call 11
     with_reducible refine SP1.out.mono ?_
     rintro e w1⟨i,j,rfl,hr⟩;have R1:=hdd hr;have Q4:=R1.out.at (m_lb m2);have Q5:=R1.out.at (m_lb m3);obtain⟨d0,d1,d2,d3⟩:=aD Q4;obtain⟨e0,e1,e2,e3⟩:=aD Q5;have SP2:=hdd (R1.out.spot (by omega) FF.out.2.2.1.1 FF.out.2.2.2.1 FF.out.2.2.1.2 FF.out.2.2.2.2);clear Q4 Q5 hr)
   |(go_at_call 11
     with_reducible refine SP2.out.mono ?_
     rintro e w2⟨k,m,rfl,hr⟩;have R2:=hdd hr;have Q4:=R2.out.at (m_lb m2);have Q5:=R2.out.at (m_lb m3);obtain⟨d0,d1,d2,d3⟩:=aD Q4;obtain⟨e0,e1,e2,e3⟩:=aD Q5;have BA1:=hdd (R2.out.brd_at (x:=P0) (y:=p1) HB.out (by omega));clear Q4 Q5 hr)
   |(go_at_call 18
     with_reducible refine BA1.out.mono ?_
     rintro e w4⟨rfl,O1,ln1,hB1,hr⟩;have R3:=hdd hr;have Q4:=R3.out.at (m_lb m2);have Q5:=R3.out.at (m_lb m3);obtain⟨d0,d1,d2,d3⟩:=aD Q4;obtain⟨e0,e1,e2,e3⟩:=aD Q5;have BA2:=hdd (R3.out.brd_at (x:=q0) (y:=Q1) hB1 (by omega));clear Q4 Q5 hr)
   |(go_at_call 18
     with_reducible refine BA2.out.mono ?_
     rintro e w5⟨rfl,O2,ln2,hB2,hr⟩;have R4:=hdd hr;have Q4:=R4.out.at (m_lb m2);have Q5:=R4.out.at (m_lb m3);obtain⟨d0,d1,d2,d3⟩:=aD Q4;obtain⟨e0,e1,e2,e3⟩:=aD Q5;have Q6:=R4.out.at (m_lb m0);have Q7:=R4.out.at (m_lb m1);have B4:=hdd hB2;obtain⟨x0,x1,x2,x3,x4,x5,x6,x7,x8,x9,x10,x11⟩:=aF Q6;obtain⟨y0,y1,y2,y3,y4,y5,y6,y7⟩:=qF Q7;have z6:=aaX Q6;have z7:=aaX Q7;have P6:=hdd Q6;have P7:=hdd Q7;clear Q6 Q7;clear Q4 Q5 hr))
  obtain⟨w6,hw6⟩:∃v,mG w5 (W.heap.size+1) 0 [(.int .i64 kd),(.float .f64 wa),(.float .f64 wb),(.float .f64 wc),(.pointer (some ⟨g,0,none⟩)),(.int .i64 (i:Int)),(.pointer (some ⟨g,0,none⟩)),(.int .i64 (j:Int)),(.pointer (some ⟨g,0,none⟩)),(.int .i64 (k:Int)),(.pointer (some ⟨g,0,none⟩)),(.int .i64 (m:Int))]=v:=⟨_,rfl⟩;obtain⟨w7,hw7⟩:∃v,mG w6 (W.heap.size+1+1) 0 [(.int .i64 kd),(.float .f64 wa),(.float .f64 wb),(.float .f64 wc),(.int .i64 (n:Int)),(.int .i64 ((n:Int)+1)),(.int .i64 ((n:Int)+2)),(.int .i64 ((n:Int)+2+1))]=v:=⟨_,rfl⟩;have g6:=jV (b:=W.heap.size+1) [(.int .i64 kd),(.float .f64 wa),(.float .f64 wb),(.float .f64 wc),(.pointer (some ⟨g,0,none⟩)),(.int .i64 (i:Int)),(.pointer (some ⟨g,0,none⟩)),(.int .i64 (j:Int)),(.pointer (some ⟨g,0,none⟩)),(.int .i64 (k:Int)),(.pointer (some ⟨g,0,none⟩)),(.int .i64 (m:Int))] 0 w5;have g7:=jV (b:=W.heap.size+1+1) [(.int .i64 kd),(.float .f64 wa),(.float .f64 wb),(.float .f64 wc),(.int .i64 (n:Int)),(.int .i64 ((n:Int)+1)),(.int .i64 ((n:Int)+2)),(.int .i64 ((n:Int)+2+1))] 0 w6
  have s6:=xD (vs:=[(.int .i64 kd),(.float .f64 wa),(.float .f64 wb),(.float .f64 wc),(.pointer (some ⟨g,0,none⟩)),(.int .i64 (i:Int)),(.pointer (some ⟨g,0,none⟩)),(.int .i64 (j:Int)),(.pointer (some ⟨g,0,none⟩)),(.int .i64 (k:Int)),(.pointer (some ⟨g,0,none⟩)),(.int .i64 (m:Int))]) P6.out rfl;rw[hw6]at g6 s6;rw[hw7]at g7;have s7:=xD (vs:=[(.int .i64 kd),(.float .f64 wa),(.float .f64 wb),(.float .f64 wc),(.int .i64 (n:Int)),(.int .i64 ((n:Int)+1)),(.int .i64 ((n:Int)+2)),(.int .i64 ((n:Int)+2+1))]) ((g6.block (W.heap.size+1+1) (aG P7.out) (by simp)).trans P7.out) rfl;rw[hw7]at s7;have s6':=(g7.block (W.heap.size+1) (aG s6) (by simp)).trans s6;unfold mG at hw6 hw7;simp only[mG]at hw6 hw7;clear x0 x1 x2 x3 x4 x5 x6 x7 x8 x9 x10 x11 y0 y1 y2 y3 y4 y5 y6 y7 z6 z7 d0 d1 d2 d3 e0 e1 e2 e3;simp only[hw6,hw7];have RF:=hdd ((((R4.out.perm akW.symm).write g6 s6).perm (List.Perm.swap _ _ _)).write g7 s7);have HF:Hid (Run s g (N+4) ((.leaf P0,i)::(.leaf p1,j)::(.leaf q0,k)::(.leaf Q1,m)::K) ((bb,O2)::(ln2++l)) w7):=hdd ((RF.out.sub (fun p hp=>bjV _ (bjV _ (bjV _ (bjV _ hp)))) (by
   have h:=RF.out.nodup;rw[List.map_cons]at h;have h:=(bjZ.1 (bjZ.1 (bjZ.1 (bjZ.1 h).2).2).2).2;exact h)).few fun p hp=>by
    simp only[bj0]at hp|-;rcases hp with rfl|rfl|rfl|rfl|h
    . simp
    . simp
    . simp
    . simp
    . simp[h])
  obtain⟨x0,x1,x2,x3,x4,x5,x6,x7,x8,x9,x10,x11⟩:=aF s6';obtain⟨y0,y1,y2,y3,y4,y5,y6,y7⟩:=qF s7;clear g6 g7 s6 s6' s7 RF hw6 hw7;go_wp2;refine bodyPost_ret (v:=.tuple #[.agg #[_,_,_,_,_,_,_,_,_,_,_,_],.agg #[_,_,_,_,_,_,_,_]]) (by simp[results,Tryz.results9,go_sem,x0,x1,x2,x3,x4,x5,x6,x7,x8,x9,x10,x11,y0,y1,y2,y3,y4,y5,y6,y7];first|exact⟨⟨rfl,rfl,rfl,rfl,rfl,rfl,rfl,rfl,rfl,rfl,rfl,rfl⟩,⟨rfl,rfl,rfl,rfl,rfl,rfl,rfl,rfl⟩⟩|rfl) rfl ?_;exact⟨i,j,k,m,O2,ln2,rfl,B4.out,HF.out⟩
  )
theorem af6(k:Int):∃J:Nat,J<6/\(wrap64 (k.tmod 6+6)).tmod 6=(J:Int):=by
 have h1:=Int.lt_tmod_of_pos k (show(0:Int)<6 by decide);have h2:=Int.tmod_lt_of_pos k (show(0:Int)<6 by decide);refine⟨((k.tmod 6+6)%6).toNat,by omega,?_⟩;rw[show wrap64 (k.tmod 6+6)=k.tmod 6+6 by unfold wrap64;omega,Int.tmod_eq_emod_of_nonneg (by omega)];omega
theorem af7(p0 q1:Nat):aoK 0 p0 q1 p0 q1:=⟨0,by decide,Or.inr (Or.inr ⟨by decide,by decide,rfl,rfl⟩)⟩
theorem aqM(a2 a3:Int):∃u V:Int,a3.tmod 4=V/\u.natAbs<=3/\V.natAbs<=3/\(u≠0\/V≠0)/\((a2.tmod 4==0)=true/\(V==0)=true/\u=1\/(a2.tmod 4==0&&V==0)=false/\u=a2.tmod 4):=by
 have b2:(a2.tmod 4).natAbs<=3:=tmb a2 4 (by decide);have b3:(a3.tmod 4).natAbs<=3:=tmb a3 4 (by decide);by_cases h:a2.tmod 4=0/\a3.tmod 4=0
 . exact⟨1,_,rfl,by decide,b3,Or.inl (by decide),Or.inl ⟨by rw[h.1];rfl,by rw[h.2];rfl,rfl⟩⟩
 . exact⟨_,_,rfl,b2,b3,by omega,Or.inr ⟨by rw[Bool.and_eq_false_iff,beq_eq_false_iff_ne,beq_eq_false_iff_ne];omega,rfl⟩⟩
theorem qP{a0 a1 a2 a3 s0 s1 s2 s3:Int}(hT:Tab w)(htb:1<w.heap.size):
 Calls Tryz.prog 3 #[.int .i64 a0,.int .i64 a1,.int .i64 a2,.int .i64 a3,.agg #[.int .i64 s0,.int .i64 s1,.int .i64 s2,.int .i64 s3]] w (RetV w (.bool true)):=by
 obtain⟨T0,h0,e0⟩:=af6 s0;obtain⟨T1,h1,e1⟩:=af6 s1;obtain⟨T2,h2,e2⟩:=af6 s2;obtain⟨T3,h3,e3⟩:=af6 s3;obtain⟨u,V,hV,bu,bv,huv,hu⟩:=aqM a2 a3;obtain⟨wcc,hC,hW⟩:=aiE a0 a1 bu bv;obtain⟨p0,p1,q0,q1,hm1,wp,wq⟩:=hW h0 h1;obtain⟨fx0,fx1,fy0,fy1,hm2,wx,wy⟩:=hW h2 h3;have M1:=hdd fun(g bb:Nat) (l:List (Nat×Obj)) (W:World) (O:Obj) (hR:Run (bs w) g 0 [] ((bb,O)::([]++l)) W) (hB:BrdB bb 0 [] O)=>adB (n:=0) hR hB (by omega) (by omega) hm1 (af7 p0 q1) wp.1.1 wp.2.1.1 wq.1.1 wq.2.1.1 rfl;have M2:=hdd fun(g bb:Nat) (K:List (Ex×Nat)) (l ln:List (Nat×Obj)) (W:World) (O:Obj) (hR:Run (bs w) g 4 K ((bb,O)::(ln++l)) W) (hB:BrdB bb 4 ln O)=>adB (n:=4) hR hB (by omega) (by omega) hm2 (af7 fx0 fy1) wx.1.1 wx.2.1.1 wy.1.1 wy.2.1.1 rfl;have CR:=hdd fun(n1:T0≠T1) (n2:T2≠T3) (g i j k m i' j' k' m':Nat)=>al5 (g:=g) (K0:=[(.leaf fx0,i'),(.leaf fx1,j'),(.leaf fy0,k'),(.leaf fy1,m'),(.leaf p0,i),(.leaf p1,j),(.leaf q0,k),(.leaf q1,m)]) (a:=⟨i,j,p0,p1,T0⟩) (b:=⟨k,m,q0,q1,T1⟩) (c:=⟨i',j',fx0,fx1,T2⟩) (d:=⟨k',m',fy0,fy1,T3⟩) (hC.crv huv) ⟨m4,m5,wp⟩ ⟨m6,m7,wq⟩ ⟨m0,m1,wx⟩ ⟨m2,m3,wy⟩ h0 h1 h2 h3 n1 n2 rfl rfl rfl rfl huv
 have HT:=hdd (And.intro hT htb);have HU:=hdd hu;have HV:=hdd hV;have BU:=hdd (And.intro bu bv);have HI:=hdd (And.intro h0 (And.intro h1 (And.intro h2 h3)));obtain⟨w2,hw2',hb2,hs2,b10⟩:=pro1 w (.cells #[.int .i64 s0,.int .i64 s1,.int .i64 s2,.int .i64 s3] 22);have HA:=hdd (an2 (hT.below hb2) (Nat.lt_of_lt_of_le htb hb2.size));have HB2:=hdd hb2;have B10:=hdd b10;clear hT htb hb2 hs2 b10 hC hW hm1 hm2 wp wq wx wy huv bu bv hu hV h0 h1 h2 h3;have E0:=hdd e0;have E1:=hdd e1;have E2:=hdd e2;have E3:=hdd e3;clear e0 e1 e2 e3;have hst:=aN;go_enter Tryz.func3,Tryz.ntmps3
 go_wp2_with fail
 refine HA.out.mono ?_;rintro e w3⟨rfl,hb3⟩;have HN:=hdd (afD (w0:=w) (l:=[(w.heap.size,(.cells #[.int .i64 s0,.int .i64 s1,.int .i64 s2,.int .i64 s3] 22))]) (aB HB2.out hb3) (fun q hp=>by
  obtain rfl:=List.mem_singleton.1 hp;exact⟨hbl B10.out hb3,Nat.le_refl _⟩) (by simp) HT.out.1 HT.out.2)
 clear hb3 HA HB2 B10 HT hw2';go_wp2_with fail
 refine HN.out.mono ?_;rintro e W1⟨g,rfl,hR⟩;dsimp only;clear HN;have R1:=hdd hR;clear hR
 go_upto_region 6 with fail
 go_cut [2,3] (fun uu vv wr=>uu=.int .i64 (a2.tmod 4)/\vv=.int .i64 V/\wr=W1)
 case first=>
  go_wp2
  go_meet
  case rel=>exact⟨rfl,by rw[HV.out],rfl⟩
 case rest=>
 obtain⟨rfl,rfl,ew⟩:=hcut;rw[ew];rename_i K0 hK0;refine hK0 _ _ (wp_seq_k fun K1 hK1=> ?_)
 go_cut [2] (fun uu wr=>uu=.int .i64 u/\wr=W1)
 case first=>
  rcases HU.out with ⟨t1,t2,t3⟩|⟨t1,t3⟩
  . go_wp2
    go_meet
    case rel=>exact⟨by rw[t3],rfl⟩
  . cases v1:(a2.tmod 4==0)
    . go_wp2
      go_meet
      case rel=>exact⟨by rw[t3],rfl⟩
    . rw[v1,Bool.true_and]at t1
      go_wp2
      go_meet
      case rel=>exact⟨by rw[t3],rfl⟩
 case rest=>
 obtain⟨rfl,ew2⟩:=hcut;rw[ew2];obtain⟨w4,hw4,-,hR⟩:=R1.out.box1 (.cells #[.slice none 0 0,.int .i64 0] 29);obtain⟨w5,hw5,-,hR⟩:=hR.box1 (.cells #[.int .i64 0,.int .i64 0,.int .i64 0,.int .i64 0] 22);obtain⟨y0,y1,y2,y3⟩:=aD (hR.at m2);obtain⟨z0,z1,z2,z3⟩:=aD (hR.at m0);have f0:=frzI (hR.at m0);have hne:w4.heap.size≠w.heap.size:=by
  have:=hR.nodup;simp at this;omega
 have hne':=Ne.symm hne;have R5:=hdd hR;clear hR R1;generalize hbt:w4.heap.size=bt at*;go_wp2_with fail
 refine wp_loop_rounds 5 ?_;rw[rounds_succ];go_wp2_with fail
 simp only[E0.out];rw[rounds_succ];go_wp2_with fail
 simp only[E1.out];rw[rounds_succ];go_wp2_with fail
 simp only[E2.out];rw[rounds_succ];go_wp2_with fail
 simp only[E3.out];rw[rounds_succ]
 go_upto_region 15 with fail
 obtain⟨w6,hw6,hR⟩:=R5.out.put4 (L1:=[]) (.int .i64 (T0:Int)) (.int .i64 (T1:Int)) (.int .i64 (T2:Int)) (.int .i64 (T3:Int));simp only[hw6];clear hw6 R5 E0 E1 E2 E3 HU HV hw4 hw5 f0 hne hne' y0 y1 y2 y3 z0 z1 z2 z3;have bq1:=nbeq T0 T1;have bq2:=nbeq T2 T3;replace hR:Run (bs w) g 0 [] ((W1.heap.size,(.cells #[.slice none 0 0,.int .i64 0] 29))::([]++[(bt,(.cells #[.int .i64 (T0:Int),.int .i64 (T1:Int),.int .i64 (T2:Int),.int .i64 (T3:Int)] 22))])) w6:=hR.sub (fun q hp=>by
  simp only[bj0,List.nil_append,bj1,or_false]at hp|-;rcases hp with rfl|rfl
  . exact Or.inr (Or.inl rfl)
  . exact Or.inl rfl) (by have:=hR.nodup;simp at this|-;omega)
 obtain⟨y0,y1,y2,y3⟩:=aD (hR.at m1)
 cases q1:(T0==T1)
 case' true=>
  rw[q1]at bq1;have HB:=hdd hR.below;clear hR q1;go_wp2;go_ret;exact⟨rfl,HB.out⟩
 cases q2:(T2==T3)
 case' false.true=>
  rw[q1]at bq1;rw[q2]at bq2;have HB:=hdd hR.below;clear hR q1 q2;go_wp2;go_ret;exact⟨rfl,HB.out⟩
 rw[q1]at bq1;rw[q2]at bq2;have HC:=hdd (M1.out _ _ _ _ _ hR BrdB.nil);have N1:=hdd (And.intro (beq_eq_false_iff_ne.1 q1) (beq_eq_false_iff_ne.1 q2));clear hR q1 q2 M1;go_wp2_with fail
 refine HC.out.mono ?_;rintro e w7⟨i,j,k,m,O1,ln1,rfl,hB1,hR⟩;obtain⟨w8,hw8,-,-,hR⟩:=hR.box2 (eD g 1 (fl V) (fl u ^^^ 2^63) wcc i j k m) (.cells #[.int .i64 1,.float .f64 (fl V),.float .f64 (fl u ^^^ 2^63),.float .f64 wcc,.int .i64 0,.int .i64 1,.int .i64 2,.int .i64 3] 42);replace hR:=(hR.subl (List.sublist_cons_self _ _)).perm (al6 _ _ _ _);obtain⟨y0,y1,y2,y3⟩:=aD (hR.at (bjV _ (bjW _ m0)));have HC:=hdd (M2.out _ _ _ _ _ _ _ hR hB1);clear hR hB1 M2 bq1 bq2;go_wp2_with fail
 refine HC.out.mono ?_;rintro e w9⟨i',j',k',m',O2,ln2,rfl,hB2,hR⟩;obtain⟨w10,hw10,b1,-,hR⟩:=hR.box2 (eD g 1 (fl V) (fl u ^^^ 2^63) wcc i' j' k' m') (.cells #[.int .i64 1,.float .f64 (fl V),.float .f64 (fl u ^^^ 2^63),.float .f64 wcc,.int .i64 4,.int .i64 5,.int .i64 6,.int .i64 7] 42);obtain⟨x0,x1,x2,x3,x4,x5,x6,x7,x8,x9,x10,x11⟩:=aF (hR.at (bjV _ (bjV _ (bjV _ (bjW _ m1)))));obtain⟨z0,z1,z2,z3,z4,z5,z6,z7,z8,z9,z10,z11⟩:=aF b1;have HC:=hdd (CR.out N1.out.1 N1.out.2 g i j k m i' j' k' m' _ _ _ _ w10 hR (by omega) (fun p hp=>hp));clear hR hB2 b1 CR;go_wp2_with fail
 refine HC.out.mono ?_;rintro e w11⟨K1,l1,⟨v,ps,hq,rfl,ho⟩,hR⟩;obtain⟨pp,cp,rfl⟩:=ho.slice;replace hR:Run (bs w) g 208 (K1++[(.leaf fx0,i'),(.leaf fx1,j'),(.leaf fy0,k'),(.leaf fy1,m'),(.leaf p0,i),(.leaf p1,j),(.leaf q0,k),(.leaf q1,m)]) (l1++[(bt,(.cells #[.int .i64 (T0:Int),.int .i64 (T1:Int),.int .i64 (T2:Int),.int .i64 (T3:Int)] 22))]) w11:=hR.subl (List.Sublist.append (List.Sublist.refl l1) (List.singleton_sublist.2 (bjV _ (bjV _ (bjV _ (bjW _ m0))))));have R11:=hdd hR;have HO:=hdd ho;have HQ:=hdd hq;clear hR ho hq HC x0 x1 x2 x3 x4 x5 x6 x7 x8 x9 x10 x11 z0 z1 z2 z3 z4 z5 z6 z7 z8 z9 z10 z11
 go_upto_region 20 with fail
 obtain⟨y0,y1,y2,y3⟩:=aD (R11.out.drew.at (bjW l1 m0));obtain⟨y0,y1,y2,y3⟩:=aD (R11.out.at (bjW l1 m0))
 go_quiet (fail)
 have R12:=hdd (R11.out.step (below_drewN w11 nq));generalize w11.drewN nq=w12 at*;clear R11 y0 y1 y2 y3;obtain⟨lo,hlo⟩:∃z,loT T0 T1 T2 T3=z:=⟨_,rfl⟩;obtain⟨hi,hhi⟩:∃z,hiT T0 T1 T2 T3=z:=⟨_,rfl⟩;have hq:=HQ.out;rw[hlo,hhi]at hq;rw[hlo,hhi];simp only[loT,hiT]at hlo hhi;rw[hlo,hhi];have hlb:0<=lo/\lo<=5:=by have:=HI.out;omega
 clear hlo hhi HQ;rcases Decidable.em (lo=hi)with he|hne
 case' inr=>
  obtain rfl:=hq.1 hne;have e1:(lo==hi)=false:=beq_eq_false_iff_ne.2 hne;have HB:=hdd R12.out.below;clear hq R12 HO hne hlb;go_wp2;go_ret;exact⟨rfl,HB.out⟩
 subst he;obtain⟨mk,rfl,hmt,hmo⟩:=hq.2 rfl;have e1:(lo==lo)=true:=beq_self_eq_true lo;have e2:decide (lo<lo)=false:=decide_eq_false (Int.lt_irrefl lo);rw[e2];have HM:=hdd hmo;have HMT:=hdd hmt;have HLB:=hdd hlb;clear hq hmt hmo hlb
 go_upto_region 28 with fail
 have bu:u.natAbs<=3:=BU.out.1;have bv:V.natAbs<=3:=BU.out.2;have bl:lo.natAbs<=5:=by have:=HLB.out;omega
 have bx:(a0.tmod 7).natAbs<=6:=tmb a0 7 (by decide);have b_y:(a1.tmod 7).natAbs<=6:=tmb a1 7 (by decide);have g1:=nadd bx (nab bl bu);have g2:=nadd b_y (nab bl bv);have i1:=flw' g1;have i2:=flw' g2;have w1e:wrap64 (lo*u)=lo*u:=wrap_small (bjY (nab bl bu) (by decide));have w2e:wrap64 (lo*V)=lo*V:=wrap_small (bjY (nab bl bv) (by decide));have w3e:wrap64 (a0.tmod 7+lo*u)=a0.tmod 7+lo*u:=wrap_small (bjY g1 (by decide));have w4e:wrap64 (a1.tmod 7+lo*V)=a1.tmod 7+lo*V:=wrap_small (bjY g2 (by decide));have hcx:=fun w=>ac3 (a0.tmod 7+lo*u) w;have hcy:=fun w=>ac3 (a1.tmod 7+lo*V) w;have HC:=hdd (R12.out.spot (by omega) i1.1.1 i2.1.1 i1.1.2 i2.1.2);have CM:=hdd (aoI HM.out.2.2.1 HM.out.2.2.2.1 i1 i2 HM.out.2.2.2.2.1 HM.out.2.2.2.2.2 (bjY g1 (by decide)) (bjY g2 (by decide)));clear bu bv bl g1 g2 i1 i2 R12 bx b_y;go_wp2_with fail
 refine HC.out.mono ?_;rintro e w13⟨n,n',rfl,hR⟩;obtain⟨w14,hw14,-,hR⟩:=hR.box1 (dN g n n');replace hR:=hR.perm List.perm_middle
 go_upto_region 29 with fail
 clear hw14;generalize w13.heap.size=bp at hR|-;have cm:=CM.out;rw[HMT.out,ah6]at cm;obtain⟨rr,rfl,-⟩:=HO.out.spot (q:=(mk.n0,mk.n1)) (j:=0) hR rfl;have RD:=hdd hR.drew;have HCM:=hdd (RD.out.same (by omega) (bjV _ (bjV _ (bjW _ HM.out.1))) (bjV _ (bjV _ (bjW _ HM.out.2.1))) m0 m1 cm);clear hR cm CM;obtain⟨_,e5,d0,d1,d2,d3⟩:=HO.out.spot (q:=(mk.n0,mk.n1)) (j:=0) RD.out rfl;cases e5
 simp only[bj2,bj3]at d0 d1 d2 d3;obtain⟨d4,d5,d6,d7⟩:=aD (RD.out.at (bjW l1 m0))
 go_region_held3 (fun w'=>w'.cell? ⟨rr,0,none⟩=some (.pointer (some ⟨g,0,none⟩))/\w'.cell? ⟨rr,1,none⟩=some (.int .i64 (mk.n0:Int))/\w'.cell? ⟨rr,2,none⟩=some (.pointer (some ⟨g,0,none⟩))/\w'.cell? ⟨rr,3,none⟩=some (.int .i64 (mk.n1:Int))/\w'.cell? ⟨bp,0,none⟩=some (.pointer (some ⟨g,0,none⟩))/\w'.cell? ⟨bp,1,none⟩=some (.int .i64 (n:Int))/\w'.cell? ⟨bp,2,none⟩=some (.pointer (some ⟨g,0,none⟩))/\w'.cell? ⟨bp,3,none⟩=some (.int .i64 (n':Int))) (go_keep)
  (first
  |(go_at_call 12
    with_reducible refine HCM.out.mono ?_
    rintro e w15⟨rfl,hRm⟩;have R15:=hdd hRm;obtain⟨_,e5,d0,d1,d2,d3⟩:=HO.out.spot (q:=(mk.n0,mk.n1)) (j:=0) R15.out rfl;cases e5
    simp only[bj2,bj3]at d0 d1 d2 d3;obtain⟨d4,d5,d6,d7⟩:=aD (R15.out.at (bjW l1 m0));clear hRm))
 have HB:=hdd R15.out.below;clear RD HCM R15 HO HM;go_wp2;go_ret;exact⟨rfl,HB.out⟩
end
end Go.Proofs.YtjdgaogkioabeaaGreatDoor
