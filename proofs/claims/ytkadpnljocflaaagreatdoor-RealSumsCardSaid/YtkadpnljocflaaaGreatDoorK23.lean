/- A part of the proof: contracts of functions and plain laws (WalkE, WalkF, WalkG, NearB, NearC, NrC). -/
import Derived.Test.YtkadpnljocflaaaGreatDoorK22
import Derived.Test.YtkadpnljocflaaaGreatDoorK15
import Derived.Test.YtkadpnljocflaaaGreatDoorK21
set_option linter.unusedVariables false
set_option linter.unusedSimpArgs false
set_option linter.unnecessarySimpa false
set_option maxHeartbeats 25600000
set_option maxRecDepth 100000
namespace Go.Proofs.YtkadpnljocflaaaGreatDoor
open Go.RowKit Go.Maps
open List renaming getElem?_eq_some_iff->axI,mem_of_getElem?->axJ,getElem?_eq_getElem->axL,take_add_one->axM,count_append->axN,mem_append->axO,count_eq_zero->axP,pairwise_iff_getElem->axQ,getElem?_take_of_lt->axR,take_length->axS,length_take->axT,getElem?_of_mem->axV,count_le_length->axW,mem_cons->axX,count->ax0
open Nat renaming lt_or_ge->axU,le_trans->axY,zero_le->axZ,le_refl->ax1
open Option.some renaming inj->axK
variable{P:Int}{ex:List Int}{l:List Nat}{ns:List Nd}{b c g i k o x:Nat}{bl:Nat->Bl}{cnt:Nat->Nat}{bal:Nat->Option Bl}{S p:Nat->Prop}{n:Nd}{v:Value}{m m' mB mB' mL:Value->Option Value}{w w':World}
def DV(ns:List Nd)(val:Nat->Re->Prop):Prop:=∀(i:Nat) n,ns[i]? =some n->nX n (val n.a.toNat) (val n.b.toNat) (val i)
def gB(ns:List Nd):Prop:=∀(i:Nat) n,ns[i]? =some n->n.kind=0->n.a=0/\n.b=0
def gD(ns:List Nd):Prop:=∀(i:Nat) n,ns[i]? =some n->n.kind=5->n.b=0
theorem lG{a:Nat}(hs:l.Pairwise (· < ·))(hx:l[k]? =some x)(ha:a∈l)(hlt:a<x):a∈l.take k:=by
 obtain⟨j,hj⟩:=axV ha;obtain⟨j1,j2⟩:=axI.1 hj;obtain⟨k1,k2⟩:=axI.1 hx;have hjk:j<k:=by
  rcases axU j k with h|h
  . exact h
  . rcases Nat.lt_or_eq_of_le h with h|h
    . have:=(axQ.1 hs) k j k1 j1 h;omega
    . subst h;omega
 exact axJ (by rw[axR hjk];exact hj)
theorem IntsP.fr (h:IntsP p w v l)(hf:Fr S w w')(hn:∀b,p b->¬S b):IntsP p w' v l:=by
 obtain⟨b,c,e,h1,h2,h3,h4,h5⟩:=h;exact⟨b,c,e,h1,h2,h3,Nat.lt_of_lt_of_le h4 hf.size,fun k x hx=>(World.cell?_of_block (hf.block b h4 (hn b h3))).trans (h5 k x hx)⟩
theorem IntsP.cell {n:Nat}(h:IntsP p w (.slice (some ⟨b,0,none⟩) n c) l)(hx:l[k]? =some x):w.cell? ⟨b,k,none⟩=some (.int .i64 (x:Int)):=by
 obtain⟨b',c',e,h1,h2,h3,h4,h5⟩:=h;injection e with e;cases e
 exact h5 k x hx
theorem lH:Tryz.prog.underlying 164=some (.map 3 136):=by kernel_rfl
theorem oM(w:World):(zeroValue 136).run Tryz.prog w=.ok (.agg #[.float .f64 0,.float .f64 0]) w:=by kernel_rfl
def MG(val:Nat->Re->Prop)(m:Value->Option Value)(done:List Nat):Prop:=
 (∀i∈done,∃lo hi,m (.int .i64 ((i:Nat):Int))=some (gv lo hi)/\GapS lo hi (val i))/\∀i:Nat,i∉done->m (.int .i64 (i:Int))=none
theorem agA:GapS 0 0 (fun _=>False):=⟨by decide,by decide,fun _ _ h=>h.elim⟩
theorem MG.get {val:Nat->Re->Prop}{done:List Nat}(h:MG val m done)(i:Nat):∃lo hi X,(m (.int .i64 (i:Int))).getD (.agg #[.float .f64 0,.float .f64 0])=.agg #[.float .f64 lo,.float .f64 hi]/\GapS lo hi X/\(i∈done->X=val i):=by
 by_cases hi:i∈done
 . obtain⟨lo,hh,e,g⟩:=h.1 i hi
   exact⟨lo,hh,_,by rw[e];rfl,g,fun _=>rfl⟩
 . exact⟨0,0,_,by rw[h.2 i hi];rfl,agA,fun h'=>absurd h' hi⟩
theorem MG.put {val:Nat->Re->Prop}{done:List Nat}{lo hi:Nat}(h:MG val m done)(hg:GapS lo hi (val i))(hu:Upd m (.int .i64 (i:Int)) (some (.agg #[.float .f64 lo,.float .f64 hi])) m'):MG val m' (done++[i]):=by
 refine⟨fun j hj=> ?_,fun j hj=> ?_⟩
 . by_cases hji:j=i
   . subst hji;exact⟨lo,hi,hu.1,hg⟩
   . rw[hu.2 _ (fun e=>hji (by injection e with _ e;omega))]
     rcases axO.1 hj with h1|h1
     . exact h.1 j h1
     . simp at h1;exact absurd h1 hji
 . have h1:j≠i:=fun e=>hj (by rw[e];simp)
   rw[hu.2 _ (fun e=>h1 (by injection e with _ e;omega))];exact h.2 j (fun h'=>hj (axO.2 (Or.inl h')))
theorem y9(ok:OkNs ns)(hs:l.Pairwise (· < ·))(hc:Cl ns l l)(hx:l[k]? =some x)(hn:ns[x]? =some n):
 (n.kind≠0->n.a.toNat∈l.take k/\(0<=n.a/\n.a<x))/\(n.kind≠0->n.kind≠5->n.b.toNat∈l.take k/\(0<=n.b/\n.b<x)):=by
 have hxl:=axJ hx;have one:∀o∈opsN n,o.toNat∈l.take k/\0<=o/\o<x:=by
  intro o ho;have ha:=(ok x n hn).2 o ho;obtain⟨y,hy,e⟩:=hc x hxl n hn o ho;have e1:o.toNat=y:=by omega
  rw[e1];exact⟨lG hs hx hy (by omega),ha⟩
 refine⟨fun h0=>one n.a ?_,fun h0 h5=>one n.b ?_⟩
 . unfold opsN;rw[if_neg h0];split<;>simp
 . unfold opsN;rw[if_neg h0,if_neg h5];simp
theorem zA{a b:Int}(h:a=0/\b=0):(0<=a/\a<=1000000)/\(0<=b/\b<=1000000):=by omega
def agB(w:World)(ns:List Nd)(val:Nat->Re->Prop)(root:Nat)(e:Ending)(w':World):Prop:=
 Below w.heap.size w w'/\∃mb m l,e=.returned (.map (some mb))/\w.heap.size<=mb/\MapP Tryz.prog 3 w' mb m/\IsB ns root l/\MG val m l
theorem setB{T:TypeId}{a b:Value}(h:w.heap[g]? =some (.cells #[a,b] T (0,0)))(d:Value):
 (w.setCell ⟨g,1,none⟩ d).heap[g]? =some (.cells #[a,d] T (0,0)):=by
 have hg:g<w.heap.size:=(Array.getElem?_eq_some_iff.1 h).1;have h':w.heap[g]=.cells #[a,b] T (0,0):=(Array.getElem?_eq_some_iff.1 h).2;simp[World.setCell,hg,Array.getElem_modify,h']
theorem iO(h:i<=1000000):keyOf Tryz.prog 3 (.int .i64 (i:Int))=some (.int .i64 (i:Int)):=jJ (by omega)
theorem xB{root:Nat}{val:Nat->Re->Prop}(hd:DagP w g ns)(ok:OkNs ns)(hv:DV ns val)(hlf:gB ns)(hro:gD ns)(hr:root<ns.length):
 Calls Tryz.prog 128 #[.pointer (some ⟨g,0,none⟩),.int .i64 (root:Int)] w (agB w ns val root):=by
 obtain⟨w1,hw1,hb1,hs1,b1⟩:=pro1 w (.map #[] 0);obtain⟨w2,hw2,hb2,hs2,b2⟩:=pro1 w1 (.cells #[.int .i64 (root:Int)] 3);have HDW:=hdd hd;have HD2:=hdd ((hd.below hb1).below hb2);have HBE:=hdd (iT HD2.out ok hr b2);rw[hs1]at HBE;have HM2:=hdd (MapP.made (P:=Tryz.prog) (k:=3) (es:=#[]) (hbl b1 hb2));have HB2:=hdd (aA hb1 hb2);have HSZ2:Hid (w2.heap.size=w.heap.size+2):=hdd (by rw[hs2,hs1]);have HOK:=hdd ok;have HV:=hdd hv;have HLN:=hdd hd.len;have HLEAF:=hdd hlf;have HROOT:=hdd hro;clear hd ok hv hr hlf hro hb1 hb2 b1 b2 hs2;have hmm:=@run_makeMap Tryz.prog;go_enter Tryz.func128,Tryz.ntmps128
 go_wp2_with fail
 refine HBE.out.mono ?_;rintro e w3⟨hb3,v3,l,rfl,hl,hI⟩;have HI:=hdd hI;obtain⟨hsrt,hrt,hlt,hcl,-,-⟩:=hI;obtain⟨bl,cl,rfl,hlc,hcm,-⟩:=id hl;have HL:=hdd hl;have HSRT:=hdd hsrt;have HRT:=hdd hrt;have HLT:=hdd hlt;have HCL:=hdd hcl;have HB3:=hdd (HB2.out.trans (hb3.mono HB2.out.size));have HD3:=hdd (HD2.out.below hb3);have HM3:=hdd (HM2.out.below hb3 HM2.out.lt);have HLL:Hid (l.length<=20000):=hdd (by
  have:=pK ns.length l (hsrt.imp fun{a b} h=>by omega) hlt;have:=HLN.out;omega)
 clear hb3 hl hsrt hrt hlt hcl HBE hcm hlc hw1 hw2;go_wp2_with fail
 go_loopw [18] (fun i wr=>∃k:Nat,k<=l.length/\i=.int .i64 (k:Int)/\Hid (Fr (fun b=>b=w.heap.size) w3 wr)/\∃m,Hid (MapP Tryz.prog 3 wr w.heap.size m)/\Hid (MG val m (l.take k))) (fun i _=>((l.length:Int)-intOf i).toNat)
 case atStart=>exact⟨0,axZ _,rfl,hdd (Fr.of_below (Below.refl _ _)),_,HM3,hdd ⟨by simp,by simp⟩⟩
 case round=>
  obtain⟨k,hk,rfl,HF,m,HM,HMG⟩:=hrel;rcases axU k l.length with hlt|hge
  . obtain⟨x,hx⟩:∃x,l[k]? =some x:=⟨_,axL hlt⟩
    have hxl:x<ns.length:=HLT.out x (axJ hx);obtain⟨n,hn⟩:∃n,ns[x]? =some n:=⟨_,axL hxl⟩;have HBR:Hid (Below w.heap.size w wr):=hdd (HB3.out.trans (HF.out.below HB3.out.size (fun b hb=>by omega)));have HDR:=hdd (HDW.out.below HBR.out);have cx:=(HL.out.fr HF.out (fun b hb=>by have:=HSZ2.out;omega)).cell hx;have HN:=hdd (eO HDR.out hn);have hst:=aT;have hkI:(k:Int)<(l.length:Int):=by omega
    have hk0:(0:Int)<=(k:Int):=by omega
    have hlI:(l.length:Int)<=20000:=by have:=HLL.out;omega
    have HX:=hdd hx;have HNN:=hdd hn;have HXL:=hdd hxl;have HKL:=hdd hlt;obtain⟨hop,hop2⟩:=y9 HOK.out HSRT.out HCL.out hx hn;have hval:=HV.out x n hn;have hvl:=HDR.out.val hn;have hab:(0<=n.a/\n.a<=1000000)/\(0<=n.b/\n.b<=1000000):=by
     by_cases h0:n.kind=0
     . have:=zA (HLEAF.out x n hn h0);omega
     . have h3:=(hop h0).2
       by_cases h5:n.kind=5
       . have:=HROOT.out x n hn h5
         have:=HLN.out;omega
       . have h4:=(hop2 h0 h5).2
         have:=HLN.out;omega
    obtain⟨la,ha,Xa,ea,Ga,va⟩:=HMG.out.get n.a.toNat;obtain⟨lb,hb,Xb,eb,Gb,vb⟩:=HMG.out.get n.b.toNat;rw[show((n.a.toNat:Nat):Int)=n.a from by omega]at ea;rw[show((n.b.toNat:Nat):Int)=n.b from by omega]at eb;have HNV:Hid (nX n Xa Xb (val x)):=hdd (by
     rcases hval with h|h|h|h|h|h
     . exact Or.inl h
     all_goals
      have m1:=(hop (by omega)).1;rw[va m1]
     . have m2:=(hop2 (by omega) (by omega)).1
       rw[vb m2];exact Or.inr (Or.inl h)
     . have m2:=(hop2 (by omega) (by omega)).1
       rw[vb m2];exact Or.inr (Or.inr (Or.inl h))
     . have m2:=(hop2 (by omega) (by omega)).1
       rw[vb m2];exact Or.inr (Or.inr (Or.inr (Or.inl h)))
     . have m2:=(hop2 (by omega) (by omega)).1
       rw[vb m2];exact Or.inr (Or.inr (Or.inr (Or.inr (Or.inl h))))
     . exact Or.inr (Or.inr (Or.inr (Or.inr (Or.inr h)))))
    have HKA:=hdd (jJ (i:=n.a) (by omega));have HKB:=hdd (jJ (i:=n.b) (by omega));have HKX:=hdd (iO (i:=x) (by have:=HLN.out;omega));have HCO:Hid (∀w',Calls Tryz.prog 173 #[.agg #[.int .i64 n.kind,.float .f64 n.val,.int .i64 n.a,.int .i64 n.b],.agg #[.float .f64 la,.float .f64 ha],.agg #[.float .f64 lb,.float .f64 hb]] w' (RetG w' (val x))):=hdd fun w'=>wO (n:=n) hvl Ga Gb HNV.out;have EA:=hdd ea;have EB:=hdd eb;clear hop hop2 hval hvl hab va vb Ga Gb ea eb hx hn hxl hlt HDR;go_wp2_with fail
    refine HN.out.mono ?_;rintro e w5⟨rfl,hb5⟩;obtain⟨w6,hw6,z0,z1,z2,z3,y0,y1,y2,y3,w7,hw7,hb7,hs7⟩:=new4 w5 87 (.int .i64 0) (.float .f64 0) (.int .i64 0) (.int .i64 0) (.int .i64 n.kind) (.float .f64 n.val) (.int .i64 n.a) (.int .i64 n.b);obtain⟨x0,x1,x2,x3⟩:=bM hs7;have HM7:=hdd (HM.out.below (aA hb5 hb7) HM.out.lt);have HB57:=hdd (aA hb5 hb7);clear hb5 hb7 hs7 cx;have M1:True:=trivial;go_wp2_with (first
     |(at_lookup
       clear M1;refine aU _ rfl _ _ _ rfl _ _ aK lH (oM _) _ m rfl HM7.out (.int .i64 n.a) _ rfl HKA.out (.agg #[.float .f64 la,.float .f64 ha]) EA.out ?_)
     |(at_lookup
       refine aU _ rfl _ _ _ rfl _ _ aK lH (oM _) _ m rfl HM7.out (.int .i64 n.b) _ rfl HKB.out (.agg #[.float .f64 lb,.float .f64 hb]) EB.out ?_))
    refine(HCO.out _).mono ?_;rintro e w8⟨hb8,lo,hi,rfl,hG⟩;unfold gv;obtain⟨m',hu⟩:=jQ m (.int .i64 (x:Int)) (some (.agg #[.float .f64 lo,.float .f64 hi]));have HU:=hdd hu;have HG:=hdd hG;have HM8:=hdd (HM7.out.below hb8 HM7.out.lt);have HB8:=hdd (aA HB57.out hb8);clear hu hG hb8 z0 z1 z2 z3 y0 y1 y2 y3 x0 x1 x2 x3 hw6 hw7;go_wp2_with (first
     |(at_mapUpdate
       refine dP _ rfl _ _ _ _ rfl _ _ aK lH _ m m' rfl HM8.out (.int .i64 (x:Int)) (.agg #[.float .f64 lo,.float .f64 hi]) _ rfl rfl HKX.out HU.out ?_;intro w9 HM9 hgr hsz;have HF9:=hdd ((HF.out.trans (Fr.of_below HB8.out)).trans (Fr.of_grown hgr (fun i e=>(axK e).symm)));clear hgr hsz))
    go_roundw
    case rel=>
     refine⟨k+1,by have:=HKL.out;omega,by go_num,HF9,m',HM9,hdd ?_⟩;rw[axM,HX.out];exact HMG.out.put HG.out HU.out
    case measure=>have:=HKL.out;simp[intOf];omega
  . have hke:k=l.length:=by omega
    subst hke;have HRES:Hid (agB w ns val root (.returned (.map (some w.heap.size))) wr):=hdd ⟨HB3.out.trans (HF.out.below HB3.out.size (fun b hb=>by omega)),_,m,l,rfl,ax1 _,HM.out,HI.out,by have:=HMG.out;rwa[axS]at this⟩;clear hk hge;go_wp2;go_ret;exact HRES.out
def opsOf(ns:List Nd)(x:Nat):List Int:=match ns[x]? with|some n=>opsN n|none=>[]
def cntL(ns:List Nd)(xs:List Nat)(i:Nat):Nat:=(xs.flatMap (opsOf ns)).count (i:Int)
theorem zB(h:ns[x]? =some n):opsOf ns x=opsN n:=by unfold opsOf;rw[h]
theorem zC(ns:List Nd)(xs ys:List Nat)(i:Nat):cntL ns (xs++ys) i=cntL ns xs i+cntL ns ys i:=by
 unfold cntL;rw[List.flatMap_append,axN]
theorem zD(ns:List Nd)(x i:Nat):cntL ns [x] i=(opsOf ns x).count (i:Int):=by unfold cntL;simp
theorem adO(ok:OkNs ns){xs:List Nat}(h:∀x∈xs,x<=i):cntL ns xs i=0:=by
 unfold cntL;rw[axP];intro hm;obtain⟨x,hx,ho⟩:=List.mem_flatMap.1 hm;unfold opsOf at ho
 cases hn:ns[x]? with
 |none=>rw[hn]at ho;cases ho
 |some n=>
  rw[hn]at ho;have:=((ok x n hn).2 _ ho).2;have:=h x hx;omega
theorem xC(ns:List Nd)(xs:List Nat)(i:Nat):cntL ns xs i<=2*xs.length:=by
 unfold cntL;refine axY axW ?_
 induction xs with
 |nil=>simp
 |cons x xs ih=>
  have:(opsOf ns x).length<=2:=by
   unfold opsOf;split
   . exact rA _
   . simp
  simp at ih|-;omega
theorem ah2(hs:l.Pairwise (· < ·))(hx:l[k]? =some x):(∀y∈l.take k,y<x)/\x∉l.take k:=by
 have h1:∀y∈l.take k,y<x:=fun y hy=>by
  obtain⟨j,hj⟩:=axV hy;have hjl:=(axI.1 hj).1;have hjk:j<k:=by rw[axT]at hjl;omega
  rw[axR hjk]at hj;obtain⟨j1,j2⟩:=axI.1 hj;obtain⟨k1,k2⟩:=axI.1 hx;have:=(axQ.1 hs) j k j1 k1 hjk;omega
 exact⟨h1,fun h=>by have:=h1 x h;omega⟩
def MU(ns:List Nd)(m:Value->Option Value)(done:List Nat)(ex:List Int)(base:List Nat):Prop:=
 ∀i:Nat,m (.int .i64 (i:Int))=if i∈done then some (.int .i64 ((cntL ns base i+ex.count (i:Int):Nat):Int))else none
theorem MU.enter (ok:OkNs ns)(hs:l.Pairwise (· < ·))(hx:l[k]? =some x)(h:MU ns m (l.take k) [] (l.take k))(hu:Upd m (.int .i64 (x:Int)) (some (.int .i64 0)) m'):MU ns m' (l.take (k+1)) [] (l.take k):=by
 obtain⟨h1,h2⟩:=ah2 hs hx;have ht:l.take (k+1)=l.take k++[x]:=by rw[axM,hx];rfl
 intro i;by_cases hi:i=x
 . subst hi
   rw[hu.1,ht,if_pos (by simp),adO ok (fun y hy=>Nat.le_of_lt (h1 y hy))];rfl
 . rw[hu.2 _ (fun e=>hi (by injection e with _ e;omega)),h i,ht]
   by_cases hm:i∈l.take k
   . rw[if_pos hm,if_pos (by simp[hm])]
   . rw[if_neg hm,if_neg (by simp[hm,hi])]
theorem MU.inc {done base:List Nat}(h:MU ns m done ex base)(ho:o∈done)(hu:Upd m (.int .i64 (o:Int)) (some (.int .i64 ((cntL ns base o+ex.count (o:Int):Nat)+1:Int))) m'):MU ns m' done (ex++[(o:Int)]) base:=by
 intro i;rw[axN];by_cases hi:i=o
 . subst hi
   rw[hu.1,if_pos ho];simp;omega
 . rw[hu.2 _ (fun e=>hi (by injection e with _ e;omega)),h i]
   have:ax0 (i:Int) [(o:Int)]=0:=by rw[axP];simp;omega
   rw[this];rfl
theorem MU.fold (hx:l[k]? =some x)(hn:ns[x]? =some n)(h:MU ns m (l.take (k+1)) (opsN n) (l.take k)):MU ns m (l.take (k+1)) [] (l.take (k+1)):=by
 have ht:l.take (k+1)=l.take k++[x]:=by rw[axM,hx];rfl
 intro i;rw[h i]
 conv=>rhs;rw[ht,zC,zD,zB hn]
 rw[ht];simp
theorem lI{root:Nat}(h:IsB ns root l)(hn:ns.length<=20000):l.length<=20000:=
 axY (pK ns.length l (h.srt.imp fun{a b} h=>by omega) h.lt) hn
theorem zF{B:Nat}{o:Obj}(h:w.heap[b]? =some o)(hf:Fr (fun i=>i=B) w w')(hb:B<b):w'.heap[b]? =some o:=
 (hf.block b (aC h) (by omega)).trans h
def ab2(w:World)(ns:List Nd)(root:Nat)(e:Ending)(w':World):Prop:=
 Below w.heap.size w w'/\∃mb m l,e=.returned (.map (some mb))/\w.heap.size<=mb/\MapP Tryz.prog 3 w' mb m/\IsB ns root l/\MU ns m l [] l
theorem agC{root:Nat}(hd:DagP w g ns)(ok:OkNs ns)(hr:root<ns.length):
 Calls Tryz.prog 179 #[.pointer (some ⟨g,0,none⟩),.int .i64 (root:Int)] w (ab2 w ns root):=by
 obtain⟨w1,hw1,hb1,hs1,b1⟩:=pro1 w (.map #[] 0);obtain⟨w2,hw2,hb2,hs2,b2⟩:=pro1 w1 (.cells #[.int .i64 (root:Int)] 3);have HDW:=hdd hd;have HD2:=hdd ((hd.below hb1).below hb2);have HBE:=hdd (iT HD2.out ok hr b2);rw[hs1]at HBE;have HM2:=hdd (MapP.made (P:=Tryz.prog) (k:=3) (es:=#[]) (hbl b1 hb2));have HB2:=hdd (aA hb1 hb2);have HSZ2:Hid (w2.heap.size=w.heap.size+2):=hdd (by rw[hs2,hs1]);have HOK:=hdd ok;have HLN:=hdd hd.len;clear hd ok hr hb1 hb2 b1 b2 hs2;have hmm:=@run_makeMap Tryz.prog;go_enter Tryz.func179,Tryz.ntmps179
 go_wp2_with fail
 refine HBE.out.mono ?_;rintro e w3⟨hb3,v3,l,rfl,hl,hI⟩;obtain⟨bl,cl,rfl,hlc,hcm,-⟩:=id hl;have HL:=hdd hl;have HI:=hdd hI;have HB3:=hdd (HB2.out.trans (hb3.mono HB2.out.size));have HM3:=hdd (HM2.out.below hb3 HM2.out.lt);have HLL:=hdd (lI hI HLN.out);clear hb3 hl hI HBE hcm hlc hw1 hw2;go_wp2_with fail
 go_loopw [22] (fun i wr=>∃k:Nat,k<=l.length/\i=.int .i64 (k:Int)/\Hid (Fr (fun b=>b=w.heap.size) w3 wr)/\∃m,Hid (MapP Tryz.prog 3 wr w.heap.size m)/\Hid (MU ns m (l.take k) [] (l.take k))) (fun i _=>((l.length:Int)-intOf i).toNat)
 case atStart=>exact⟨0,axZ _,rfl,hdd (Fr.of_below (Below.refl _ _)),_,HM3,hdd (fun i=>by simp)⟩
 case round=>
  obtain⟨k,hk,rfl,HF,m,HM,HMU⟩:=hrel;rcases axU k l.length with hlt|hge
  . obtain⟨x,hx⟩:∃x,l[k]? =some x:=⟨_,axL hlt⟩
    have hxl:x<ns.length:=HI.out.lt x (axJ hx);obtain⟨n,hn⟩:∃n,ns[x]? =some n:=⟨_,axL hxl⟩;have HBR:Hid (Below w.heap.size w wr):=hdd (HB3.out.trans (HF.out.below HB3.out.size (fun b hb=>by omega)));have cx:=(HL.out.fr HF.out (fun b hb=>by have:=HSZ2.out;omega)).cell hx;have hkI:(k:Int)<(l.length:Int):=by omega
    have hk0:(0:Int)<=(k:Int):=by omega
    have hlI:(l.length:Int)<=20000:=by have:=HLL.out;omega
    have HX:=hdd hx;have HNN:=hdd hn;have HXL:=hdd hxl;have HKL:=hdd hlt;have HKX:=hdd (iO (i:=x) (by have:=HLN.out;omega));obtain⟨m1,hu⟩:=jQ m (.int .i64 (x:Int)) (some (.int .i64 0));have HU:=hdd hu;have HMU1:=hdd (HMU.out.enter HOK.out HI.out.srt hx hu);have HGL:Hid (w.heap.size<wr.heap.size):=hdd (by have:=HF.out.size;have:=HM3.out.lt;omega);clear hx hn hxl hlt hu;go_wp2_with (first
     |(at_mapUpdate
       refine dP _ rfl _ _ _ _ rfl _ _ aK bT _ m m1 rfl HM.out (.int .i64 (x:Int)) (.int .i64 0) _ rfl rfl HKX.out HU.out ?_;intro w4 HM4 hgr hsz;have HF4:=hdd (HF.out.trans (Fr.of_grown hgr (fun i e=>(axK e).symm)));have HB4:=hdd (HB3.out.trans (HF4.out.below HB3.out.size (fun b hb=>by omega)));have HN:=hdd (eO (HDW.out.below HB4.out) HNN.out);clear hgr hsz cx))
    refine HN.out.mono ?_;rintro e w5⟨rfl,hb5⟩;have hst:=aT;obtain⟨w6,hw6,z0,z1,z2,z3,y0,y1,y2,y3,w7,hw7,hb7,hs7⟩:=new4 w5 87 (.int .i64 0) (.float .f64 0) (.int .i64 0) (.int .i64 0) (.int .i64 n.kind) (.float .f64 n.val) (.int .i64 n.a) (.int .i64 n.b);obtain⟨x0,x1,x2,x3⟩:=bM hs7;have HB47:=hdd (aA hb5 hb7);have HPA:Hid (Calls Tryz.prog 150 #[.agg #[.int .i64 n.kind,.float .f64 n.val,.int .i64 n.a,.int .i64 n.b]] w7 (fun e w'=>e=.returned (.tuple #[.agg #[.int .i64 (ops2 n).1,.int .i64 (ops2 n).2],.int .i64 ((opsN n).length:Nat)])/\Below w7.heap.size w7 w')):=hdd (vG (n:=n));clear hb5 hb7 hs7;go_wp2_with fail
    refine HPA.out.mono ?_;rintro e w10⟨rfl,hb10⟩;obtain⟨w11,hw11,p0,p1,r0,r1,w12,hw12,hb12,hs12⟩:=new2 w10 221 (.int .i64 0) (.int .i64 0) (.int .i64 (ops2 n).1) (.int .i64 (ops2 n).2);have HB12:=hdd (aA (aA HB47.out hb10) hb12);have HS12:=hdd hs12;have HM12:=hdd (HM4.out.below HB12.out HM4.out.lt);have HF12:=hdd (HF4.out.trans (Fr.of_below HB12.out));have hcnt:(0:Int)<=((opsN n).length:Int):=by omega
    have hcnt2:((opsN n).length:Int)<=2:=by have:=rA n;omega
    have HW10:Hid (w.heap.size<w10.heap.size):=hdd (by have:=HB47.out.size;have:=hb10.size;have:=HF4.out.size;have:=HM3.out.lt;omega);clear hb10 hb12 hs12 z0 z1 z2 z3 y0 y1 y2 y3 hw6 hw7 x0 x1 x2 x3;go_wp2_with fail
    go_loopw [42] (fun j wr=>∃jn:Nat,jn<=(opsN n).length/\j=.int .i64 (jn:Int)/\Hid (Fr (fun b=>b=w.heap.size) w12 wr)/\∃m,Hid (MapP Tryz.prog 3 wr w.heap.size m)/\Hid (MU ns m (l.take (k+1)) ((opsN n).take jn) (l.take k))) (fun j _=>(((opsN n).length:Int)-intOf j).toNat)
    case atStart=>exact⟨0,axZ _,rfl,hdd (Fr.of_below (Below.refl _ _)),m1,HM12,HMU1⟩
    case round=>
     obtain⟨jn,hjn,rfl,HFj,mj,HMj,HMUj⟩:=hrel;rcases axU jn (opsN n).length with hlt|hge
     . obtain⟨o,ho⟩:∃o,(opsN n)[jn]? =some o:=⟨_,axL hlt⟩
       have hop:=(HOK.out x n HNN.out).2 o (axJ ho);obtain⟨y,hy,e9⟩:=HI.out.cl x (axJ HX.out) n HNN.out o (axJ ho);have hyt:y∈l.take k:=lG HI.out.srt HX.out hy (by omega);have hyt1:y∈l.take (k+1):=by rw[axM];exact axO.2 (Or.inl hyt)
       have co:=y8 (zF HS12.out HFj.out HW10.out) ho;rw[<-e9]at co;have hmy:=HMUj.out y;rw[if_pos hyt1]at hmy;obtain⟨c,hc⟩:∃c,c=cntL ns (l.take k) y+((opsN n).take jn).count (y:Int):=⟨_,rfl⟩;rw[<-hc]at hmy;have hmv:(mj (.int .i64 (y:Int))).getD (.int .i64 0)=.int .i64 (c:Int):=by rw[hmy];rfl
       have hcle:c<=100000:=by
        have h1:=xC ns (l.take k) y;have h2:((opsN n).take jn).count (y:Int)<=2:=axY axW (by rw[axT];have:=rA n;omega);rw[axT]at h1;have:=HLL.out;omega
       obtain⟨mj2,hu⟩:=jQ mj (.int .i64 (y:Int)) (some (.int .i64 ((c:Int)+1)));have hu':=hu;rw[hc]at hu';have HMU2:=hdd (HMUj.out.inc hyt1 hu');have HU2:=hdd hu;have HKY:=hdd (iO (i:=y) (by have:=HI.out.lt y hy;have:=HLN.out;omega));have hcI:(0:Int)<=(c:Int)/\(c:Int)<=100000:=by omega
       have hjI:(jn:Int)<((opsN n).length:Int):=by omega
       have hj0:(0:Int)<=(jn:Int):=by omega
       have hE:(opsN n).take (jn+1)=(opsN n).take jn++[(y:Int)]:=by rw[axM,ho,e9];rfl
       have HE:=hdd hE;have HMV:=hdd hmv;have HJ:=hdd hlt;clear hop hy hyt hyt1 e9 hmy hc hmv hcle hu hu' ho hE hlt;go_wp2_with (first
        |(at_lookup
          refine aU _ rfl _ _ _ rfl _ _ aK bT (dV _) _ mj rfl HMj.out (.int .i64 (y:Int)) _ rfl HKY.out (.int .i64 (c:Int)) HMV.out ?_)
        |(at_mapUpdate
          refine dP _ rfl _ _ _ _ rfl _ _ aK bT _ mj mj2 rfl HMj.out (.int .i64 (y:Int)) (.int .i64 ((c:Int)+1)) _ rfl rfl HKY.out HU2.out ?_;intro w14 HM14 hgr hsz;have HF14:=hdd (HFj.out.trans (Fr.of_grown hgr (fun i e=>(axK e).symm)));clear hgr hsz))
       go_roundw
       case rel=>exact⟨jn+1,by have:=HJ.out;omega,by go_num,HF14,mj2,HM14,by rw[HE.out];exact HMU2⟩
       case measure=>have:=HJ.out;simp[intOf];omega
     . have hje:jn=(opsN n).length:=by omega
       subst hje;rw[axS]at HMUj;have HMU3:=hdd (HMUj.out.fold HX.out HNN.out);have HFF:=hdd (HF12.out.trans HFj.out);clear hge hjn;go_wp2
       go_roundw
       case rel=>exact⟨k+1,by have:=HKL.out;omega,by go_num,HFF,mj,HMj,HMU3⟩
       case measure=>have:=HKL.out;simp[intOf];omega
  . have hke:k=l.length:=by omega
    subst hke;rw[axS]at HMU;have HRES:Hid (ab2 w ns root (.returned (.map (some w.heap.size))) wr):=hdd ⟨HB3.out.trans (HF.out.below HB3.out.size (fun b hb=>by omega)),_,m,l,rfl,ax1 _,HM.out,HI.out,HMU.out⟩;clear hk hge;go_wp2;go_ret;exact HRES.out
theorem IntP.fr {z:Int}(h:IntP p w v z)(hf:Fr S w w')(hn:∀b,p b->¬S b):IntP p w' v z:=by
 obtain⟨vm,xs,h1,h2,h3,h4⟩:=h;exact⟨vm,xs,h1,h2.keep hf.size (fun b hp hlt=>hf.block b hlt (hn b hp)),h3,h4⟩
theorem jY:Tryz.prog.underlying 165=some (.map 3 92):=by kernel_rfl
theorem pM(w:World):(zeroValue 92).run Tryz.prog w=.ok (.agg #[.bool false,.slice none 0 0,.int .i64 0,.bool false,.slice none 0 0,.int .i64 0]) w:=by kernel_rfl
def oN(w:World)(bL bB:Nat)(mL mB:Value->Option Value)(o c:Nat)(e:Ending)(w':World):Prop:=
 e=.returned (.tuple #[])/\Fr (fun b=>b=bL\/b=bB) w w'/\∃mL' mB',MapP Tryz.prog 3 w' bL mL'/\MapP Tryz.prog 3 w' bB mB'/\Upd mL (.int .i64 (o:Int)) (some (.int .i64 (c:Int))) mL'/\(if c=0 then Upd mB (.int .i64 (o:Int)) none mB' else mB'=mB)
theorem tO{bL bB:Nat}(hL:MapP Tryz.prog 3 w bL mL)(hB:MapP Tryz.prog 3 w bB mB)(hne:bL≠bB)(hc:mL (.int .i64 (o:Int))=some (.int .i64 ((c:Int)+1)))(ho:o<=1000000)(hcl:c<=1000000):
 Calls Tryz.prog 182 #[.map (some bB),.map (some bL),.int .i64 (o:Int)] w (oN w bL bB mL mB o c):=by
 obtain⟨mL',hu⟩:=jQ mL (.int .i64 (o:Int)) (some (.int .i64 (c:Int)));obtain⟨mB',hv⟩:=jQ mB (.int .i64 (o:Int)) none;have HL:=hdd hL;have HBB:=hdd hB;have HU:=hdd hu;have HV:=hdd hv;have HNE:=hdd hne;have HK:=hdd (iO ho);have HG:Hid ((mL (.int .i64 (o:Int))).getD (.int .i64 0)=.int .i64 ((c:Int)+1)):=hdd (by rw[hc];rfl);have HG2:Hid ((mL' (.int .i64 (o:Int))).getD (.int .i64 0)=.int .i64 (c:Int)):=hdd (by rw[hu.1];rfl);have hcI:(0:Int)<=(c:Int)/\(c:Int)<=1000000:=by omega
 have hsub:(c:Int)+1-1=(c:Int):=by omega
 clear hL hB hu hv hne hc ho hcl;by_cases h0:c=0
 . subst h0
   have M1:True:=trivial;go_enter Tryz.func182,Tryz.ntmps182
   go_wp2_with (first
    |(at_lookup
      clear M1;refine aU _ rfl _ _ _ rfl _ _ aK bT (dV _) _ mL rfl HL.out (.int .i64 (o:Int)) _ rfl HK.out (.int .i64 (((0:Nat):Int)+1)) HG.out ?_)
    |(at_mapUpdate
      refine dP _ rfl _ _ _ _ rfl _ _ aK bT _ mL mL' rfl HL.out (.int .i64 (o:Int)) (.int .i64 ((0:Nat):Int)) _ rfl rfl HK.out HU.out ?_;intro w1 HM1 hgr hsz;have HB1:=hdd (HBB.out.keep (hgr.block bB HBB.out.lt (fun e=>HNE.out (axK e).symm)));have HF1:Hid (Fr (fun b=>b=bL\/b=bB) w w1):=hdd (Fr.of_grown hgr (fun i e=>Or.inl (axK e).symm));clear hgr hsz)
    |(at_lookup
      refine aU _ rfl _ _ _ rfl _ _ aK bT (dV _) _ mL' rfl HM1.out (.int .i64 (o:Int)) _ rfl HK.out (.int .i64 ((0:Nat):Int)) HG2.out ?_)
    |(at_delete
      refine yZ _ rfl _ _ _ _ rfl _ aK jY _ mB mB' rfl HB1.out (.int .i64 (o:Int)) _ rfl HK.out HV.out ?_;intro w2 HM2 hgr hsz;have HL2:=hdd (HM1.out.keep (hgr.block bL HM1.out.lt (fun e=>HNE.out (axK e))));have HF2:Hid (Fr (fun b=>b=bL\/b=bB) w w2):=hdd (HF1.out.trans (Fr.of_grown hgr (fun i e=>Or.inr (axK e).symm)));clear hgr hsz))
   go_end0
   exact⟨rfl,HF2.out,mL',mB',HL2.out,HM2.out,HU.out,by rw[if_pos rfl];exact HV.out⟩
 . have hz:((c:Int)==0)=false:=beq_eq_false_iff_ne.2 (by omega)
   have H0:=hdd h0;have M1:True:=trivial;clear h0;go_enter Tryz.func182,Tryz.ntmps182
   go_wp2_with (first
    |(at_lookup
      clear M1;refine aU _ rfl _ _ _ rfl _ _ aK bT (dV _) _ mL rfl HL.out (.int .i64 (o:Int)) _ rfl HK.out (.int .i64 ((c:Int)+1)) HG.out ?_)
    |(at_mapUpdate
      refine dP _ rfl _ _ _ _ rfl _ _ aK bT _ mL mL' rfl HL.out (.int .i64 (o:Int)) (.int .i64 (c:Int)) _ rfl rfl HK.out HU.out ?_;intro w1 HM1 hgr hsz;have HB1:=hdd (HBB.out.keep (hgr.block bB HBB.out.lt (fun e=>HNE.out (axK e).symm)));have HF1:Hid (Fr (fun b=>b=bL\/b=bB) w w1):=hdd (Fr.of_grown hgr (fun i e=>Or.inl (axK e).symm));clear hgr hsz)
    |(at_lookup
      refine aU _ rfl _ _ _ rfl _ _ aK bT (dV _) _ mL' rfl HM1.out (.int .i64 (o:Int)) _ rfl HK.out (.int .i64 (c:Int)) HG2.out ?_))
   go_end0
   exact⟨rfl,HF1.out,mL',mB,HM1.out,HB1.out,HU.out,by rw[if_neg H0.out]⟩
def LB(l:List Nat)(mL:Value->Option Value)(cnt:Nat->Nat)(ex:List Int):Prop:=∀i∈l,mL (.int .i64 ((i:Nat):Int))=some (.int .i64 ((cnt i+ex.count (i:Int):Nat):Int))
theorem LB.drop {mL':Value->Option Value}(h:LB l mL cnt (ex++[(o:Int)]))(hu:Upd mL (.int .i64 (o:Int)) (some (.int .i64 ((cnt o+ex.count (o:Int):Nat):Int))) mL'):LB l mL' cnt ex:=by
 intro i hi;by_cases h1:i=o
 . subst h1;exact hu.1
 . rw[hu.2 _ (fun e=>h1 (by injection e with _ e;omega)),h i hi,axN]
   have:ax0 (i:Int) [(o:Int)]=0:=by rw[axP];simp;omega
   rw[this];rfl
theorem LB.at (h:LB l mL cnt (ex++[(o:Int)]))(ho:o∈l):mL (.int .i64 (o:Int))=some (.int .i64 (((cnt o+ex.count (o:Int):Nat):Int)+1)):=by
 rw[h o ho,axN];have:ax0 (o:Int) [(o:Int)]=1:=by simp
 rw[this]
 congr 2
theorem adP(hx:l[k]? =some x):l.drop k=x::l.drop (k+1):=by
 obtain⟨h1,h2⟩:=axI.1 hx;rw[List.drop_eq_getElem_cons h1,h2]
theorem tQ(hx:l[k]? =some x)(hn:ns[x]? =some n)(i:Nat):cntL ns (l.drop k) i=cntL ns (l.drop (k+1)) i+(opsN n).count (i:Int):=by
 rw[adP hx,show x::l.drop (k+1)=[x]++l.drop (k+1) from rfl,zC,zD,zB hn];omega
theorem LB.open (hx:l[k]? =some x)(hn:ns[x]? =some n)(h:LB l mL (cntL ns (l.drop k)) []):LB l mL (cntL ns (l.drop (k+1))) (opsN n):=by
 intro i hi;rw[h i hi,tQ hx hn];rfl
theorem new6(w:World)(T:TypeId)(z0 z1 z2 z3 z4 z5 a b c d e f:Value):∃w1,w.alloc (.cells #[z0,z1,z2,z3,z4,z5] T)=w1/\(w1.cell? ⟨w.heap.size,0,none⟩=some z0/\w1.cell? ⟨w.heap.size,1,none⟩=some z1/\w1.cell? ⟨w.heap.size,2,none⟩=some z2/\w1.cell? ⟨w.heap.size,3,none⟩=some z3/\w1.cell? ⟨w.heap.size,4,none⟩=some z4/\w1.cell? ⟨w.heap.size,5,none⟩=some z5)/\
 (w1.frozen? ⟨w.heap.size,0,none⟩=false/\w1.frozen? ⟨w.heap.size,1,none⟩=false/\w1.frozen? ⟨w.heap.size,2,none⟩=false/\w1.frozen? ⟨w.heap.size,3,none⟩=false/\w1.frozen? ⟨w.heap.size,4,none⟩=false/\w1.frozen? ⟨w.heap.size,5,none⟩=false)/\
 ∃w2,(((((w1.setCell ⟨w.heap.size,0,none⟩ a).setCell ⟨w.heap.size,1,none⟩ b).setCell ⟨w.heap.size,2,none⟩ c).setCell ⟨w.heap.size,3,none⟩ d).setCell ⟨w.heap.size,4,none⟩ e).setCell ⟨w.heap.size,5,none⟩ f=w2/\Below w.heap.size w w2/\w2.heap[w.heap.size]? =some (.cells #[a,b,c,d,e,f] T (0,0)):=by
 obtain⟨w1,h,hb,hs,b1⟩:=pro1 w (.cells #[z0,z1,z2,z3,z4,z5] T);exact⟨w1,h,aG b1,fC b1,_,rfl,eZ hb nlr a b c d e f,gP b1 a b c d e f⟩
theorem BlP.fr {d:Bl}(h:BlP p w v d)(hf:Fr S w w')(hn:∀b,p b->¬S b):BlP p w' v d:=by
 obtain⟨b,A,n,c,b',A',n',c',e,h1,h2⟩:=h;exact⟨b,A,n,c,b',A',n',c',e,h1.fr hf hn,h2.fr hf hn⟩
def FitD(d:Dy):Prop:=SmQ d/\(-4194304<=topD d/\topD d<=4194304)
theorem zG{d:Dy}(hx:DyP p w v d)(hs:FitD d):Calls Tryz.prog 181 #[v] w (RetW w true):=by
 obtain⟨b,A,n,c,rfl,h⟩:=hx;obtain⟨w1,hw1,hb1,hs1,b1⟩:=pro1 w (.cells #[Value.bool b,.slice A n c,.int .i64 d.exp] 90);have HB:=hdd hb1;obtain⟨c0,c1,c2,-,-,-⟩:=cells3 b1;have D1:Hid (DyP p w1 (.agg #[.bool b,.slice A n c,.int .i64 d.exp]) d):=hdd ⟨_,_,_,_,rfl,h.below hb1⟩;have HTB:=hdd hs.2;have HSM:=hdd hs;clear h hb1 b1 hs1 hs;go_enter Tryz.func181,Tryz.ntmps181
 go_wp2_with fail
 refine(bY D1.out).mono ?_;rintro r w3⟨rfl,hb⟩;replace c0:=cbl c0 hb;replace c1:=cbl c1 hb;replace c2:=cbl c2 hb;replace D1:=hdd (D1.out.below hb);replace HB:=hdd (HB.out.trans (hb.mono HB.out.size));clear hb hw1;by_cases hz:d.man=0
 . have hs:(d.man.sign==0)=true:=by rw[hz];rfl
   have HF:Hid (RetW w true (.returned (.bool true)) w3):=hdd ⟨rfl,HB.out⟩;clear hz;go_wp2;go_ret;exact HF.out
 . have hs:(d.man.sign==0)=false:=beq_eq_false_iff_ne.2 (fun h=>hz (Int.sign_eq_zero_iff_zero.1 h))
   clear hz;go_wp2_with fail
   refine(nP D1.out (by have:=HSM.out.1.2;omega)).mono ?_;rintro r w4⟨rfl,hb⟩;have h1:(-4194304:Int)<=topD d:=by have:=HTB.out;omega
   have h2:topD d<=(4194304:Int):=by have:=HTB.out;omega
   have HF:Hid (RetW w true (.returned (.bool true)) w4):=hdd ⟨rfl,HB.out.trans (hb.mono HB.out.size)⟩;generalize topD d=T at*;clear hb;go_wp2;go_ret;exact HF.out
def BC(p:Nat->Prop)(w:World)(bl:Nat->Bl)(root:Nat)(done:List Nat)(mB:Value->Option Value)(cnt:Nat->Nat)(ex:List Int):Prop:=
 (∀i∈done,(0<cnt i+ex.count ((i:Nat):Int)\/i=root)->∃v,mB (.int .i64 (i:Int))=some v/\BlP p w v (bl i))/\∀key v,mB key=some v->SixB v
theorem BC.drop {root:Nat}{done:List Nat}(h:BC p w bl root done mB cnt (ex++[(o:Int)]))(hf:Fr S w w')(hS:∀b,p b->¬S b)(hr:o≠root)
 (hu:if cnt o+ex.count (o:Int)=0 then Upd mB (.int .i64 (o:Int)) none mB' else mB'=mB):BC p w' bl root done mB' cnt ex:=by
 refine⟨fun i hi hc=> ?_,fun key v hk=> ?_⟩
 . obtain⟨v,h1,h2⟩:=h.1 i hi (by
    rcases hc with hc|hc
    . left;rw[axN];omega
    . exact Or.inr hc)
   refine⟨v,?_,h2.fr hf hS⟩
   split at hu
   . rename_i h0
     by_cases e1:i=o
     . subst e1
       rcases hc with hc|hc
       . omega
       . exact absurd hc hr
     . rw[hu.2 _ (fun e=>e1 (by injection e with _ e;omega))];exact h1
   . rw[hu];exact h1
 . split at hu
   . by_cases e1:key=.int .i64 (o:Int)
     . rw[e1,hu.1]at hk;cases hk
     . rw[hu.2 _ e1]at hk;exact h.2 key v hk
   . rw[hu]at hk;exact h.2 key v hk
theorem BC.fr {root:Nat}{done:List Nat}(h:BC p w bl root done mB cnt ex)(hf:Fr S w w')(hS:∀b,p b->¬S b):BC p w' bl root done mB cnt ex:=
 ⟨fun i hi hc=>by obtain⟨v,h1,h2⟩:=h.1 i hi hc;exact⟨v,h1,h2.fr hf hS⟩,h.2⟩
theorem BC.put {root:Nat}{done:List Nat}(h:BC p w bl root done mB cnt ex)(hv:BlP p w v (bl x))(hu:Upd mB (.int .i64 (x:Int)) (some v) mB'):BC p w bl root (done++[x]) mB' cnt ex:=by
 refine⟨fun i hi hc=> ?_,fun key u hk=> ?_⟩
 . by_cases e1:i=x
   . subst e1;exact⟨v,hu.1,hv⟩
   . rw[hu.2 _ (fun e=>e1 (by injection e with _ e;omega))]
     rcases axO.1 hi with hi|hi
     . exact h.1 i hi hc
     . simp at hi;exact absurd hi e1
 . by_cases e1:key=.int .i64 (x:Int)
   . rw[e1,hu.1]at hk;cases hk;exact hv.six
   . rw[hu.2 _ e1]at hk;exact h.2 key u hk
theorem BC.open {root:Nat}{done:List Nat}(hx:l[k]? =some x)(hn:ns[x]? =some n)(h:BC p w bl root done mB (cntL ns (l.drop k)) []):BC p w bl root done mB (cntL ns (l.drop (k+1))) (opsN n):=by
 refine⟨fun i hi hc=>h.1 i hi ?_,h.2⟩;rw[tQ hx hn];simpa using hc
def zH(n:Nd)(oa ob:Option Bl)(P:Int):Option Bl:=
 if n.kind=0 then some (atB (leafD n.val))else if n.kind=5 then oa.bind fun x=>mQ n x x P else oa.bind fun x=>ob.bind fun y=>mQ n x y P
structure GB(ns:List Nd)(S:Nat->Prop)(bal:Nat->Option Bl)(P:Int):Prop where
 cl:ClS ns S
 step:∀(i:Nat) n,S i->ns[i]? =some n->bal i=zH n (bal n.a.toNat) (bal n.b.toNat) P
 ok:∀(i:Nat) b,S i->bal i=some b->Okb b/\FitD b.lo/\FitD b.hi
 leaf:∀(i:Nat) n,S i->ns[i]? =some n->n.kind=0->n.val<18446744073709551616/\fin n.val/\SmD (leafD n.val)
 root:∀(i:Nat) n,S i->ns[i]? =some n->n.kind=5->∀b,bal n.a.toNat=some b->0<=b.hi.man
theorem aa4{oa ob:Option Bl}{r:Bl}(h:zH n oa ob P=some r)(h0:n.kind≠0):(∃x,oa=some x)/\(n.kind≠5->∃y,ob=some y):=by
 unfold zH at h;rw[if_neg h0]at h
 split at h
 . rename_i h5
   cases oa with
   |none=>cases h
   |some x=>exact⟨⟨x,rfl⟩,fun h'=>absurd h5 h'⟩
 . cases oa with
   |none=>cases h
   |some x=>cases ob with
    |none=>cases h
    |some y=>exact⟨⟨x,rfl⟩,fun _=>⟨y,rfl⟩⟩
theorem GB.all (h:GB ns S bal P){root:Nat}(hI:IsB ns root l)(hS:S root){b:Bl}(hb:bal root=some b):∀x∈l,∃b,bal x=some b:=by
 have hc:ClS ns (fun x=>S x/\∃b,bal x=some b):=by
  intro x n ⟨hs,r,hr⟩ hn o ho;refine⟨h.cl x n hs hn o ho,?_⟩;rw[h.step x n hs hn]at hr;by_cases h0:n.kind=0
  . unfold opsN at ho;rw[if_pos h0]at ho;cases ho
  . obtain⟨h1,h2⟩:=aa4 hr h0
    unfold opsN at ho;rw[if_neg h0]at ho;by_cases h5:n.kind=5
    . rw[if_pos h5]at ho
      rcases axX.1 ho with rfl|ho
      . exact h1
      . cases ho
    . rw[if_neg h5]at ho
      rcases axX.1 ho with rfl|ho
      . exact h1
      . rcases axX.1 ho with rfl|ho
        . exact h2 h5
        . cases ho
 exact fun x hx=>(hI.mn _ hc ⟨hS,b,hb⟩ x hx).2
theorem GB.inS (h:GB ns S bal P){root:Nat}(hI:IsB ns root l)(hS:S root):∀x∈l,S x:=hI.mn S h.cl hS
end Go.Proofs.YtkadpnljocflaaaGreatDoor
