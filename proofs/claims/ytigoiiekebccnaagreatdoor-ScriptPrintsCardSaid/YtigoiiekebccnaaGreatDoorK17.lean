/- A part of the proof: contracts of functions and plain laws (WalkE, DagF, RlA, RlB, RlC). -/
import Derived.Test.YtigoiiekebccnaaGreatDoorK16
import Derived.Lib.Builder
import Derived.Laws.MakeOwn
set_option linter.unusedVariables false
set_option linter.unusedSimpArgs false
set_option linter.unnecessarySimpa false
set_option maxHeartbeats 25600000
set_option maxRecDepth 100000
namespace Go.Proofs.YtigoiiekebccnaaGreatDoor
open Go.RowKit Go.Maps
open Go.RowKit.Below renaming heap_setCell->ba2,refl->bbE
open List renaming getElem?_eq_getElem->ba1,mem_of_getElem?->ba3,getElem?_eq_some_iff->ba4,take_add_one->ba6,length_cons->ba7,take_of_length_le->ba8,mem_append->bbB
open Nat renaming lt_or_ge->ba5,zero_le->ba9,lt_of_lt_of_le->bbA,le_trans->bbC,le_refl->bbD
variable{e0:Ex}{l:List Nat}{b base c i n:Nat}{p:Nat->Prop}{v:Value}{m:Value->Option Value}{w0:World}
def DV(ns:List Nd)(val:Nat->Re->Prop):Prop:=∀(i:Nat) n,ns[i]? =some n->pJ n (val n.a.toNat) (val n.b.toNat) (val i)
def gT(ns:List Nd):Prop:=∀(i:Nat) n,ns[i]? =some n->n.kind=0->n.a=0/\n.b=0
def gW(ns:List Nd):Prop:=∀(i:Nat) n,ns[i]? =some n->n.kind=5->n.b=0
theorem lU{k x a:Nat}(hs:l.Pairwise (· < ·))(hx:l[k]? =some x)(ha:a∈l)(hlt:a<x):a∈l.take k:=by
 obtain⟨j,hj⟩:=List.getElem?_of_mem ha;obtain⟨j1,j2⟩:=ba4.1 hj;obtain⟨k1,k2⟩:=ba4.1 hx;have hjk:j<k:=by
  rcases ba5 j k with h|h
  . exact h
  . rcases Nat.lt_or_eq_of_le h with h|h
    . have:=(List.pairwise_iff_getElem.1 hs) k j k1 j1 h;omega
    . subst h;omega
 exact ba3 (by rw[List.getElem?_take_of_lt hjk];exact hj)
theorem IntsP.fr {S:Nat->Prop}{w w':World}(h:IntsP p w v l)(hf:Fr S w w')(hn:∀b,p b->¬S b):IntsP p w' v l:=by
 obtain⟨b,c,e,h1,h2,h3,h4,h5⟩:=h;exact⟨b,c,e,h1,h2,h3,bbA h4 hf.size,fun k x hx=>(World.cell?_of_block (hf.block b h4 (hn b h3))).trans (h5 k x hx)⟩
theorem IntsP.cell {w:World}(h:IntsP p w (.slice (some ⟨b,0,none⟩) n c) l){k x:Nat}(hx:l[k]? =some x):w.cell? ⟨b,k,none⟩=some (.int .i64 (x:Int)):=by
 obtain⟨b',c',e,h1,h2,h3,h4,h5⟩:=h;injection e with e;cases e
 exact h5 k x hx
theorem lV:Tryz.prog.underlying 341=some (.map 3 270):=by kernel_rfl
theorem pW(w:World):(zeroValue 270).run Tryz.prog w=.ok (.agg #[.float .f64 0,.float .f64 0]) w:=by kernel_rfl
def MG(val:Nat->Re->Prop)(m:Value->Option Value)(done:List Nat):Prop:=
 (∀i∈done,∃lo hi,m (.int .i64 ((i:Nat):Int))=some (gv lo hi)/\GapS lo hi (val i))/\∀i:Nat,i∉done->m (.int .i64 (i:Int))=none
theorem aj3:GapS 0 0 (fun _=>False):=⟨by decide,by decide,fun _ _ h=>h.elim⟩
theorem MG.get {val:Nat->Re->Prop}{done:List Nat}(h:MG val m done)(i:Nat):∃lo hi X,(m (.int .i64 (i:Int))).getD (.agg #[.float .f64 0,.float .f64 0])=.agg #[.float .f64 lo,.float .f64 hi]/\GapS lo hi X/\(i∈done->X=val i):=by
 by_cases hi:i∈done
 . obtain⟨lo,hh,e,g⟩:=h.1 i hi
   exact⟨lo,hh,_,by rw[e];rfl,g,fun _=>rfl⟩
 . exact⟨0,0,_,by rw[h.2 i hi];rfl,aj3,fun h'=>absurd h' hi⟩
theorem MG.put {val:Nat->Re->Prop}{m':Value->Option Value}{done:List Nat}{lo hi:Nat}(h:MG val m done)(hg:GapS lo hi (val i))(hu:Upd m (.int .i64 (i:Int)) (some (.agg #[.float .f64 lo,.float .f64 hi])) m'):MG val m' (done++[i]):=by
 refine⟨fun j hj=> ?_,fun j hj=> ?_⟩
 . by_cases hji:j=i
   . subst hji;exact⟨lo,hi,hu.1,hg⟩
   . rw[hu.2 _ (fun e=>hji (by injection e with _ e;omega))]
     rcases bbB.1 hj with h1|h1
     . exact h.1 j h1
     . simp at h1;exact absurd h1 hji
 . have h1:j≠i:=fun e=>hj (by rw[e];simp)
   rw[hu.2 _ (fun e=>h1 (by injection e with _ e;omega))];exact h.2 j (fun h'=>hj (bbB.2 (Or.inl h')))
theorem abO{ns:List Nd}{k x:Nat}{n:Nd}(ok:OkNs ns)(hs:l.Pairwise (· < ·))(hc:Cl ns l l)(hx:l[k]? =some x)(hn:ns[x]? =some n):
 (n.kind≠0->n.a.toNat∈l.take k/\(0<=n.a/\n.a<x))/\(n.kind≠0->n.kind≠5->n.b.toNat∈l.take k/\(0<=n.b/\n.b<x)):=by
 have hxl:=ba3 hx;have one:∀o∈opsN n,o.toNat∈l.take k/\0<=o/\o<x:=by
  intro o ho;have ha:=(ok x n hn).2 o ho;obtain⟨y,hy,e⟩:=hc x hxl n hn o ho;have e1:o.toNat=y:=by omega
  rw[e1];exact⟨lU hs hx hy (by omega),ha⟩
 refine⟨fun h0=>one n.a ?_,fun h0 h5=>one n.b ?_⟩
 . unfold opsN;rw[if_neg h0];split<;>simp
 . unfold opsN;rw[if_neg h0,if_neg h5];simp
theorem abP{a b:Int}(h:a=0/\b=0):(0<=a/\a<=1000000)/\(0<=b/\b<=1000000):=by omega
def aj4(w:World)(ns:List Nd)(val:Nat->Re->Prop)(root:Nat)(e:Ending)(w':World):Prop:=
 Below w.heap.size w w'/\∃mb m l,e=.returned (.map (some mb))/\w.heap.size<=mb/\MapP Tryz.prog 3 w' mb m/\IsB ns root l/\MG val m l
theorem setB{w:World}{g:Nat}{T:TypeId}{a b:Value}(h:w.heap[g]? =some (.cells #[a,b] T (0,0)))(d:Value):
 (w.setCell ⟨g,1,none⟩ d).heap[g]? =some (.cells #[a,d] T (0,0)):=by
 have hg:g<w.heap.size:=(Array.getElem?_eq_some_iff.1 h).1;have h':w.heap[g]=.cells #[a,b] T (0,0):=(Array.getElem?_eq_some_iff.1 h).2;simp[World.setCell,hg,Array.getElem_modify,h']
theorem iY(h:i<=1000000):keyOf Tryz.prog 3 (.int .i64 (i:Int))=some (.int .i64 (i:Int)):=jQ (by omega)
theorem zJ{w:World}{g root:Nat}{ns:List Nd}{val:Nat->Re->Prop}(hd:DagP w g ns)(ok:OkNs ns)(hv:DV ns val)(hlf:gT ns)(hro:gW ns)(hr:root<ns.length):
 Calls Tryz.prog 262 #[.pointer (some ⟨g,0,none⟩),.int .i64 (root:Int)] w (aj4 w ns val root):=by
 obtain⟨w1,hw1,hb1,hs1,b1⟩:=pro1 w (.map #[] 0);obtain⟨w2,hw2,hb2,hs2,b2⟩:=pro1 w1 (.cells #[.int .i64 (root:Int)] 3);have HDW:=hdd hd;have HD2:=hdd ((hd.below hb1).below hb2);have HBE:=hdd (jC HD2.out ok hr b2);rw[hs1]at HBE;have HM2:=hdd (MapP.made (P:=Tryz.prog) (k:=3) (es:=#[]) (hbl b1 hb2));have HB2:=hdd (aA hb1 hb2);have HSZ2:Hid (w2.heap.size=w.heap.size+2):=hdd (by rw[hs2,hs1]);have HOK:=hdd ok;have HV:=hdd hv;have HLN:=hdd hd.len;have HLEAF:=hdd hlf;have HROOT:=hdd hro;clear hd ok hv hr hlf hro hb1 hb2 b1 b2 hs2;have hmm:=@run_makeMap Tryz.prog;go_enter Tryz.func262,Tryz.ntmps262
 go_wp2_with fail
 refine HBE.out.mono ?_;rintro e w3⟨hb3,v3,l,rfl,hl,hI⟩;have HI:=hdd hI;obtain⟨hsrt,hrt,hlt,hcl,-,-⟩:=hI;obtain⟨bl,cl,rfl,hlc,hcm,-⟩:=id hl;have HL:=hdd hl;have HSRT:=hdd hsrt;have HRT:=hdd hrt;have HLT:=hdd hlt;have HCL:=hdd hcl;have HB3:=hdd (HB2.out.trans (hb3.mono HB2.out.size));have HD3:=hdd (HD2.out.below hb3);have HM3:=hdd (HM2.out.below hb3 HM2.out.lt);have HLL:Hid (l.length<=20000):=hdd (by
  have:=qX ns.length l (hsrt.imp fun{a b} h=>by omega) hlt;have:=HLN.out;omega)
 clear hb3 hl hsrt hrt hlt hcl HBE hcm hlc hw1 hw2;go_wp2_with fail
 go_loopw [18] (fun i wr=>∃k:Nat,k<=l.length/\i=.int .i64 (k:Int)/\Hid (Fr (fun b=>b=w.heap.size) w3 wr)/\∃m,Hid (MapP Tryz.prog 3 wr w.heap.size m)/\Hid (MG val m (l.take k))) (fun i _=>((l.length:Int)-intOf i).toNat)
 case atStart=>exact⟨0,ba9 _,rfl,hdd (Fr.of_below (bbE _ _)),_,HM3,hdd ⟨by simp,by simp⟩⟩
 case round=>
  obtain⟨k,hk,rfl,HF,m,HM,HMG⟩:=hrel;rcases ba5 k l.length with hlt|hge
  . obtain⟨x,hx⟩:∃x,l[k]? =some x:=⟨_,ba1 hlt⟩
    have hxl:x<ns.length:=HLT.out x (ba3 hx);obtain⟨n,hn⟩:∃n,ns[x]? =some n:=⟨_,ba1 hxl⟩;have HBR:Hid (Below w.heap.size w wr):=hdd (HB3.out.trans (HF.out.below HB3.out.size (fun b hb=>by omega)));have HDR:=hdd (HDW.out.below HBR.out);have cx:=(HL.out.fr HF.out (fun b hb=>by have:=HSZ2.out;omega)).cell hx;have HN:=hdd (eP HDR.out hn);have hst:=aU;have hkI:(k:Int)<(l.length:Int):=by omega
    have hk0:(0:Int)<=(k:Int):=by omega
    have hlI:(l.length:Int)<=20000:=by have:=HLL.out;omega
    have HX:=hdd hx;have HNN:=hdd hn;have HXL:=hdd hxl;have HKL:=hdd hlt;obtain⟨hop,hop2⟩:=abO HOK.out HSRT.out HCL.out hx hn;have hval:=HV.out x n hn;have hvl:=HDR.out.val hn;have hab:(0<=n.a/\n.a<=1000000)/\(0<=n.b/\n.b<=1000000):=by
     by_cases h0:n.kind=0
     . have:=abP (HLEAF.out x n hn h0);omega
     . have h3:=(hop h0).2
       by_cases h5:n.kind=5
       . have:=HROOT.out x n hn h5
         have:=HLN.out;omega
       . have h4:=(hop2 h0 h5).2
         have:=HLN.out;omega
    obtain⟨la,ha,Xa,ea,Ga,va⟩:=HMG.out.get n.a.toNat;obtain⟨lb,hb,Xb,eb,Gb,vb⟩:=HMG.out.get n.b.toNat;rw[show((n.a.toNat:Nat):Int)=n.a from by omega]at ea;rw[show((n.b.toNat:Nat):Int)=n.b from by omega]at eb;have HNV:Hid (pJ n Xa Xb (val x)):=hdd (by
     rcases hval with h|h|h|h|h|h
     . exact Or.inl h
     all_goals
      have m1:=(hop (by omega)).1;rw[va m1]
     . have m2:=(hop2 (by omega) (by omega)).1
       rw[vb m2];exact Or.inr (Or.inl h)
     . have m2:=(hop2 (by omega) (by omega)).1
       rw[vb m2];exact Or.inr (Or.inr (Or.inl h))
     . have m2:=(hop2 (by omega) (by omega)).1
       rw[vb m2];exact Or.inr (Or.inr (Or.inr (Or.inl h)))
     . have m2:=(hop2 (by omega) (by omega)).1
       rw[vb m2];exact Or.inr (Or.inr (Or.inr (Or.inr (Or.inl h))))
     . exact Or.inr (Or.inr (Or.inr (Or.inr (Or.inr h)))))
    have HKA:=hdd (jQ (i:=n.a) (by omega));have HKB:=hdd (jQ (i:=n.b) (by omega));have HKX:=hdd (iY (i:=x) (by have:=HLN.out;omega));have HCO:Hid (∀w',Calls Tryz.prog 302 #[.agg #[.int .i64 n.kind,.float .f64 n.val,.int .i64 n.a,.int .i64 n.b],.agg #[.float .f64 la,.float .f64 ha],.agg #[.float .f64 lb,.float .f64 hb]] w' (RetG w' (val x))):=hdd fun w'=>zD (n:=n) hvl Ga Gb HNV.out;have EA:=hdd ea;have EB:=hdd eb;clear hop hop2 hval hvl hab va vb Ga Gb ea eb hx hn hxl hlt HDR;go_wp2_with fail
    refine HN.out.mono ?_;rintro e w5⟨rfl,hb5⟩;obtain⟨w6,hw6,z0,z1,z2,z3,y0,y1,y2,y3,w7,hw7,hb7,hs7⟩:=new4 w5 206 (.int .i64 0) (.float .f64 0) (.int .i64 0) (.int .i64 0) (.int .i64 n.kind) (.float .f64 n.val) (.int .i64 n.a) (.int .i64 n.b);obtain⟨x0,x1,x2,x3⟩:=bP hs7;have HM7:=hdd (HM.out.below (aA hb5 hb7) HM.out.lt);have HB57:=hdd (aA hb5 hb7);clear hb5 hb7 hs7 cx;have M1:True:=trivial;go_wp2_with (first
     |(at_lookup
       clear M1;refine aV _ rfl _ _ _ rfl _ _ aJ lV (pW _) _ m rfl HM7.out (.int .i64 n.a) _ rfl HKA.out (.agg #[.float .f64 la,.float .f64 ha]) EA.out ?_)
     |(at_lookup
       refine aV _ rfl _ _ _ rfl _ _ aJ lV (pW _) _ m rfl HM7.out (.int .i64 n.b) _ rfl HKB.out (.agg #[.float .f64 lb,.float .f64 hb]) EB.out ?_))
    refine(HCO.out _).mono ?_;rintro e w8⟨hb8,lo,hi,rfl,hG⟩;unfold gv;obtain⟨m',hu⟩:=kF m (.int .i64 (x:Int)) (some (.agg #[.float .f64 lo,.float .f64 hi]));have HU:=hdd hu;have HG:=hdd hG;have HM8:=hdd (HM7.out.below hb8 HM7.out.lt);have HB8:=hdd (aA HB57.out hb8);clear hu hG hb8 z0 z1 z2 z3 y0 y1 y2 y3 x0 x1 x2 x3 hw6 hw7;go_wp2_with (first
     |(at_mapUpdate
       refine dR _ rfl _ _ _ _ rfl _ _ aJ lV _ m m' rfl HM8.out (.int .i64 (x:Int)) (.agg #[.float .f64 lo,.float .f64 hi]) _ rfl rfl HKX.out HU.out ?_;intro w9 HM9 hgr hsz;have HF9:=hdd ((HF.out.trans (Fr.of_below HB8.out)).trans (Fr.of_grown hgr (fun i e=>(Option.some.inj e).symm)));clear hgr hsz))
    go_roundw
    case rel=>
     refine⟨k+1,by have:=HKL.out;omega,by go_num,HF9,m',HM9,hdd ?_⟩;rw[ba6,HX.out];exact HMG.out.put HG.out HU.out
    case measure=>have:=HKL.out;simp[intOf];omega
  . have hke:k=l.length:=by omega
    subst hke;have HRES:Hid (aj4 w ns val root (.returned (.map (some w.heap.size))) wr):=hdd ⟨HB3.out.trans (HF.out.below HB3.out.size (fun b hb=>by omega)),_,m,l,rfl,bbD _,HM.out,HI.out,by have:=HMG.out;rwa[List.take_length]at this⟩;clear hk hge;go_wp2;go_ret;exact HRES.out
def IntsD(g:Nat)(w:World)(v:Value)(l:List Nat):Prop:=IntsP (fun b=>¬DagB w g b) w v l
theorem IntsD.ds {g:Nat}{w w':World}(h:IntsD g w v l)(hs:DS g w w'):IntsD g w' v l:=by
 obtain⟨b,c,e,h1,h2,h3,h4,h5⟩:=h;exact⟨b,c,e,h1,h2,hs.2 b h4 h3,bbA h4 hs.size,fun k x hx=>hs.cell (h5 k x hx) h3⟩
def fG(kind:Int)(e0:Ex)(es:List Ex):Ex:=es.foldl (opE kind) e0
theorem vF{kind:Int}{es:List Ex}{m:Nat}{e:Ex}(h:es[m]? =some e):fG kind e0 (es.take (m+1))=opE kind (fG kind e0 (es.take m)) e:=by
 have:es.take (m+1)=es.take m++[e]:=by
  rw[ba6,h];rfl
 rw[this];simp[fG]
def FoldSt(P:Ex->Prop)(B N:Nat)(w:World)(g:Nat)(ns:List Nd)(x:Ex)(k:Nat)(wr:World):Prop:=∃ns',St P B N wr g ns'/\ns<+:ns'/\Is ns' x k/\DS g w wr
theorem abQ{P:Ex->Prop}{B N:Nat}{w:World}{g:Nat}{ns:List Nd}{kind:Int}{i0:Nat}{es:List Ex}(hs:St P B N w g ns)(hk:kind=1\/kind=3)(hl:IntsD g w v (i0::l))(hlen:l.length=es.length)(h0:0<l.length)
 (he0:Is ns e0 i0) (hes:∀(m x:Nat) e,l[m]? =some x->es[m]? =some e->Is ns e x) (hP:∀m,m<es.length->P (fG kind e0 (es.take (m+1)))) (hN:N+l.length<=20000):
 Calls Tryz.prog 192 #[.pointer (some ⟨g,0,none⟩),.int .i64 kind,v] w (RetE P B (N+l.length) w g ns idV (fG kind e0 es)):=by
 have HL:=hdd hl;obtain⟨b,c,rfl,hc1,hc2,hn,hbl,hcell⟩:=id hl;have c0:=hcell 0 i0 rfl;have HH:=hdd (zG hs.dag he0.lt);have HS0:Hid (FoldSt P B (N+0) w g ns (fG kind e0 (es.take 0)) i0 w):=hdd ⟨ns,hs,List.prefix_rfl,by simpa[fG]using he0,DS.refl g w⟩;have HES:=hdd hes;have HPP:=hdd hP;have HLE:=hdd hlen;simp only[ba7]at hc1|-;have hcap:(l.length:Int)+1<=(c:Int):=by omega
 have hc2':(c:Int)<=9223372036854775807:=by unfold maxLen at hc2;omega
 have hl20:(l.length:Int)<=20000:=by omega
 have hl1:(1:Int)<=(l.length:Int):=by omega
 have HCN:Hid (1<c):=hdd (by omega);have hcn:¬(c=1):=by omega
 have HNN:=hdd hN;clear hs hl he0 hes hP hlen hn hbl hcell hc1 hc2;go_enter Tryz.func192,Tryz.ntmps192
 go_wp2_with fail
 refine HH.out.mono ?_;rintro e w2⟨rfl,hw⟩;obtain rfl:=hw;go_wp2_with fail
 go_loopw [7,20] (fun id i wr=>∃m k:Nat,m<=l.length/\i=.int .i64 (m:Int)/\id=.int .i64 (k:Int)/\Hid (FoldSt P B (N+m) w g ns (fG kind e0 (es.take m)) k wr)) (fun _ i _=>((l.length:Int)-intOf i).toNat)
 case atStart=>exact⟨0,i0,ba9 _,rfl,rfl,HS0⟩
 case round=>
  obtain⟨m,k,hm,rfl,rfl,HF⟩:=hrel;rcases ba5 m l.length with hlt|hge
  . obtain⟨x,hx⟩:∃x,l[m]? =some x:=⟨_,ba1 hlt⟩
    obtain⟨y,hy⟩:∃y,es[m]? =some y:=⟨_,ba1 (by have:=HLE.out;omega)⟩;obtain⟨ns1,hs1,hp1,hi1,hd1⟩:=HF.out;have cx:wr.cell? ⟨b,1+m,none⟩=some (.int .i64 (x:Int)):=IntsP.cell (HL.out.ds hd1) (by rw[Nat.add_comm];exact hx);have hIx:Is ns1 y x:=(HES.out m x y hx hy).mono hp1;have hPP:=HPP.out m (by have:=HLE.out;omega);rw[vF hy]at hPP;have hkb:vD kind:=by rcases hk with rfl|rfl<;>simp[vD]
    have HPT:=hdd (nN (n:=⟨kind,0,k,x⟩) hs1.dag (ae0 hkb hi1.lt hIx.lt hs1.dag.len) (by simp) (by have:=hs1.room;have:=HNN.out;omega));have HR:Hid (∀(w':World) (k':Nat) (ns':List Nd),DagP w' g ns'->ns'[k']? =some ⟨kind,0,k,x⟩->(ns'=ns1\/ns'=ns1++[⟨kind,0,k,x⟩])->DS g wr w'->FoldSt P B (N+(m+1)) w g ns (fG kind e0 (es.take (m+1))) k' w'):=
     hdd fun w' k' ns' q1 q2 q3 q4=>by
      obtain⟨k2,ns2,e2,r1,r2,r3,r4⟩:=aj1 (mk:=idV) hs1 hkb hi1 hIx hPP q1 q2 q3 q4;have:k'=k2:=by
       have e3:Value.int .i64 (k':Int)=.int .i64 (k2:Int):=Ending.returned.inj e2;injection e3 with _ e3;omega
      subst this;rw[vF hy];exact⟨ns2,r1,hp1.trans r2,r3,hd1.trans r4⟩
    have hkI:(m:Int)<(l.length:Int):=by omega
    have hk0:(0:Int)<=(m:Int):=by omega
    have HLT:=hdd hlt;clear hx hy hs1 hp1 hi1 hd1 hIx hPP hkb hlt HF;dsimp only at HPT;go_wp2_with fail
    refine HPT.out.mono ?_;rintro e w3⟨k',ns',rfl,q1,q2,q3,q4⟩;have HFN:=hdd (HR.out _ _ _ q1 q2 q3 q4);clear q1 q2 q3 q4 HR HPT cx;go_wp2_with fail
    go_roundw
    case rel=>exact⟨m+1,k',by have:=HLT.out;omega,by go_num,rfl,HFN⟩
    case measure=>have:=HLT.out;simp[intOf];omega
  . have hme:m=l.length:=by omega
    subst hme;have HRES:Hid (RetE P B (N+l.length) w g ns idV (fG kind e0 es) (.returned (.int .i64 (k:Int))) wr):=hdd (by
     obtain⟨ns1,q1,q2,q3,q4⟩:=HF.out;rw[ba8 (by have:=HLE.out;omega)]at q3;exact⟨k,ns1,rfl,q1,q2,q3,q4⟩)
    clear hm hge HF;go_wp2;go_ret;exact HRES.out
theorem aj5{P:Ex->Prop}{B N:Nat}{w:World}{g:Nat}{ns:List Nd}{i0:Nat}{es:List Ex}(hs:St P B N w g ns)(hl:IntsD g w v (i0::l))(hlen:l.length=es.length)(h0:0<l.length)
 (he0:Is ns e0 i0) (hes:∀(m x:Nat) e,l[m]? =some x->es[m]? =some e->Is ns e x) (hP:∀m,m<es.length->P (fG 1 e0 (es.take (m+1)))) (hN:N+l.length<=20000):
 Calls Tryz.prog 143 #[.pointer (some ⟨g,0,none⟩),v] w (RetE P B (N+l.length) w g ns idV (fG 1 e0 es)):=by
 have HF:=hdd (abQ hs (Or.inl rfl) hl hlen h0 he0 hes hP hN);obtain⟨b,c,rfl,hc1,hc2,hn,hbl,hcell⟩:=id hl;simp only[ba7]at*;have hl1:(1:Int)<=(l.length:Int):=by omega
 have hl2:(l.length:Int)<=20000:=by omega
 have hq:((l.length:Int)+1==0)=false:=beq_eq_false_iff_ne.2 (by omega);have hq2:(((l.length+1:Nat):Int)==0)=false:=beq_eq_false_iff_ne.2 (by omega);clear hs hl he0 hes hP hlen hn hbl hcell hc1 hc2 h0 hN;go_enter Tryz.func143,Tryz.ntmps143
 go_wp2_with fail
 refine HF.out.mono ?_;rintro e w2⟨k,ns',rfl,h⟩;have HR:=hdd h;clear h;unfold idV;go_wp2;go_ret;exact⟨k,ns',rfl,HR.out⟩
theorem aj6{P:Ex->Prop}{B N:Nat}{w:World}{g:Nat}{ns:List Nd}{i0:Nat}{es:List Ex}(hs:St P B N w g ns)(hl:IntsD g w v (i0::l))(hlen:l.length=es.length)(h0:0<l.length)
 (he0:Is ns e0 i0) (hes:∀(m x:Nat) e,l[m]? =some x->es[m]? =some e->Is ns e x) (hP:∀m,m<es.length->P (fG 3 e0 (es.take (m+1)))) (hN:N+l.length<=20000):
 Calls Tryz.prog 146 #[.pointer (some ⟨g,0,none⟩),v] w (RetE P B (N+l.length) w g ns idV (fG 3 e0 es)):=by
 have HF:=hdd (abQ hs (Or.inr rfl) hl hlen h0 he0 hes hP hN);obtain⟨b,c,rfl,hc1,hc2,hn,hbl,hcell⟩:=id hl;simp only[ba7]at*;have hl1:(1:Int)<=(l.length:Int):=by omega
 have hl2:(l.length:Int)<=20000:=by omega
 have hq:((l.length:Int)+1==0)=false:=beq_eq_false_iff_ne.2 (by omega);have hq2:(((l.length+1:Nat):Int)==0)=false:=beq_eq_false_iff_ne.2 (by omega);clear hs hl he0 hes hP hlen hn hbl hcell hc1 hc2 h0 hN;go_enter Tryz.func146,Tryz.ntmps146
 go_wp2_with fail
 refine HF.out.mono ?_;rintro e w2⟨k,ns',rfl,h⟩;have HR:=hdd h;clear h;unfold idV;go_wp2;go_ret;exact⟨k,ns',rfl,HR.out⟩
def aj7(P:Ex->Prop)(B:Nat)(w:World)(e:Ending)(w':World):Prop:=∃g,e=.returned (.pointer (some ⟨g,0,none⟩))/\St P B 0 w' g []/\Below w.heap.size w w'/\w.heap.size<=g
theorem amQ{P:Ex->Prop}{B:Nat}{w:World}(hT:Tab w)(htb:6<B)(hB:B<=w.heap.size):
 Calls Tryz.prog 64 #[.bool true] w (aj7 P B w):=by
 obtain⟨w1,hw1,hb1,hs1,b1⟩:=pro1 w (.cells #[.slice none 0 0,.map none] 153);obtain⟨w2,hw2,hb2,hs2,b2⟩:=pro1 w1 (.map #[] 0);have h12:=aA hb1 hb2;have b1':=hbl b1 hb2;obtain⟨c0,c1,f0,f1⟩:=aB b1';have hmm:=@run_makeMap Tryz.prog;have HR:Hid (aj7 P B w (.returned (.pointer (some ⟨w.heap.size,0,none⟩))) (w2.setCell ⟨w.heap.size,1,none⟩ (.map (some w1.heap.size)))):=hdd (by
  have hb3:Below w.heap.size w (w2.setCell ⟨w.heap.size,1,none⟩ (.map (some w1.heap.size))):=h12.setCell nlr _;have g1:=setB b1' (.map (some w1.heap.size));have g2:(w2.setCell ⟨w.heap.size,1,none⟩ (.map (some w1.heap.size))).heap[w1.heap.size]? =some (.map #[] 0):=by
   rw[ba2 _ _ _ _ (by simp;omega)];exact b2
  exact⟨_,rfl,St.made (hT.below hb3) htb (bbC hB hb3.size) g1 g2 (by omega) hB (by omega),hb3,bbD _⟩)
 clear hT htb hB hb1 hb2 b1 b2 b1' h12 hs1 hs2;go_enter Tryz.func64,Tryz.ntmps64
 go_wp2;go_ret;exact HR.out
abbrev numV(g k:Nat):Value:=.agg #[.pointer (some ⟨g,0,none⟩),.int .i64 (k:Int)]
theorem nO{w:World}{g k:Nat}{ns:List Nd}(hd:DagP w g ns)(hk:k<ns.length):Calls Tryz.prog 123 #[.agg #[.pointer (some ⟨g,0,none⟩),.int .i64 (k:Int)]] w (RetV w (.bool true)):=by
 obtain⟨w1,hw1,hb1,hs1,b1⟩:=pro1 w (.cells #[.pointer (some ⟨g,0,none⟩),.int .i64 (k:Int)] 107);obtain⟨c0,c1,-,-⟩:=aB b1;obtain⟨n,hn⟩:∃n,ns[k]? =some n:=⟨_,ba1 hk⟩;have HN:=hdd (abC (hd.below hb1) hn);have HB:=hdd hb1;obtain⟨kind,val,na,nb⟩:=n;unfold iL at HN;have hst:=aU;clear hd hk hn hb1 hs1 b1;go_enter Tryz.func123,Tryz.ntmps123
 go_wp2_with fail
 refine HN.out.mono ?_;rintro e w2⟨rfl,hb2⟩;obtain⟨w3,hw3,z0,z1,z2,z3,y0,y1,y2,y3,w4,hw4,hb4,hs4⟩:=new4 w2 206 (.int .i64 0) (.float .f64 0) (.int .i64 0) (.int .i64 0) (.int .i64 kind) (.float .f64 val) (.int .i64 na) (.int .i64 nb);have HB4:=hdd (aA (aA HB.out hb2) hb4);clear hb2 hb4 hs4;go_wp2;go_ret;exact⟨rfl,HB4.out⟩
theorem amR:Tryz.prog.underlying 99=some (.pointer 153):=by kernel_rfl
theorem aj8:(Tryz.prog.info? 153).map (·.size)=some 2:=by kernel_rfl
theorem amS(a:Addr)(w:World):(binOp .neq 99 (.pointer (some a)) (.pointer (some a))).run Tryz.prog w=.ok (.bool false) w:=by
 cases h:Tryz.prog.info? 153 with
 |none=>have:=aj8;rw[h]at this;simp at this
 |some j=>exact Go.Lib.run_neq_ptr_same w a amR h
def NumsP(w:World)(v:Value)(g:Nat)(l:List Nat):Prop:=
 ∃b c,v=.slice (some ⟨b,0,none⟩) l.length c/\l.length<=1000/\∀(i x:Nat),l[i]? =some x->w.cell? ⟨b,i*2,none⟩=some (.pointer (some ⟨g,0,none⟩))/\w.cell? ⟨b,i*2+1,none⟩=some (.int .i64 (x:Int))
theorem NumsP.below {w w':World}{g:Nat}(h:NumsP w v g l)(hb:Below w.heap.size w w'):NumsP w' v g l:=by
 obtain⟨b,c,e,h1,h2⟩:=h;exact⟨b,c,e,h1,fun i x hx=>⟨cell_below (h2 i x hx).1 hb nlr,cell_below (h2 i x hx).2 hb nlr⟩⟩
theorem NumsP.at {w:World}{g:Nat}(h:NumsP w (.slice (some ⟨b,0,none⟩) n c) g l){x:Nat}(hx:l[i]? =some x):w.cell? ⟨b,i*2,none⟩=some (.pointer (some ⟨g,0,none⟩))/\w.cell? ⟨b,i*2+1,none⟩=some (.int .i64 (x:Int)):=by
 obtain⟨b',c',e,h1,h2⟩:=h;injection e with e;cases e
 exact h2 i x hx
theorem vG{w:World}{g k:Nat}{ns:List Nd}(hd:DagP w g ns)(hk:k<ns.length)(hl:NumsP w v g l)(hll:∀x∈l,x<ns.length):
 Calls Tryz.prog 91 #[.agg #[.pointer (some ⟨g,0,none⟩),.int .i64 (k:Int)],v] w (RetV w (.bool true)):=by
 obtain⟨w1,hw1,hb1,hs1,b1⟩:=pro1 w (.cells #[.pointer (some ⟨g,0,none⟩),.int .i64 (k:Int)] 107);obtain⟨c0,c1,-,-⟩:=aB b1;have HV:=hdd (nO (hd.below hb1) hk);have HD:=hdd hd;have HLL:=hdd hll;have HNP:=hdd hl;have HB:=hdd hb1;obtain⟨b,c,rfl,hl1,-⟩:=id hl;have hlI:(l.length:Int)<=1000:=by omega
 have hnq:=amS ⟨g,0,none⟩;clear hd hk hl hll hb1 hs1 b1 hl1;go_enter Tryz.func91,Tryz.ntmps91
 go_wp2_with fail
 refine HV.out.mono ?_;rintro e w2⟨rfl,hb2⟩;have HB2:=hdd (aA HB.out hb2);replace c0:=cbl c0 hb2;replace c1:=cbl c1 hb2;clear hb2;go_wp2_with fail
 go_loopw [12] (fun i wr=>∃m:Nat,m<=l.length/\i=.int .i64 (m:Int)/\Hid (Below w2.heap.size w2 wr)) (fun i _=>((l.length:Int)-intOf i).toNat)
 case atStart=>exact⟨0,ba9 _,rfl,hdd (bbE _ _)⟩
 case round=>
  obtain⟨m,hm,rfl,HF⟩:=hrel;rcases ba5 m l.length with hlt|hge
  . obtain⟨x,hx⟩:∃x,l[m]? =some x:=⟨_,ba1 hlt⟩
    have hbr:=HB2.out.trans (HF.out.mono HB2.out.size);obtain⟨x0,x1⟩:=(HNP.out.below hbr).at hx;obtain⟨w3,hw3,hb3,hs3,b3⟩:=pro1 wr (.cells #[.pointer none,.int .i64 0] 107);obtain⟨p0,p1,pf0,pf1⟩:=aB b3;have g1:=set2 b3 (.pointer (some ⟨g,0,none⟩)) (.int .i64 (x:Int));obtain⟨w4,hw4⟩:∃w4,(w3.setCell ⟨wr.heap.size,0,none⟩ (.pointer (some ⟨g,0,none⟩))).setCell ⟨wr.heap.size,1,none⟩ (.int .i64 (x:Int))=w4:=⟨_,rfl⟩;have hb4:Below wr.heap.size wr w4:=by rw[<-hw4];exact(hb3.setCell nlr _).setCell nlr _
    rw[hw4]at g1;obtain⟨y0,y1,-,-⟩:=aB g1;have e0:=cell_below (cbl c0 HF.out) hb4 nlr;have e1:=cell_below (cbl c1 HF.out) hb4 nlr;have HVX:=hdd (nO (HD.out.below (hbr.trans (hb4.mono hbr.size))) (HLL.out x (ba3 hx)));have HF4:=hdd (aA HF.out hb4);have hkI:(m:Int)<(l.length:Int):=by omega
    have hk0:(0:Int)<=(m:Int):=by omega
    have HLT:=hdd hlt;clear hx hbr hb3 hs3 b3 g1 hb4 hlt;go_wp2_with fail
    refine HVX.out.mono ?_;rintro e w5⟨rfl,hb5⟩;have HF5:=hdd (aA HF4.out hb5);clear hb5;go_wp2_with fail
    go_roundw
    case rel=>exact⟨m+1,by have:=HLT.out;omega,by go_num,HF5⟩
    case measure=>have:=HLT.out;simp[intOf];omega
  . have hme:m=l.length:=by omega
    subst hme;have HR:=hdd (HB2.out.trans (HF.out.mono HB2.out.size));clear hm hge HF;go_wp2;go_ret;exact⟨rfl,HR.out⟩
theorem aj9{w:World}(h:w.ownsRow base 3 1 v l.length (bE l))(hl:0<l.length):IntsP (fun b=>base<=b) w v l:=by
 rcases id h.2 with ⟨rfl,hn⟩|⟨r,cap,cur,rfl,hr,hh,hcap,hmax,hsz,hcur⟩
 . omega
 . refine⟨r,cap,rfl,hcap,hmax,hr,aD hh,fun k x hx=> ?_⟩
   have hk:=(ba4.1 hx).1;rw[h.cellAt k (by omega)];simp[bE,hx]
def zK(w:World)(l:List Nat)(e:Ending)(w':World):Prop:=Below w.heap.size w w'/\∃v,e=.returned v/\IntsP (fun b=>w.heap.size<=b) w' v l
theorem abR(l:List Nat)(x:Nat):bE l++[.int .i64 (x:Int)]=bE (l++[x]):=by simp[bE]
theorem ae1{w:World}{g k:Nat}(hl:NumsP w v g l):
 Calls Tryz.prog 144 #[.agg #[.pointer (some ⟨g,0,none⟩),.int .i64 (k:Int)],v] w (zK w (k::l)):=by
 obtain⟨w1,hw1,hb1,hs1,b1⟩:=pro1 w (.cells #[.pointer (some ⟨g,0,none⟩),.int .i64 (k:Int)] 107);obtain⟨c0,c1,-,-⟩:=aB b1;obtain⟨b,c,rfl,hl1,-⟩:=id hl;have hlI:(l.length:Int)<=1000:=by omega
 obtain⟨i0,hi0,hz0,hz1,hz2⟩:=info_parts pM;obtain⟨w2,hrun,hown,hgr⟩:=run_make_own (P:=Tryz.prog) w1 w1.heap.size 25 3 i0 (.int .i64 0) 1 kK hi0 hz0 hz1 .i64 .i64 (l.length+1) (by rw[hz2];omega) (by unfold maxLen;omega) nlr;have hb2:Below w1.heap.size w1 w2:=⟨hgr.os,hgr.tape,hgr.output,hgr.size,fun b hb=>hgr.block b hb (by simp)⟩;have hrun':(Instr.makeSlice 25 (.int .i64 0) (.int .i64 ((l.length:Int)+1))).run Tryz.prog w1=.ok (.slice (some ⟨w1.heap.size,0,none⟩) 0 (l.length+1)) w2:=by simpa using hrun
 obtain⟨w3,hw3,hb3,hs3,b3⟩:=pro1 w2 (.cells #[.int .i64 (k:Int)] 3);replace c0:=cbl c0 hb2;replace c1:=cbl c1 hb2;have HNP:=hdd hl;have HB1:=hdd hb1;have HB3:=hdd (aA hb2 hb3);have HO3:=hdd (hown.kept (aH (row:=none) hb3) (Or.inr (by simp[Value.ownBlock])));have HC3:=hdd (dM b3);have HI0:=hdd hi0;have HZ0:=hdd hz0;have HZ1:=hdd hz1;have HZ2:=hdd hz2;have d0:=cbl c0 hb3;have d1:=cbl c1 hb3;have HL1:=hdd hl1;have HS3:Hid (w1.heap.size<=w3.heap.size):=hdd (aA hb2 hb3).size;clear hl hb1 hs1 b1 hl1 hi0 hz0 hz1 hz2 hrun hown hgr hb2 hb3 hs3 b3;go_enter Tryz.func144,Tryz.ntmps144
 go_wp2_with (first
  |(at_builtin
    go_loud (
    refine wpList_append_lies _ rfl _ _ 25 rfl w1.heap.size 3 i0 (.int .i64 0) 1 8 kK HI0.out HZ0.out HZ1.out HZ2.out rfl (by decide) _ 0 [] rfl HO3.out ⟨w2.heap.size,0,none⟩ 1 1 [.int .i64 (k:Int)] rfl rfl HC3.out (by simp[Value.oneCell']) (by decide) (by unfold maxLen;omega) (by omega) HS3.out w3.heap.size rfl ?_;intro r cap w4 hown4 hgrow4 hat4 hlt4;have HO4:=hdd hown4;have HG4:=hdd hgrow4;clear hown4 hgrow4 hat4 hlt4)))
 have HR4:Hid (w4.ownsRow w1.heap.size 3 1 (.slice (some ⟨r,0,none⟩) 1 cap) 1 (bE [k])/\Below w1.heap.size w1 w4):=hdd ⟨by simpa[bE]using HO4.out,HB3.out.trans (Below.of_grown HG4.out HS3.out (by simp[Value.ownBlock]at*))⟩;clear hw3 hw1 hrun' c0 c1 d0 d1
 go_loopw [5,19] (fun v i wr=>∃m r cap:Nat,m<=l.length/\i=.int .i64 (m:Int)/\v=.slice (some ⟨r,0,none⟩) (m+1) cap/\Hid (wr.ownsRow w1.heap.size 3 1 (.slice (some ⟨r,0,none⟩) (m+1) cap) (m+1) (bE (k::l.take m))/\Below w1.heap.size w1 wr)) (fun _ i _=>((l.length:Int)-intOf i).toNat)
 case atStart=>exact⟨0,r,cap,ba9 _,rfl,rfl,by simpa using HR4⟩
 case round=>
  obtain⟨m,r1,cap1,hm,rfl,rfl,HF⟩:=hrel;rcases ba5 m l.length with hlt|hge
  . obtain⟨x,hx⟩:∃x,l[m]? =some x:=⟨_,ba1 hlt⟩
    obtain⟨hown,hbl⟩:=HF.out;have hbr:=HB1.out.trans (hbl.mono HB1.out.size);obtain⟨x0,x1⟩:=(HNP.out.below hbr).at hx;obtain⟨w5,hw5,hb5,hs5,b5⟩:=pro1 wr (.cells #[.pointer none,.int .i64 0] 107);obtain⟨p0,p1,pf0,pf1⟩:=aB b5;have g1:=set2 b5 (.pointer (some ⟨g,0,none⟩)) (.int .i64 (x:Int));obtain⟨w6,hw6⟩:∃w6,(w5.setCell ⟨wr.heap.size,0,none⟩ (.pointer (some ⟨g,0,none⟩))).setCell ⟨wr.heap.size,1,none⟩ (.int .i64 (x:Int))=w6:=⟨_,rfl⟩;have hb6:Below wr.heap.size wr w6:=by rw[<-hw6];exact(hb5.setCell nlr _).setCell nlr _
    rw[hw6]at g1;obtain⟨y0,y1,-,-⟩:=aB g1;obtain⟨w7,hw7,hb7,hs7,b7⟩:=pro1 w6 (.cells #[.int .i64 (x:Int)] 3);have h7:=aA hb6 hb7;have HO7:=hdd (hown.kept (aH (row:=none) h7) (Or.inr (by simp[Value.ownBlock])));have HC7:=hdd (dM b7);have HB7:=hdd (hbl.trans (h7.mono hbl.size));have HSZ:Hid (w1.heap.size<=w7.heap.size):=hdd HB7.out.size;have hkI:(m:Int)<(l.length:Int):=by omega
    have hk0:(0:Int)<=(m:Int):=by omega
    have HLT:=hdd hlt;have HTK:Hid (l.take (m+1)=l.take m++[x]):=hdd (by rw[ba6,hx];rfl);have HRB:=hdd (hown.lt r1 rfl).1;clear hx hbr hb5 hs5 b5 g1 hb6 hb7 hs7 b7 h7 hown hbl hlt HF;go_wp2_with (first
    |(at_builtin
      go_loud (
      refine wpList_append_lies _ rfl _ _ 25 rfl w1.heap.size 3 i0 (.int .i64 0) 1 8 kK HI0.out HZ0.out HZ1.out HZ2.out rfl (by decide) _ (m+1) (bE (k::l.take m)) rfl HO7.out ⟨w6.heap.size,0,none⟩ 1 1 [.int .i64 (x:Int)] rfl rfl HC7.out (by simp[Value.oneCell']) (by decide) (by have:=HL1.out;unfold maxLen;omega) (by have:=HL1.out;omega) HSZ.out w7.heap.size rfl ?_;intro r2 cap2 w8 hown8 hgrow8 hat8 hlt8;have HF8:Hid (w8.ownsRow w1.heap.size 3 1 (.slice (some ⟨r2,0,none⟩) (m+1+1) cap2) (m+1+1) (bE (k::l.take (m+1)))/\Below w1.heap.size w1 w8):=hdd ⟨by rw[HTK.out,<-List.cons_append,<-abR];exact hown8,HB7.out.trans (Below.of_grown hgrow8 HSZ.out HRB.out)⟩;clear hown8 hgrow8 hat8 hlt8)))
    go_roundw
    case rel=>exact⟨m+1,r2,cap2,by have:=HLT.out;omega,by go_num,rfl,HF8⟩
    case measure=>have:=HLT.out;simp[intOf];omega
  . have hme:m=l.length:=by omega
    subst hme;have HRES:Hid (zK w (k::l) (.returned (.slice (some ⟨r1,0,none⟩) (l.length+1) cap1)) wr):=hdd (by
     obtain⟨hown,hbl⟩:=HF.out;refine⟨HB1.out.trans (hbl.mono HB1.out.size),_,rfl,?_⟩;rw[ba8 nlr]at hown;obtain⟨b',c',q1,q2,q3,q4,q5⟩:=aj9 (l:=k::l) hown (by simp);exact⟨b',c',q1,q2,q3,bbC HB1.out.size q4,q5⟩)
    clear hm hge HF;go_wp2;go_ret;exact HRES.out
section
variable{P:Ex->Prop}{B N:Nat}{w w' w'':World}{g k:Nat}{ns ns':List Nd}{x:Ex}
theorem St.away (hs:St P B N w g ns)(hb:Below w.heap.size w w')(h:w.heap.size<=b):¬DagB w' g b:=fun hd=>by
 have:=hs.dag.dagB ((DagB.congr (hb.block g hs.dag.glt)).1 hd);omega
theorem lW{w:World}{e:TypeId}{size:Nat}{xs:List Value}(h:w.ownsRow base e size v n xs)(hb:v.ownBlock≠some b)(u:Value):(w.setCell ⟨b,i,none⟩ u).ownsRow base e size v n xs:=by
 refine h.kept (grownBy_set (grownBy_refl w (some b)) u) ?_;exact Or.inr hb
theorem DagP.setCell (h:DagP w g ns)(hn:¬DagB w g b)(u:Value):DagP (w.setCell ⟨b,i,none⟩ u) g ns:=by
 rcases h with h|⟨v,h1,h2,h3⟩
 . obtain⟨A,c,mb,m,ho⟩:=h.opened
   obtain⟨q1,q2,q3⟩:=ho.dagB hn;obtain⟨h1,h2,h3,h4⟩:=ho;exact(show DagO _ g ns A c mb m from⟨(ba2 w _ u g (by simpa using Ne.symm q1)).trans h1,lW h2 q3 u,h3.keep (ba2 w _ u mb (by simpa using Ne.symm q2)),h4⟩).dag
 . exact Or.inr ⟨v,(ba2 w _ u g (by simpa using fun e=>hn (Or.inl e.symm))).trans h1,lW h2 (fun e=>hn (Or.inr ⟨_,_,_,h1,Or.inl e⟩)) u,h3⟩
theorem vH(hn:¬DagB w g b)(u:Value):DagB (w.setCell ⟨b,i,none⟩ u) g c↔DagB w g c:=
 DagB.congr (ba2 w _ u g (fun e=>hn (Or.inl (by simpa using e.symm))))
theorem DS.setCell (h:DS g w w')(hb:w.heap.size<=b)(hn:¬DagB w' g b)(u:Value):DS g w (w'.setCell ⟨b,i,none⟩ u):=
 ⟨⟨h.1.os,h.1.tape,h.1.output,by simpa[World.setCell]using h.1.size,fun c hc hd=>(ba2 w' _ u c (by simp;omega)).trans (h.1.block c hc hd)⟩,fun c hc hd hd'=>h.2 c hc hd ((vH hn u).1 hd')⟩
theorem FoldSt.setCell (h:FoldSt P B N w g ns x k w')(hb:w.heap.size<=b)(hn:¬DagB w' g b)(hB:B<=b)(u:Value):FoldSt P B N w g ns x k (w'.setCell ⟨b,i,none⟩ u):=by
 obtain⟨ns',h1,h2,h3,h4⟩:=h;refine⟨ns',⟨h1.dag.setCell hn u,h1.all,fun c hc=>h1.hi c ((vH hn u).1 hc),h1.tab.step (ba2 w' _ u _ (by have:=h1.tb;simp;omega)),h1.tb,by simpa[World.setCell]using h1.hB,h1.room⟩,h2,h3,h4.setCell hb hn u⟩
theorem FoldSt.ret (h:FoldSt P B N w g ns x k w')(mk:Nat->Value):RetE P B N w g ns mk x (.returned (mk k)) w':=by
 obtain⟨ns',h1,h2,h3,h4⟩:=h;exact⟨k,ns',rfl,h1,h2,h3,h4⟩
theorem FoldSt.ahead (h:FoldSt P B N w g ns x k w')(hg:g<w0.heap.size)(hb:Below w0.heap.size w0 w):FoldSt P B N w0 g ns x k w':=by
 obtain⟨ns',h1,h2,h3,h4⟩:=h;exact⟨ns',h1,h2,h3,(DS.of_below hg hb).trans h4⟩
theorem FoldSt.set2 (h:FoldSt P B N w g ns x k w')(hs:St P B 0 w0 g []\/True)(hg:g<w0.heap.size)(hb0:Below w0.heap.size w0 w)(hb:w0.heap.size<=b)(hn:¬DagB w g b)(hlt:b<w.heap.size)(hB:B<=b)(u v:Value):
 FoldSt P B N w0 g ns x k ((w'.setCell ⟨b,0,none⟩ u).setCell ⟨b,1,none⟩ v):=by
 have h0:=h.ahead hg hb0;have hn':¬DagB w' g b:=by
  obtain⟨ns',h1,h2,h3,h4⟩:=h;exact h4.2 b hlt hn
 exact(h0.setCell hb hn' hB u).setCell hb (fun hd=>hn' ((vH hn' u).1 hd)) hB v
end
end Go.Proofs.YtigoiiekebccnaaGreatDoor
