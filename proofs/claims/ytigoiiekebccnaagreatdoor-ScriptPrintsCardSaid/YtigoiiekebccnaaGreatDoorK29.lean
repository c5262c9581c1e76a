/- A part of the proof: contracts of functions and plain laws (WalkF, WalkG, NearB, NearC, NrC). -/
import Derived.Test.YtigoiiekebccnaaGreatDoorK17
import Derived.Test.YtigoiiekebccnaaGreatDoorK22
import Derived.Test.YtigoiiekebccnaaGreatDoorK28
set_option linter.unusedVariables false
set_option linter.unusedSimpArgs false
set_option linter.unnecessarySimpa false
set_option maxHeartbeats 25600000
set_option maxRecDepth 100000
namespace Go.Proofs.YtigoiiekebccnaaGreatDoor
open Go.RowKit Go.Maps
open List renaming getElem?_eq_some_iff->bgV,count_append->bgW,mem_of_getElem?->bgX,getElem?_eq_getElem->bgY,take_add_one->bgZ,count_eq_zero->bg0,length_take->bg1,count_le_length->bg2,mem_cons->bg3,take_length->bg4,mem_append->bg5,count->bg6
open Option.some renaming inj->bgU
variable{P:Int}{l:List Nat}{ns:List Nd}{k o x:Nat}{bl:Nat->Bl}{cnt:Nat->Nat}{bal:Nat->Option Bl}{S p:Nat->Prop}{n:Nd}{v:Value}{m m' mB mB' mL:Value->Option Value}{w w':World}
def opsOf(ns:List Nd)(x:Nat):List Int:=match ns[x]? with|some n=>opsN n|none=>[]
def cntL(ns:List Nd)(xs:List Nat)(i:Nat):Nat:=(xs.flatMap (opsOf ns)).count (i:Int)
theorem acD(h:ns[x]? =some n):opsOf ns x=opsN n:=by unfold opsOf;rw[h]
theorem acE(ns:List Nd)(xs ys:List Nat)(i:Nat):cntL ns (xs++ys) i=cntL ns xs i+cntL ns ys i:=by
 unfold cntL;rw[List.flatMap_append,bgW]
theorem acF(ns:List Nd)(x i:Nat):cntL ns [x] i=(opsOf ns x).count (i:Int):=by unfold cntL;simp
theorem ahL(ok:OkNs ns){xs:List Nat}{i:Nat}(h:∀x∈xs,x<=i):cntL ns xs i=0:=by
 unfold cntL;rw[bg0];intro hm;obtain⟨x,hx,ho⟩:=List.mem_flatMap.1 hm;unfold opsOf at ho
 cases hn:ns[x]? with
 |none=>rw[hn]at ho;cases ho
 |some n=>
  rw[hn]at ho;have:=((ok x n hn).2 _ ho).2;have:=h x hx;omega
theorem zZ(ns:List Nd)(xs:List Nat)(i:Nat):cntL ns xs i<=2*xs.length:=by
 unfold cntL;refine Nat.le_trans bg2 ?_
 induction xs with
 |nil=>simp
 |cons x xs ih=>
  have:(opsOf ns x).length<=2:=by
   unfold opsOf;split
   . exact tJ _
   . simp
  simp at ih|-;omega
theorem anA(hs:l.Pairwise (· < ·))(hx:l[k]? =some x):(∀y∈l.take k,y<x)/\x∉l.take k:=by
 have h1:∀y∈l.take k,y<x:=fun y hy=>by
  obtain⟨j,hj⟩:=List.getElem?_of_mem hy;have hjl:=(bgV.1 hj).1;have hjk:j<k:=by rw[bg1]at hjl;omega
  rw[List.getElem?_take_of_lt hjk]at hj;obtain⟨j1,j2⟩:=bgV.1 hj;obtain⟨k1,k2⟩:=bgV.1 hx;have:=(List.pairwise_iff_getElem.1 hs) j k j1 k1 hjk;omega
 exact⟨h1,fun h=>by have:=h1 x h;omega⟩
def MU(ns:List Nd)(m:Value->Option Value)(done:List Nat)(ex:List Int)(base:List Nat):Prop:=
 ∀i:Nat,m (.int .i64 (i:Int))=if i∈done then some (.int .i64 ((cntL ns base i+ex.count (i:Int):Nat):Int))else none
theorem MU.enter (ok:OkNs ns)(hs:l.Pairwise (· < ·))(hx:l[k]? =some x)(h:MU ns m (l.take k) [] (l.take k))(hu:Upd m (.int .i64 (x:Int)) (some (.int .i64 0)) m'):MU ns m' (l.take (k+1)) [] (l.take k):=by
 obtain⟨h1,h2⟩:=anA hs hx;have ht:l.take (k+1)=l.take k++[x]:=by rw[bgZ,hx];rfl
 intro i;by_cases hi:i=x
 . subst hi
   rw[hu.1,ht,if_pos (by simp),ahL ok (fun y hy=>Nat.le_of_lt (h1 y hy))];rfl
 . rw[hu.2 _ (fun e=>hi (by injection e with _ e;omega)),h i,ht]
   by_cases hm:i∈l.take k
   . rw[if_pos hm,if_pos (by simp[hm])]
   . rw[if_neg hm,if_neg (by simp[hm,hi])]
theorem MU.inc {done base:List Nat}{ex:List Int}(h:MU ns m done ex base)(ho:o∈done)(hu:Upd m (.int .i64 (o:Int)) (some (.int .i64 ((cntL ns base o+ex.count (o:Int):Nat)+1:Int))) m'):MU ns m' done (ex++[(o:Int)]) base:=by
 intro i;rw[bgW];by_cases hi:i=o
 . subst hi
   rw[hu.1,if_pos ho];simp;omega
 . rw[hu.2 _ (fun e=>hi (by injection e with _ e;omega)),h i]
   have:bg6 (i:Int) [(o:Int)]=0:=by rw[bg0];simp;omega
   rw[this];rfl
theorem MU.fold (hx:l[k]? =some x)(hn:ns[x]? =some n)(h:MU ns m (l.take (k+1)) (opsN n) (l.take k)):MU ns m (l.take (k+1)) [] (l.take (k+1)):=by
 have ht:l.take (k+1)=l.take k++[x]:=by rw[bgZ,hx];rfl
 intro i;rw[h i]
 conv=>rhs;rw[ht,acE,acF,acD hn]
 rw[ht];simp
theorem mM{root:Nat}(h:IsB ns root l)(hn:ns.length<=20000):l.length<=20000:=
 Nat.le_trans (qX ns.length l (h.srt.imp fun{a b} h=>by omega) h.lt) hn
theorem acG{B b:Nat}{o:Obj}(h:w.heap[b]? =some o)(hf:Fr (fun i=>i=B) w w')(hb:B<b):w'.heap[b]? =some o:=
 (hf.block b (aD h) (by omega)).trans h
def afG(w:World)(ns:List Nd)(root:Nat)(e:Ending)(w':World):Prop:=
 Below w.heap.size w w'/\∃mb m l,e=.returned (.map (some mb))/\w.heap.size<=mb/\MapP Tryz.prog 3 w' mb m/\IsB ns root l/\MU ns m l [] l
theorem ak9{g root:Nat}(hd:DagP w g ns)(ok:OkNs ns)(hr:root<ns.length):
 Calls Tryz.prog 308 #[.pointer (some ⟨g,0,none⟩),.int .i64 (root:Int)] w (afG w ns root):=by
 obtain⟨w1,hw1,hb1,hs1,b1⟩:=pro1 w (.map #[] 0);obtain⟨w2,hw2,hb2,hs2,b2⟩:=pro1 w1 (.cells #[.int .i64 (root:Int)] 3);have HDW:=hdd hd;have HD2:=hdd ((hd.below hb1).below hb2);have HBE:=hdd (jC HD2.out ok hr b2);rw[hs1]at HBE;have HM2:=hdd (MapP.made (P:=Tryz.prog) (k:=3) (es:=#[]) (hbl b1 hb2));have HB2:=hdd (aA hb1 hb2);have HSZ2:Hid (w2.heap.size=w.heap.size+2):=hdd (by rw[hs2,hs1]);have HOK:=hdd ok;have HLN:=hdd hd.len;clear hd ok hr hb1 hb2 b1 b2 hs2;have hmm:=@run_makeMap Tryz.prog;go_enter Tryz.func308,Tryz.ntmps308
 go_wp2_with fail
 refine HBE.out.mono ?_;rintro e w3⟨hb3,v3,l,rfl,hl,hI⟩;obtain⟨bl,cl,rfl,hlc,hcm,-⟩:=id hl;have HL:=hdd hl;have HI:=hdd hI;have HB3:=hdd (HB2.out.trans (hb3.mono HB2.out.size));have HM3:=hdd (HM2.out.below hb3 HM2.out.lt);have HLL:=hdd (mM hI HLN.out);clear hb3 hl hI HBE hcm hlc hw1 hw2;go_wp2_with fail
 go_loopw [22] (fun i wr=>∃k:Nat,k<=l.length/\i=.int .i64 (k:Int)/\Hid (Fr (fun b=>b=w.heap.size) w3 wr)/\∃m,Hid (MapP Tryz.prog 3 wr w.heap.size m)/\Hid (MU ns m (l.take k) [] (l.take k))) (fun i _=>((l.length:Int)-intOf i).toNat)
 case atStart=>exact⟨0,Nat.zero_le _,rfl,hdd (Fr.of_below (Below.refl _ _)),_,HM3,hdd (fun i=>by simp)⟩
 case round=>
  obtain⟨k,hk,rfl,HF,m,HM,HMU⟩:=hrel;rcases Nat.lt_or_ge k l.length with hlt|hge
  . obtain⟨x,hx⟩:∃x,l[k]? =some x:=⟨_,bgY hlt⟩
    have hxl:x<ns.length:=HI.out.lt x (bgX hx);obtain⟨n,hn⟩:∃n,ns[x]? =some n:=⟨_,bgY hxl⟩;have HBR:Hid (Below w.heap.size w wr):=hdd (HB3.out.trans (HF.out.below HB3.out.size (fun b hb=>by omega)));have cx:=(HL.out.fr HF.out (fun b hb=>by have:=HSZ2.out;omega)).cell hx;have hkI:(k:Int)<(l.length:Int):=by omega
    have hk0:(0:Int)<=(k:Int):=by omega
    have hlI:(l.length:Int)<=20000:=by have:=HLL.out;omega
    have HX:=hdd hx;have HNN:=hdd hn;have HXL:=hdd hxl;have HKL:=hdd hlt;have HKX:=hdd (iY (i:=x) (by have:=HLN.out;omega));obtain⟨m1,hu⟩:=kF m (.int .i64 (x:Int)) (some (.int .i64 0));have HU:=hdd hu;have HMU1:=hdd (HMU.out.enter HOK.out HI.out.srt hx hu);have HGL:Hid (w.heap.size<wr.heap.size):=hdd (by have:=HF.out.size;have:=HM3.out.lt;omega);clear hx hn hxl hlt hu;go_wp2_with (first
     |(at_mapUpdate
       refine dR _ rfl _ _ _ _ rfl _ _ aJ bU _ m m1 rfl HM.out (.int .i64 (x:Int)) (.int .i64 0) _ rfl rfl HKX.out HU.out ?_;intro w4 HM4 hgr hsz;have HF4:=hdd (HF.out.trans (Fr.of_grown hgr (fun i e=>(bgU e).symm)));have HB4:=hdd (HB3.out.trans (HF4.out.below HB3.out.size (fun b hb=>by omega)));have HN:=hdd (eP (HDW.out.below HB4.out) HNN.out);clear hgr hsz cx))
    refine HN.out.mono ?_;rintro e w5⟨rfl,hb5⟩;have hst:=aU;obtain⟨w6,hw6,z0,z1,z2,z3,y0,y1,y2,y3,w7,hw7,hb7,hs7⟩:=new4 w5 206 (.int .i64 0) (.float .f64 0) (.int .i64 0) (.int .i64 0) (.int .i64 n.kind) (.float .f64 n.val) (.int .i64 n.a) (.int .i64 n.b);obtain⟨x0,x1,x2,x3⟩:=bP hs7;have HB47:=hdd (aA hb5 hb7);have HPA:Hid (Calls Tryz.prog 295 #[.agg #[.int .i64 n.kind,.float .f64 n.val,.int .i64 n.a,.int .i64 n.b]] w7 (fun e w'=>e=.returned (.tuple #[.agg #[.int .i64 (ops2 n).1,.int .i64 (ops2 n).2],.int .i64 ((opsN n).length:Nat)])/\Below w7.heap.size w7 w')):=hdd (xY (n:=n));clear hb5 hb7 hs7;go_wp2_with fail
    refine HPA.out.mono ?_;rintro e w10⟨rfl,hb10⟩;obtain⟨w11,hw11,p0,p1,r0,r1,w12,hw12,hb12,hs12⟩:=new2 w10 276 (.int .i64 0) (.int .i64 0) (.int .i64 (ops2 n).1) (.int .i64 (ops2 n).2);have HB12:=hdd (aA (aA HB47.out hb10) hb12);have HS12:=hdd hs12;have HM12:=hdd (HM4.out.below HB12.out HM4.out.lt);have HF12:=hdd (HF4.out.trans (Fr.of_below HB12.out));have hcnt:(0:Int)<=((opsN n).length:Int):=by omega
    have hcnt2:((opsN n).length:Int)<=2:=by have:=tJ n;omega
    have HW10:Hid (w.heap.size<w10.heap.size):=hdd (by have:=HB47.out.size;have:=hb10.size;have:=HF4.out.size;have:=HM3.out.lt;omega);clear hb10 hb12 hs12 z0 z1 z2 z3 y0 y1 y2 y3 hw6 hw7 x0 x1 x2 x3;go_wp2_with fail
    go_loopw [42] (fun j wr=>∃jn:Nat,jn<=(opsN n).length/\j=.int .i64 (jn:Int)/\Hid (Fr (fun b=>b=w.heap.size) w12 wr)/\∃m,Hid (MapP Tryz.prog 3 wr w.heap.size m)/\Hid (MU ns m (l.take (k+1)) ((opsN n).take jn) (l.take k))) (fun j _=>(((opsN n).length:Int)-intOf j).toNat)
    case atStart=>exact⟨0,Nat.zero_le _,rfl,hdd (Fr.of_below (Below.refl _ _)),m1,HM12,HMU1⟩
    case round=>
     obtain⟨jn,hjn,rfl,HFj,mj,HMj,HMUj⟩:=hrel;rcases Nat.lt_or_ge jn (opsN n).length with hlt|hge
     . obtain⟨o,ho⟩:∃o,(opsN n)[jn]? =some o:=⟨_,bgY hlt⟩
       have hop:=(HOK.out x n HNN.out).2 o (bgX ho);obtain⟨y,hy,e9⟩:=HI.out.cl x (bgX HX.out) n HNN.out o (bgX ho);have hyt:y∈l.take k:=lU HI.out.srt HX.out hy (by omega);have hyt1:y∈l.take (k+1):=by rw[bgZ];exact bg5.2 (Or.inl hyt)
       have co:=abN (acG HS12.out HFj.out HW10.out) ho;rw[<-e9]at co;have hmy:=HMUj.out y;rw[if_pos hyt1]at hmy;obtain⟨c,hc⟩:∃c,c=cntL ns (l.take k) y+((opsN n).take jn).count (y:Int):=⟨_,rfl⟩;rw[<-hc]at hmy;have hmv:(mj (.int .i64 (y:Int))).getD (.int .i64 0)=.int .i64 (c:Int):=by rw[hmy];rfl
       have hcle:c<=100000:=by
        have h1:=zZ ns (l.take k) y;have h2:((opsN n).take jn).count (y:Int)<=2:=Nat.le_trans bg2 (by rw[bg1];have:=tJ n;omega);rw[bg1]at h1;have:=HLL.out;omega
       obtain⟨mj2,hu⟩:=kF mj (.int .i64 (y:Int)) (some (.int .i64 ((c:Int)+1)));have hu':=hu;rw[hc]at hu';have HMU2:=hdd (HMUj.out.inc hyt1 hu');have HU2:=hdd hu;have HKY:=hdd (iY (i:=y) (by have:=HI.out.lt y hy;have:=HLN.out;omega));have hcI:(0:Int)<=(c:Int)/\(c:Int)<=100000:=by omega
       have hjI:(jn:Int)<((opsN n).length:Int):=by omega
       have hj0:(0:Int)<=(jn:Int):=by omega
       have hE:(opsN n).take (jn+1)=(opsN n).take jn++[(y:Int)]:=by rw[bgZ,ho,e9];rfl
       have HE:=hdd hE;have HMV:=hdd hmv;have HJ:=hdd hlt;clear hop hy hyt hyt1 e9 hmy hc hmv hcle hu hu' ho hE hlt;go_wp2_with (first
        |(at_lookup
          refine aV _ rfl _ _ _ rfl _ _ aJ bU (dW _) _ mj rfl HMj.out (.int .i64 (y:Int)) _ rfl HKY.out (.int .i64 (c:Int)) HMV.out ?_)
        |(at_mapUpdate
          refine dR _ rfl _ _ _ _ rfl _ _ aJ bU _ mj mj2 rfl HMj.out (.int .i64 (y:Int)) (.int .i64 ((c:Int)+1)) _ rfl rfl HKY.out HU2.out ?_;intro w14 HM14 hgr hsz;have HF14:=hdd (HFj.out.trans (Fr.of_grown hgr (fun i e=>(bgU e).symm)));clear hgr hsz))
       go_roundw
       case rel=>exact⟨jn+1,by have:=HJ.out;omega,by go_num,HF14,mj2,HM14,by rw[HE.out];exact HMU2⟩
       case measure=>have:=HJ.out;simp[intOf];omega
     . have hje:jn=(opsN n).length:=by omega
       subst hje;rw[bg4]at HMUj;have HMU3:=hdd (HMUj.out.fold HX.out HNN.out);have HFF:=hdd (HF12.out.trans HFj.out);clear hge hjn;go_wp2
       go_roundw
       case rel=>exact⟨k+1,by have:=HKL.out;omega,by go_num,HFF,mj,HMj,HMU3⟩
       case measure=>have:=HKL.out;simp[intOf];omega
  . have hke:k=l.length:=by omega
    subst hke;rw[bg4]at HMU;have HRES:Hid (afG w ns root (.returned (.map (some w.heap.size))) wr):=hdd ⟨HB3.out.trans (HF.out.below HB3.out.size (fun b hb=>by omega)),_,m,l,rfl,Nat.le_refl _,HM.out,HI.out,HMU.out⟩;clear hk hge;go_wp2;go_ret;exact HRES.out
theorem IntP.fr {z:Int}(h:IntP p w v z)(hf:Fr S w w')(hn:∀b,p b->¬S b):IntP p w' v z:=by
 obtain⟨vm,xs,h1,h2,h3,h4⟩:=h;exact⟨vm,xs,h1,h2.keep hf.size (fun b hp hlt=>hf.block b hlt (hn b hp)),h3,h4⟩
theorem kN:Tryz.prog.underlying 342=some (.map 3 235):=by kernel_rfl
theorem rG(w:World):(zeroValue 235).run Tryz.prog w=.ok (.agg #[.bool false,.slice none 0 0,.int .i64 0,.bool false,.slice none 0 0,.int .i64 0]) w:=by kernel_rfl
def qK(w:World)(bL bB:Nat)(mL mB:Value->Option Value)(o c:Nat)(e:Ending)(w':World):Prop:=
 e=.returned (.tuple #[])/\Fr (fun b=>b=bL\/b=bB) w w'/\∃mL' mB',MapP Tryz.prog 3 w' bL mL'/\MapP Tryz.prog 3 w' bB mB'/\Upd mL (.int .i64 (o:Int)) (some (.int .i64 (c:Int))) mL'/\(if c=0 then Upd mB (.int .i64 (o:Int)) none mB' else mB'=mB)
theorem wN{bL bB c:Nat}(hL:MapP Tryz.prog 3 w bL mL)(hB:MapP Tryz.prog 3 w bB mB)(hne:bL≠bB)(hc:mL (.int .i64 (o:Int))=some (.int .i64 ((c:Int)+1)))(ho:o<=1000000)(hcl:c<=1000000):
 Calls Tryz.prog 311 #[.map (some bB),.map (some bL),.int .i64 (o:Int)] w (qK w bL bB mL mB o c):=by
 obtain⟨mL',hu⟩:=kF mL (.int .i64 (o:Int)) (some (.int .i64 (c:Int)));obtain⟨mB',hv⟩:=kF mB (.int .i64 (o:Int)) none;have HL:=hdd hL;have HBB:=hdd hB;have HU:=hdd hu;have HV:=hdd hv;have HNE:=hdd hne;have HK:=hdd (iY ho);have HG:Hid ((mL (.int .i64 (o:Int))).getD (.int .i64 0)=.int .i64 ((c:Int)+1)):=hdd (by rw[hc];rfl);have HG2:Hid ((mL' (.int .i64 (o:Int))).getD (.int .i64 0)=.int .i64 (c:Int)):=hdd (by rw[hu.1];rfl);have hcI:(0:Int)<=(c:Int)/\(c:Int)<=1000000:=by omega
 have hsub:(c:Int)+1-1=(c:Int):=by omega
 clear hL hB hu hv hne hc ho hcl;by_cases h0:c=0
 . subst h0
   have M1:True:=trivial;go_enter Tryz.func311,Tryz.ntmps311
   go_wp2_with (first
    |(at_lookup
      clear M1;refine aV _ rfl _ _ _ rfl _ _ aJ bU (dW _) _ mL rfl HL.out (.int .i64 (o:Int)) _ rfl HK.out (.int .i64 (((0:Nat):Int)+1)) HG.out ?_)
    |(at_mapUpdate
      refine dR _ rfl _ _ _ _ rfl _ _ aJ bU _ mL mL' rfl HL.out (.int .i64 (o:Int)) (.int .i64 ((0:Nat):Int)) _ rfl rfl HK.out HU.out ?_;intro w1 HM1 hgr hsz;have HB1:=hdd (HBB.out.keep (hgr.block bB HBB.out.lt (fun e=>HNE.out (bgU e).symm)));have HF1:Hid (Fr (fun b=>b=bL\/b=bB) w w1):=hdd (Fr.of_grown hgr (fun i e=>Or.inl (bgU e).symm));clear hgr hsz)
    |(at_lookup
      refine aV _ rfl _ _ _ rfl _ _ aJ bU (dW _) _ mL' rfl HM1.out (.int .i64 (o:Int)) _ rfl HK.out (.int .i64 ((0:Nat):Int)) HG2.out ?_)
    |(at_delete
      refine abB _ rfl _ _ _ _ rfl _ aJ kN _ mB mB' rfl HB1.out (.int .i64 (o:Int)) _ rfl HK.out HV.out ?_;intro w2 HM2 hgr hsz;have HL2:=hdd (HM1.out.keep (hgr.block bL HM1.out.lt (fun e=>HNE.out (bgU e))));have HF2:Hid (Fr (fun b=>b=bL\/b=bB) w w2):=hdd (HF1.out.trans (Fr.of_grown hgr (fun i e=>Or.inr (bgU e).symm)));clear hgr hsz))
   go_end0
   exact⟨rfl,HF2.out,mL',mB',HL2.out,HM2.out,HU.out,by rw[if_pos rfl];exact HV.out⟩
 . have hz:((c:Int)==0)=false:=beq_eq_false_iff_ne.2 (by omega)
   have H0:=hdd h0;have M1:True:=trivial;clear h0;go_enter Tryz.func311,Tryz.ntmps311
   go_wp2_with (first
    |(at_lookup
      clear M1;refine aV _ rfl _ _ _ rfl _ _ aJ bU (dW _) _ mL rfl HL.out (.int .i64 (o:Int)) _ rfl HK.out (.int .i64 ((c:Int)+1)) HG.out ?_)
    |(at_mapUpdate
      refine dR _ rfl _ _ _ _ rfl _ _ aJ bU _ mL mL' rfl HL.out (.int .i64 (o:Int)) (.int .i64 (c:Int)) _ rfl rfl HK.out HU.out ?_;intro w1 HM1 hgr hsz;have HB1:=hdd (HBB.out.keep (hgr.block bB HBB.out.lt (fun e=>HNE.out (bgU e).symm)));have HF1:Hid (Fr (fun b=>b=bL\/b=bB) w w1):=hdd (Fr.of_grown hgr (fun i e=>Or.inl (bgU e).symm));clear hgr hsz)
    |(at_lookup
      refine aV _ rfl _ _ _ rfl _ _ aJ bU (dW _) _ mL' rfl HM1.out (.int .i64 (o:Int)) _ rfl HK.out (.int .i64 (c:Int)) HG2.out ?_))
   go_end0
   exact⟨rfl,HF1.out,mL',mB,HM1.out,HB1.out,HU.out,by rw[if_neg H0.out]⟩
def LB(l:List Nat)(mL:Value->Option Value)(cnt:Nat->Nat)(ex:List Int):Prop:=∀i∈l,mL (.int .i64 ((i:Nat):Int))=some (.int .i64 ((cnt i+ex.count (i:Int):Nat):Int))
theorem LB.drop {mL':Value->Option Value}{ex:List Int}(h:LB l mL cnt (ex++[(o:Int)]))(hu:Upd mL (.int .i64 (o:Int)) (some (.int .i64 ((cnt o+ex.count (o:Int):Nat):Int))) mL'):LB l mL' cnt ex:=by
 intro i hi;by_cases h1:i=o
 . subst h1;exact hu.1
 . rw[hu.2 _ (fun e=>h1 (by injection e with _ e;omega)),h i hi,bgW]
   have:bg6 (i:Int) [(o:Int)]=0:=by rw[bg0];simp;omega
   rw[this];rfl
theorem LB.at {ex:List Int}(h:LB l mL cnt (ex++[(o:Int)]))(ho:o∈l):mL (.int .i64 (o:Int))=some (.int .i64 (((cnt o+ex.count (o:Int):Nat):Int)+1)):=by
 rw[h o ho,bgW];have:bg6 (o:Int) [(o:Int)]=1:=by simp
 rw[this]
 congr 2
theorem ahM(hx:l[k]? =some x):l.drop k=x::l.drop (k+1):=by
 obtain⟨h1,h2⟩:=bgV.1 hx;rw[List.drop_eq_getElem_cons h1,h2]
theorem wO(hx:l[k]? =some x)(hn:ns[x]? =some n)(i:Nat):cntL ns (l.drop k) i=cntL ns (l.drop (k+1)) i+(opsN n).count (i:Int):=by
 rw[ahM hx,show x::l.drop (k+1)=[x]++l.drop (k+1) from rfl,acE,acF,acD hn];omega
theorem LB.open (hx:l[k]? =some x)(hn:ns[x]? =some n)(h:LB l mL (cntL ns (l.drop k)) []):LB l mL (cntL ns (l.drop (k+1))) (opsN n):=by
 intro i hi;rw[h i hi,wO hx hn];rfl
theorem new6(w:World)(T:TypeId)(z0 z1 z2 z3 z4 z5 a b c d e f:Value):∃w1,w.alloc (.cells #[z0,z1,z2,z3,z4,z5] T)=w1/\(w1.cell? ⟨w.heap.size,0,none⟩=some z0/\w1.cell? ⟨w.heap.size,1,none⟩=some z1/\w1.cell? ⟨w.heap.size,2,none⟩=some z2/\w1.cell? ⟨w.heap.size,3,none⟩=some z3/\w1.cell? ⟨w.heap.size,4,none⟩=some z4/\w1.cell? ⟨w.heap.size,5,none⟩=some z5)/\
 (w1.frozen? ⟨w.heap.size,0,none⟩=false/\w1.frozen? ⟨w.heap.size,1,none⟩=false/\w1.frozen? ⟨w.heap.size,2,none⟩=false/\w1.frozen? ⟨w.heap.size,3,none⟩=false/\w1.frozen? ⟨w.heap.size,4,none⟩=false/\w1.frozen? ⟨w.heap.size,5,none⟩=false)/\
 ∃w2,(((((w1.setCell ⟨w.heap.size,0,none⟩ a).setCell ⟨w.heap.size,1,none⟩ b).setCell ⟨w.heap.size,2,none⟩ c).setCell ⟨w.heap.size,3,none⟩ d).setCell ⟨w.heap.size,4,none⟩ e).setCell ⟨w.heap.size,5,none⟩ f=w2/\Below w.heap.size w w2/\w2.heap[w.heap.size]? =some (.cells #[a,b,c,d,e,f] T (0,0)):=by
 obtain⟨w1,h,hb,hs,b1⟩:=pro1 w (.cells #[z0,z1,z2,z3,z4,z5] T);exact⟨w1,h,aG b1,fV b1,_,rfl,eZ hb nlr a b c d e f,iD b1 a b c d e f⟩
theorem BlP.fr {d:Bl}(h:BlP p w v d)(hf:Fr S w w')(hn:∀b,p b->¬S b):BlP p w' v d:=by
 obtain⟨b,A,n,c,b',A',n',c',e,h1,h2⟩:=h;exact⟨b,A,n,c,b',A',n',c',e,h1.fr hf hn,h2.fr hf hn⟩
def FitD(d:Dy):Prop:=SmQ d/\(-4194304<=topD d/\topD d<=4194304)
theorem acH{d:Dy}(hx:DyP p w v d)(hs:FitD d):Calls Tryz.prog 310 #[v] w (RetW w true):=by
 obtain⟨b,A,n,c,rfl,h⟩:=hx;obtain⟨w1,hw1,hb1,hs1,b1⟩:=pro1 w (.cells #[Value.bool b,.slice A n c,.int .i64 d.exp] 233);have HB:=hdd hb1;obtain⟨c0,c1,c2,-,-,-⟩:=cells3 b1;have D1:Hid (DyP p w1 (.agg #[.bool b,.slice A n c,.int .i64 d.exp]) d):=hdd ⟨_,_,_,_,rfl,h.below hb1⟩;have HTB:=hdd hs.2;have HSM:=hdd hs;clear h hb1 b1 hs1 hs;go_enter Tryz.func310,Tryz.ntmps310
 go_wp2_with fail
 refine(cO D1.out).mono ?_;rintro r w3⟨rfl,hb⟩;replace c0:=cbl c0 hb;replace c1:=cbl c1 hb;replace c2:=cbl c2 hb;replace D1:=hdd (D1.out.below hb);replace HB:=hdd (HB.out.trans (hb.mono HB.out.size));clear hb hw1;by_cases hz:d.man=0
 . have hs:(d.man.sign==0)=true:=by rw[hz];rfl
   have HF:Hid (RetW w true (.returned (.bool true)) w3):=hdd ⟨rfl,HB.out⟩;clear hz;go_wp2;go_ret;exact HF.out
 . have hs:(d.man.sign==0)=false:=beq_eq_false_iff_ne.2 (fun h=>hz (Int.sign_eq_zero_iff_zero.1 h))
   clear hz;go_wp2_with fail
   refine(qD D1.out (by have:=HSM.out.1.2;omega)).mono ?_;rintro r w4⟨rfl,hb⟩;have h1:(-4194304:Int)<=topD d:=by have:=HTB.out;omega
   have h2:topD d<=(4194304:Int):=by have:=HTB.out;omega
   have HF:Hid (RetW w true (.returned (.bool true)) w4):=hdd ⟨rfl,HB.out.trans (hb.mono HB.out.size)⟩;generalize topD d=T at*;clear hb;go_wp2;go_ret;exact HF.out
def BC(p:Nat->Prop)(w:World)(bl:Nat->Bl)(root:Nat)(done:List Nat)(mB:Value->Option Value)(cnt:Nat->Nat)(ex:List Int):Prop:=
 (∀i∈done,(0<cnt i+ex.count ((i:Nat):Int)\/i=root)->∃v,mB (.int .i64 (i:Int))=some v/\BlP p w v (bl i))/\∀key v,mB key=some v->SixB v
theorem BC.drop {root:Nat}{done:List Nat}{ex:List Int}(h:BC p w bl root done mB cnt (ex++[(o:Int)]))(hf:Fr S w w')(hS:∀b,p b->¬S b)(hr:o≠root)
 (hu:if cnt o+ex.count (o:Int)=0 then Upd mB (.int .i64 (o:Int)) none mB' else mB'=mB):BC p w' bl root done mB' cnt ex:=by
 refine⟨fun i hi hc=> ?_,fun key v hk=> ?_⟩
 . obtain⟨v,h1,h2⟩:=h.1 i hi (by
    rcases hc with hc|hc
    . left;rw[bgW];omega
    . exact Or.inr hc)
   refine⟨v,?_,h2.fr hf hS⟩
   split at hu
   . rename_i h0
     by_cases e1:i=o
     . subst e1
       rcases hc with hc|hc
       . omega
       . exact absurd hc hr
     . rw[hu.2 _ (fun e=>e1 (by injection e with _ e;omega))];exact h1
   . rw[hu];exact h1
 . split at hu
   . by_cases e1:key=.int .i64 (o:Int)
     . rw[e1,hu.1]at hk;cases hk
     . rw[hu.2 _ e1]at hk;exact h.2 key v hk
   . rw[hu]at hk;exact h.2 key v hk
theorem BC.fr {root:Nat}{done:List Nat}{ex:List Int}(h:BC p w bl root done mB cnt ex)(hf:Fr S w w')(hS:∀b,p b->¬S b):BC p w' bl root done mB cnt ex:=
 ⟨fun i hi hc=>by obtain⟨v,h1,h2⟩:=h.1 i hi hc;exact⟨v,h1,h2.fr hf hS⟩,h.2⟩
theorem BC.put {root:Nat}{done:List Nat}{ex:List Int}(h:BC p w bl root done mB cnt ex)(hv:BlP p w v (bl x))(hu:Upd mB (.int .i64 (x:Int)) (some v) mB'):BC p w bl root (done++[x]) mB' cnt ex:=by
 refine⟨fun i hi hc=> ?_,fun key u hk=> ?_⟩
 . by_cases e1:i=x
   . subst e1;exact⟨v,hu.1,hv⟩
   . rw[hu.2 _ (fun e=>e1 (by injection e with _ e;omega))]
     rcases bg5.1 hi with hi|hi
     . exact h.1 i hi hc
     . simp at hi;exact absurd hi e1
 . by_cases e1:key=.int .i64 (x:Int)
   . rw[e1,hu.1]at hk;cases hk;exact hv.six
   . rw[hu.2 _ e1]at hk;exact h.2 key u hk
theorem BC.open {root:Nat}{done:List Nat}(hx:l[k]? =some x)(hn:ns[x]? =some n)(h:BC p w bl root done mB (cntL ns (l.drop k)) []):BC p w bl root done mB (cntL ns (l.drop (k+1))) (opsN n):=by
 refine⟨fun i hi hc=>h.1 i hi ?_,h.2⟩;rw[wO hx hn];simpa using hc
def acI(n:Nd)(oa ob:Option Bl)(P:Int):Option Bl:=
 if n.kind=0 then some (atB (aX n.val))else if n.kind=5 then oa.bind fun x=>nX n x x P else oa.bind fun x=>ob.bind fun y=>nX n x y P
structure GB(ns:List Nd)(S:Nat->Prop)(bal:Nat->Option Bl)(P:Int):Prop where
 cl:ClS ns S
 step:∀(i:Nat) n,S i->ns[i]? =some n->bal i=acI n (bal n.a.toNat) (bal n.b.toNat) P
 ok:∀(i:Nat) b,S i->bal i=some b->Okb b/\FitD b.lo/\FitD b.hi
 leaf:∀(i:Nat) n,S i->ns[i]? =some n->n.kind=0->n.val<18446744073709551616/\fin n.val/\SmD (aX n.val)
 root:∀(i:Nat) n,S i->ns[i]? =some n->n.kind=5->∀b,bal n.a.toNat=some b->0<=b.hi.man
theorem ad2{oa ob:Option Bl}{r:Bl}(h:acI n oa ob P=some r)(h0:n.kind≠0):(∃x,oa=some x)/\(n.kind≠5->∃y,ob=some y):=by
 unfold acI at h;rw[if_neg h0]at h
 split at h
 . rename_i h5
   cases oa with
   |none=>cases h
   |some x=>exact⟨⟨x,rfl⟩,fun h'=>absurd h5 h'⟩
 . cases oa with
   |none=>cases h
   |some x=>cases ob with
    |none=>cases h
    |some y=>exact⟨⟨x,rfl⟩,fun _=>⟨y,rfl⟩⟩
theorem GB.all (h:GB ns S bal P){root:Nat}(hI:IsB ns root l)(hS:S root){b:Bl}(hb:bal root=some b):∀x∈l,∃b,bal x=some b:=by
 have hc:ClS ns (fun x=>S x/\∃b,bal x=some b):=by
  intro x n ⟨hs,r,hr⟩ hn o ho;refine⟨h.cl x n hs hn o ho,?_⟩;rw[h.step x n hs hn]at hr;by_cases h0:n.kind=0
  . unfold opsN at ho;rw[if_pos h0]at ho;cases ho
  . obtain⟨h1,h2⟩:=ad2 hr h0
    unfold opsN at ho;rw[if_neg h0]at ho;by_cases h5:n.kind=5
    . rw[if_pos h5]at ho
      rcases bg3.1 ho with rfl|ho
      . exact h1
      . cases ho
    . rw[if_neg h5]at ho
      rcases bg3.1 ho with rfl|ho
      . exact h1
      . rcases bg3.1 ho with rfl|ho
        . exact h2 h5
        . cases ho
 exact fun x hx=>(hI.mn _ hc ⟨hS,b,hb⟩ x hx).2
theorem GB.inS (h:GB ns S bal P){root:Nat}(hI:IsB ns root l)(hS:S root):∀x∈l,S x:=hI.mn S h.cl hS
end Go.Proofs.YtigoiiekebccnaaGreatDoor
