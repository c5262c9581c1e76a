/- A part of the proof: contracts of functions and plain laws (BdB, BdC, BdD, BdE, TrD). -/
import Derived.Test.YtebocijmegkfgaaGreatDoorK27
set_option linter.unusedVariables false
set_option linter.unusedSimpArgs false
set_option maxHeartbeats 25600000
set_option maxRecDepth 100000
namespace Go.Proofs.YtebocijmegkfgaaGreatDoor
section
open Go.RowKit Go.Maps
open List renaming getElem?_eq_getElem->ayU,mem_of_getElem?->ayV,take_add_one->ayW,take_length->ayX,mem_append->ayY
variable{l:List Nat}{ns:List Nd}{g:Nat}{ul:Nat->Nat×Nat}{S:Nat->Prop}{m:Value->Option Value}{w:World}
theorem jL:Tryz.prog.underlying 245=some (.map 3 243):=by kernel_rfl
theorem mV(w:World):(zeroValue 243).run Tryz.prog w=.ok (.agg #[.int .i64 0,.int .i64 0,.bool false]) w:=by kernel_rfl
theorem new3(w:World)(T:TypeId)(z0 z1 z2 a b c:Value):∃w1,w.alloc (.cells #[z0,z1,z2] T)=w1/\(w1.cell? ⟨w.heap.size,0,none⟩=some z0/\w1.cell? ⟨w.heap.size,1,none⟩=some z1/\w1.cell? ⟨w.heap.size,2,none⟩=some z2/\
 w1.frozen? ⟨w.heap.size,0,none⟩=false/\w1.frozen? ⟨w.heap.size,1,none⟩=false/\w1.frozen? ⟨w.heap.size,2,none⟩=false)/\
 ∃w2,((w1.setCell ⟨w.heap.size,0,none⟩ a).setCell ⟨w.heap.size,1,none⟩ b).setCell ⟨w.heap.size,2,none⟩ c=w2/\Below w.heap.size w w2/\w2.heap[w.heap.size]? =some (.cells #[a,b,c] T (0,0)):=by
 obtain⟨w1,h,hb,hs,b1⟩:=pro1 w (.cells #[z0,z1,z2] T);have g1:=hb.setCell (p:=⟨w.heap.size,0,none⟩) nlr a;have g2:=g1.setCell (p:=⟨w.heap.size,1,none⟩) nlr b;have g3:=g2.setCell (p:=⟨w.heap.size,2,none⟩) nlr c;exact⟨w1,h,cells3 b1,_,rfl,g3,set3 b1 a b c⟩
structure UE(ns:List Nd)(S:Nat->Prop)(ul:Nat->Nat×Nat):Prop where
 cl:ClS ns S
 step:∀(i:Nat) n,S i->ns[i]? =some n->ul i=uN n (ul n.a.toNat) (ul n.b.toNat)
 bd:∀i,S i->(ul i).1<=1000000/\(ul i).2<=1000000
 leaf:∀(i:Nat) n,S i->ns[i]? =some n->n.kind=0->n.val<18446744073709551616/\fin n.val/\Sz 53 1100 (leafD n.val)
def eV(ul:Nat×Nat):Value:=.agg #[.int .i64 (ul.1:Int),.int .i64 (ul.2:Int),.bool true]
def MX(ul:Nat->Nat×Nat)(m:Value->Option Value)(done:List Nat):Prop:=
 (∀i∈done,m (.int .i64 ((i:Nat):Int))=some (eV (ul i))/\(ul i).1<=1000000/\(ul i).2<=1000000)/\∀i:Nat,i∉done->m (.int .i64 (i:Int))=none
theorem MX.get {done:List Nat}(h:MX ul m done)(i:Nat):∃u l t,(m (.int .i64 (i:Int))).getD (.agg #[.int .i64 0,.int .i64 0,.bool false])=.agg #[.int .i64 u,.int .i64 l,.bool t]/\(0<=u/\u<=1000000)/\(0<=l/\l<=1000000)/\(i∈done->t=true/\u=((ul i).1:Int)/\l=((ul i).2:Int)):=by
 by_cases hi:i∈done
 . obtain⟨e,g1,g2⟩:=h.1 i hi
   exact⟨_,_,true,by rw[e];rfl,by omega,by omega,fun _=>⟨rfl,rfl,rfl⟩⟩
 . exact⟨0,0,false,by rw[h.2 i hi];rfl,by omega,by omega,fun h'=>absurd h' hi⟩
theorem MX.put {m':Value->Option Value}{done:List Nat}{i:Nat}(h:MX ul m done)(hb:(ul i).1<=1000000/\(ul i).2<=1000000)(hu:Upd m (.int .i64 (i:Int)) (some (eV (ul i))) m'):MX ul m' (done++[i]):=by
 refine⟨fun j hj=> ?_,fun j hj=> ?_⟩
 . by_cases hji:j=i
   . subst hji;exact⟨hu.1,hb⟩
   . rw[hu.2 _ (fun e=>hji (by injection e with _ e;omega))]
     rcases ayY.1 hj with h1|h1
     . exact h.1 j h1
     . simp at h1;exact absurd h1 hji
 . have h1:j≠i:=fun e=>hj (by rw[e];simp)
   rw[hu.2 _ (fun e=>h1 (by injection e with _ e;omega))];exact h.2 j (fun h'=>hj (ayY.2 (Or.inl h')))
def agQ(w:World)(ul:Nat×Nat)(root:Nat)(e:Ending)(w':World):Prop:=
 Below w.heap.size w w'/\∃mb m,e=.returned (.map (some mb))/\MapP Tryz.prog 3 w' mb m/\m (.int .i64 (root:Int))=some (eV ul)
theorem wZ{p:Nat->Prop}{root:Nat}{vl:Value}(hd:DagP w g ns)(ok:OkNs ns)(hlf:gD ns)(hro:gF ns)(hue:UE ns S ul)(hS:S root)(hT:Tab w)(hl:IntsP p w vl l)(hI:IsB ns root l):
 Calls Tryz.prog 172 #[.pointer (some ⟨g,0,none⟩),vl] w (agQ w (ul root) root):=by
 obtain⟨bl,cl,rfl,hlc,hcm,-,hbl,-⟩:=id hl;obtain⟨w1,hw1,hb1,hs1,b1⟩:=pro1 w (.map #[] 0);have HL:=hdd (hl.below hb1);have HOK:=hdd ok;have HUE:=hdd hue;have HSR:=hdd hS;have HRO:=hdd hro;have HDW:=hdd hd;have HLEAF:=hdd hlf;have HT:=hdd hT;have HI:=hdd hI;have HLN:=hdd hd.len;have HB1:=hdd hb1;have HM1:=hdd (MapP.made (P:=Tryz.prog) (k:=3) (es:=#[]) b1);have HBL:=hdd hbl;have HS1:=hdd hs1;have HLL:=hdd (lI hI hd.len);clear hd ok hue hS hro hlf hT hl hI hb1 b1 hs1 hlc hcm hbl;have hmm:=@run_makeMap Tryz.prog;have hst:=aS;go_enter Tryz.func172,Tryz.ntmps172
 go_wp2_with fail
 go_loopw [14] (fun i wr=>∃k:Nat,k<=l.length/\i=.int .i64 (k:Int)/\Hid (Fr (fun b=>b=w.heap.size) w1 wr)/\∃m,Hid (MapP Tryz.prog 3 wr w.heap.size m)/\Hid (MX ul m (l.take k))) (fun i _=>((l.length:Int)-intOf i).toNat)
 case atStart=>exact⟨0,Nat.zero_le _,rfl,hdd (Fr.of_below (Below.refl _ _)),_,HM1,hdd ⟨by simp,by simp⟩⟩
 case round=>
  obtain⟨k,hk,rfl,HF,m,HM,HME⟩:=hrel;have HBR:Hid (Below w.heap.size w wr):=hdd (HB1.out.trans (HF.out.below HB1.out.size (fun b hb=>by omega)));rcases Nat.lt_or_ge k l.length with hlt|hge
  . obtain⟨x,hx⟩:∃x,l[k]? =some x:=⟨_,ayU hlt⟩
    have hxl:x<ns.length:=HI.out.lt x (ayV hx);obtain⟨n,hn⟩:∃n,ns[x]? =some n:=⟨_,ayU hxl⟩;have HDR:=hdd (HDW.out.below HBR.out);have cx:wr.cell? ⟨bl,k,none⟩=some (.int .i64 (x:Int)):=(World.cell?_of_block (HF.out.block bl (by have:=HBL.out;have:=HB1.out.size;omega) (by have:=HBL.out;omega))).trans (HL.out.cell hx);have HN:=hdd (eF HDR.out hn);have hkI:(k:Int)<(l.length:Int):=by omega
    have hk0:(0:Int)<=(k:Int):=by omega
    have hlI:(l.length:Int)<=20000:=by have:=HLL.out;omega
    have HX:=hdd hx;have HNN:=hdd hn;have HXL:=hdd hxl;have HKL:=hdd hlt;have hxl2:=ayV hx;have hSx:S x:=HI.out.mn S HUE.out.cl HSR.out x hxl2;have hkind:n.kind=0\/n.kind=1\/n.kind=2\/n.kind=3\/n.kind=4\/n.kind=5:=by have:=(HOK.out x n hn).1;omega
    obtain⟨hopA,hopB⟩:=abV HOK.out HI.out.srt HI.out.cl hx hn;have hab:(0<=n.a/\n.a<=x)/\(0<=n.b/\n.b<=x):=by
     by_cases h0:n.kind=0
     . obtain⟨h1,h2⟩:=HLEAF.out x n hn h0
       rw[h1,h2];omega
     . obtain⟨-,h3⟩:=hopA h0
       by_cases h5:n.kind=5
       . have:=HRO.out x n hn h5;omega
       . obtain⟨-,h4⟩:=hopB h0 h5
         omega
    have hbx:=HUE.out.bd x hSx;obtain⟨ua,la,ta,ea,ha1,ha2,ha3⟩:=HME.out.get n.a.toNat;obtain⟨ub,lb,tb,eb,hb1,hb2,hb3⟩:=HME.out.get n.b.toNat;rw[show((n.a.toNat:Nat):Int)=n.a from by omega]at ea;rw[show((n.b.toNat:Nat):Int)=n.b from by omega]at eb;have HKX:=hdd (iN (i:=x) (by have:=HLN.out;omega));have HCO:Hid (∀w',Below wr.heap.size wr w'->Calls Tryz.prog 215 #[.agg #[.int .i64 n.kind,.float .f64 n.val,.int .i64 n.a,.int .i64 n.b],.agg #[.int .i64 ua,.int .i64 la,.bool ta],.agg #[.int .i64 ub,.int .i64 lb,.bool tb]] w' (zJ w' (ul x))):=hdd fun w' h=>by
     rw[HUE.out.step x n hSx hn];exact aa1 (n:=n) hkind (fun h0=>HUE.out.leaf x n hSx hn h0) ⟨ua,la,ta,rfl,ha1,ha2,fun h0=>ha3 (hopA h0).1⟩ ⟨ub,lb,tb,rfl,hb1,hb2,fun h0=>hb3 (hopB h0.1 h0.2).1⟩ (HT.out.below (HBR.out.trans (h.mono HBR.out.size)))
    have HEA:=hdd ea;have HEB:=hdd eb;have HCX:=hdd hbx;have HAB:Hid ((0<=n.a/\n.a<=1000000)/\(0<=n.b/\n.b<=1000000)):=hdd (by have:=HLN.out;omega);have HKA:=hdd (jK (i:=n.a) (by have:=HAB.out;omega));have HKB:=hdd (jK (i:=n.b) (by have:=HAB.out;omega));clear hx hn hxl hlt hxl2 hSx hkind ea eb ha1 ha2 hb1 hb2 ha3 hb3 hbx hab hopA hopB HDR;obtain⟨u,hu0⟩:∃u:Int,((ul x).1:Int)=u:=⟨_,rfl⟩;obtain⟨lw,hl0⟩:∃u:Int,((ul x).2:Int)=u:=⟨_,rfl⟩;have HUL:Hid (eV (ul x)=.agg #[.int .i64 u,.int .i64 lw,.bool true]):=hdd (by unfold eV;rw[hu0,hl0]);have hu40:u<=1099511627776:=by have:=HCX.out;omega
    have hl40:lw<=1099511627776:=by have:=HCX.out;omega
    go_wp2_with fail
    refine HN.out.mono ?_;rintro e w5⟨rfl,hb5⟩;obtain⟨w6,hw6,z0,z1,z2,z3,y0,y1,y2,y3,w7,hw7,hb7,hs7⟩:=new4 w5 111 (.int .i64 0) (.float .f64 0) (.int .i64 0) (.int .i64 0) (.int .i64 n.kind) (.float .f64 n.val) (.int .i64 n.a) (.int .i64 n.b);obtain⟨x0,x1,x2,x3⟩:=bM hs7;have HM7:=hdd (HM.out.below (aA hb5 hb7) HM.out.lt);have HB57:=hdd (aA hb5 hb7);have HC7:=hdd (HCO.out w7 (aA hb5 hb7));have M1:True:=trivial;clear hb5 hb7 hs7 cx;go_wp2_with (first
     |(at_lookup
       clear M1;refine aT _ rfl _ _ _ rfl _ _ aK jL (mV _) _ m rfl HM7.out (.int .i64 n.a) _ rfl HKA.out (.agg #[.int .i64 ua,.int .i64 la,.bool ta]) HEA.out ?_)
     |(at_lookup
       refine aT _ rfl _ _ _ rfl _ _ aK jL (mV _) _ m rfl HM7.out (.int .i64 n.b) _ rfl HKB.out (.agg #[.int .i64 ub,.int .i64 lb,.bool tb]) HEB.out ?_))
    refine HC7.out.mono ?_;rintro e w8⟨hb8,rfl⟩;rw[hu0,hl0];clear hu0 hl0;obtain⟨w9,hw9,⟨p0,p1,p2,q0,q1,q2⟩,w10,hw10,hb10,hs10⟩:=new3 w8 243 (.int .i64 0) (.int .i64 0) (.bool false) (.int .i64 u) (.int .i64 lw) (.bool true);obtain⟨r0,r1,r2,-,-,-⟩:=cells3 hs10;have HM10:=hdd ((HM7.out.below hb8 HM7.out.lt).below hb10 (Nat.lt_of_lt_of_le HM7.out.lt hb8.size));have HB10:=hdd (aA (aA HB57.out hb8) hb10);obtain⟨m',hup⟩:=jR m (.int .i64 (x:Int)) (some (.agg #[.int .i64 u,.int .i64 lw,.bool true]));have HU:=hdd hup;clear hup hb8 hb10 hs10 z0 z1 z2 z3 y0 y1 y2 y3 x0 x1 x2 x3 hw6 hw7 HCO HM7 HC7;go_wp2_with (first
     |(at_mapUpdate
       refine dN _ rfl _ _ _ _ rfl _ _ aK jL _ m m' rfl HM10.out (.int .i64 (x:Int)) (.agg #[.int .i64 u,.int .i64 lw,.bool true]) _ rfl rfl HKX.out HU.out ?_;intro w11 HM11 hgr hsz;have HF11:=hdd ((HF.out.trans (Fr.of_below HB10.out)).trans (Fr.of_grown hgr (fun i e=>(Option.some.inj e).symm)));clear hgr hsz))
    go_roundw
    case rel=>
     refine⟨k+1,by have:=HKL.out;omega,by go_num,HF11,m',HM11,hdd ?_⟩;rw[ayW,HX.out];exact HME.out.put HCX.out (by rw[HUL.out];exact HU.out)
    case measure=>have:=HKL.out;simp[intOf];omega
  . have hke:k=l.length:=by omega
    subst hke;obtain⟨h1,h2,h3⟩:=HME.out.1 root (by rw[ayX];exact HI.out.rt);have HRES:Hid (agQ w (ul root) root (.returned (.map (some w.heap.size))) wr):=hdd ⟨HBR.out,_,m,rfl,HM.out,h1⟩;clear h1 h2 h3 hk hge;go_wp2;go_ret;exact HRES.out
def isRt(ns:List Nd)(i:Nat):Bool:=match ns[i]? with|some n=>decide (n.kind=5)|none=>false
def nRt(ns:List Nd)(l:List Nat):Nat:=(l.filter (isRt ns)).length
theorem agR{k x:Nat}{n:Nd}(hx:l[k]? =some x)(hn:ns[x]? =some n):nRt ns (l.take (k+1))=nRt ns (l.take k)+if n.kind=5 then 1 else 0:=by
 unfold nRt;rw[ayW,hx,List.filter_append,List.length_append]
 congr 1
 have:isRt ns x=decide (n.kind=5):=by unfold isRt;rw[hn]
 simp only[Option.toList,List.filter_cons,this,List.filter_nil];by_cases h:n.kind=5
 . simp[h]
 . simp[h]
theorem ajU(ns:List Nd)(l:List Nat)(k:Nat):nRt ns (l.take k)<=l.length:=by
 unfold nRt;refine Nat.le_trans (List.length_filter_le _ _) ?_;rw[List.length_take];omega
theorem aa2{root:Nat}(hd:DagP w g ns)(ok:OkNs ns)(hr:root<ns.length):
 Calls Tryz.prog 173 #[.pointer (some ⟨g,0,none⟩),.int .i64 (root:Int)] w (fun e w'=>∃l,e=.returned (.int .i64 (nRt ns l:Int))/\IsB ns root l/\Below w.heap.size w w'):=by
 obtain⟨w2,hw2,hb2,hs2,b2⟩:=pro1 w (.cells #[.int .i64 (root:Int)] 3);have HDW:=hdd hd;have HD2:=hdd (hd.below hb2);have HBE:=hdd (iR HD2.out ok hr b2);have HB2:=hdd hb2;have HOK:=hdd ok;have HLN:=hdd hd.len;clear hd ok hr hb2 b2 hs2;go_enter Tryz.func173,Tryz.ntmps173
 go_wp2_with fail
 refine HBE.out.mono ?_;rintro e w3⟨hb3,v3,l,rfl,hl,hI⟩;obtain⟨bl,cl,rfl,hlc,hcm,-⟩:=id hl;have HL:=hdd hl;have HI:=hdd hI;have HB3:=hdd (HB2.out.trans (hb3.mono HB2.out.size));have HLL:=hdd (lI hI HLN.out);clear hb3 hl hI HBE hcm hlc hw2;go_wp2_with fail
 go_loopw [15,5] (fun i c wr=>∃k:Nat,k<=l.length/\i=.int .i64 (k:Int)/\c=.int .i64 (nRt ns (l.take k):Int)/\Hid (Below w3.heap.size w3 wr)) (fun i _ _=>((l.length:Int)-intOf i).toNat)
 case atStart=>exact⟨0,Nat.zero_le _,rfl,rfl,hdd (Below.refl _ _)⟩
 case round=>
  obtain⟨k,hk,rfl,rfl,HF⟩:=hrel;have HBR:Hid (Below w.heap.size w wr):=hdd (HB3.out.trans (HF.out.mono HB3.out.size));rcases Nat.lt_or_ge k l.length with hlt|hge
  . obtain⟨x,hx⟩:∃x,l[k]? =some x:=⟨_,ayU hlt⟩
    have hxl:x<ns.length:=HI.out.lt x (ayV hx);obtain⟨n,hn⟩:∃n,ns[x]? =some n:=⟨_,ayU hxl⟩;have cx:=(HL.out.below HF.out).cell hx;have HN:=hdd (eF (HDW.out.below HBR.out) hn);have HST:=hdd (agR hx hn);have hst:=aS;have hkI:(k:Int)<(l.length:Int):=by omega
    have hk0:(0:Int)<=(k:Int):=by omega
    have hlI:(l.length:Int)<=20000:=by have:=HLL.out;omega
    have HKL:=hdd hlt;have hcB:=ajU ns l k;obtain⟨c,hc⟩:∃c:Int,(nRt ns (l.take k):Int)=c:=⟨_,rfl⟩;have HC:=hdd hc;have hcB0:0<=c/\c<=20000:=by omega
    have hcw:IntKind.i64.wrap (c+1)=c+1:=wrap_i64 (by omega);rw[hc];clear hx hn hxl hlt hc hcB;by_cases hk5:n.kind=5
    . go_wp2_with fail
      refine HN.out.mono ?_;rintro e w5⟨rfl,hb5⟩;obtain⟨w6,hw6,z0,z1,z2,z3,y0,y1,y2,y3,w7,hw7,hb7,hs7⟩:=new4 w5 111 (.int .i64 0) (.float .f64 0) (.int .i64 0) (.int .i64 0) (.int .i64 n.kind) (.float .f64 n.val) (.int .i64 n.a) (.int .i64 n.b);obtain⟨x0,x1,x2,x3⟩:=bM hs7;have HF7:=hdd (aA HF.out (aA hb5 hb7));have hkd:(n.kind==5)=true:=by simp[hk5]
      have HK5:=hdd hk5;clear hb5 hb7 hs7 cx hk5;go_wp2_with fail
      go_roundw
      case rel=>exact⟨k+1,by have:=HKL.out;omega,by go_num,by rw[HST.out,if_pos HK5.out];have:=HC.out;go_num,HF7⟩
      case measure=>have:=HKL.out;simp[intOf];omega
    . go_wp2_with fail
      refine HN.out.mono ?_;rintro e w5⟨rfl,hb5⟩;obtain⟨w6,hw6,z0,z1,z2,z3,y0,y1,y2,y3,w7,hw7,hb7,hs7⟩:=new4 w5 111 (.int .i64 0) (.float .f64 0) (.int .i64 0) (.int .i64 0) (.int .i64 n.kind) (.float .f64 n.val) (.int .i64 n.a) (.int .i64 n.b);obtain⟨x0,x1,x2,x3⟩:=bM hs7;have HF7:=hdd (aA HF.out (aA hb5 hb7));have HK5:=hdd hk5;clear hb5 hb7 hs7 cx;go_wp2_with fail
      go_roundw
      case rel=>exact⟨k+1,by have:=HKL.out;omega,by go_num,by rw[HST.out,if_neg HK5.out,<-HC.out];rfl,HF7⟩
      case measure=>have:=HKL.out;simp[intOf];omega
  . have hke:k=l.length:=by omega
    subst hke;rw[ayX];clear hk hge;go_wp2;go_ret;exact⟨l,rfl,HI.out,HBR.out⟩
def ai3(w:World)(ns:List Nd)(ul:Nat×Nat)(root:Nat)(e:Ending)(w':World):Prop:=Below w.heap.size w w'/\∃(u lw k:Int) (l:List Nat),e=.returned (.tuple #[.agg #[.int .i64 u,.int .i64 lw,.int .i64 k],.bool true])/\u=(ul.1:Int)/\lw=(ul.2:Int)/\IsB ns root l/\k=(nRt ns l:Int)
theorem zK{w0 w1:World}{T:TypeId}{a b c:Value}{u lw k:Int}{ul:Nat×Nat}{root:Nat}(hb:Below w0.heap.size w0 w1)(hg:w0.heap.size<=g)(hw:w1.heap[g]? =some (.cells #[a,b,c] T (0,0)))(hu:u=(ul.1:Int))(hl:lw=(ul.2:Int))(hI:IsB ns root l)(hk:k=(nRt ns l:Int)):
 Hid (ai3 w0 ns ul root (.returned (.tuple #[.agg #[.int .i64 u,.int .i64 lw,.int .i64 k],.bool true])) (((w1.setCell ⟨g,0,none⟩ (.int .i64 u)).setCell ⟨g,1,none⟩ (.int .i64 lw)).setCell ⟨g,2,none⟩ (.int .i64 k)))/\
 (((w1.setCell ⟨g,0,none⟩ (.int .i64 u)).setCell ⟨g,1,none⟩ (.int .i64 lw)).setCell ⟨g,2,none⟩ (.int .i64 k)).heap[g]? =some (.cells #[.int .i64 u,.int .i64 lw,.int .i64 k] T (0,0)):=
 ⟨hdd ⟨((hb.setCell hg _).setCell hg _).setCell hg _,u,lw,k,l,rfl,hu,hl,hI,hk⟩,set3 hw _ _ _⟩
theorem xA{root:Nat}(hd:DagP w g ns)(ok:OkNs ns)(hlf:gD ns)(hro:gF ns)(hue:UE ns S ul)(hS:S root)(hT:Tab w)(hr:root<ns.length):
 Calls Tryz.prog 116 #[.pointer (some ⟨g,0,none⟩),.int .i64 (root:Int)] w (ai3 w ns (ul root) root):=by
 obtain⟨w1,hw1,hb1,hs1,b1⟩:=pro1 w (.cells #[.int .i64 0,.int .i64 0,.int .i64 0] 187);obtain⟨w2,hw2,hb2,hs2,b2⟩:=pro1 w1 (.cells #[.int .i64 (root:Int)] 3);have HBE:=hdd (iR ((hd.below hb1).below hb2) ok hr b2);rw[hs1]at HBE;have HB2:=hdd (aA hb1 hb2);have B2:=hdd (hbl b1 hb2);have HEN:Hid (∀w' l vl,Below w.heap.size w w'->IntsP (fun b=>w2.heap.size<=b) w' vl l->IsB ns root l->Calls Tryz.prog 172 #[.pointer (some ⟨g,0,none⟩),vl] w' (agQ w' (ul root) root)):=hdd fun w' l vl hb hl hI=>wZ (hd.below hb) ok hlf hro hue hS (hT.below hb) hl hI;have HRO:Hid (∀w',Below w.heap.size w w'->Calls Tryz.prog 173 #[.pointer (some ⟨g,0,none⟩),.int .i64 (root:Int)] w' (fun e w''=>∃l,e=.returned (.int .i64 (nRt ns l:Int))/\IsB ns root l/\Below w'.heap.size w' w'')):=hdd fun w' hb=>aa2 (hd.below hb) ok hr;have HKX:=hdd (iN (i:=root) (by have:=hd.len;omega));clear hd ok hlf hro hue hS hT hr hb1 hb2 b1 b2 hs2;go_enter Tryz.func116,Tryz.ntmps116
 go_wp2_with fail
 refine HBE.out.mono ?_;rintro e w3⟨hb3,v3,l,rfl,hl,hI⟩;have HB3:=hdd (HB2.out.trans (hb3.mono HB2.out.size));have HE3:=hdd (HEN.out w3 l v3 HB3.out hl hI);have HB23:=hdd hb3;clear hb3 hl hI HBE HEN hw1 hw2;go_wp2_with fail
 refine HE3.out.mono ?_;rintro e w4⟨hb4,mb,m,rfl,hm,hmr⟩;unfold eV at hmr;obtain⟨u,hu⟩:∃u:Int,((ul root).1:Int)=u:=⟨_,rfl⟩;obtain⟨lw,hlw⟩:∃u:Int,((ul root).2:Int)=u:=⟨_,rfl⟩;rw[hu,hlw]at hmr;have HM4:=hdd hm;have HGD:Hid ((m (.int .i64 (root:Int))).getD (.agg #[.int .i64 0,.int .i64 0,.bool false])=.agg #[.int .i64 u,.int .i64 lw,.bool true]):=hdd (by rw[hmr];rfl);have HSM:Hid ((m (.int .i64 (root:Int))).isSome=true):=hdd (by rw[hmr];rfl);obtain⟨w5,hw5,⟨p0,p1,p2,q0,q1,q2⟩,w6,hw6,hb6,hs6⟩:=new3 w4 243 (.int .i64 0) (.int .i64 0) (.bool false) (.int .i64 u) (.int .i64 lw) (.bool true);obtain⟨r0,r1,r2,-,-,-⟩:=cells3 hs6;have HB6:=hdd (HB3.out.trans ((aA hb4 hb6).mono HB3.out.size));have HB26:=hdd (aA HB23.out (aA hb4 hb6));have HUB:=hdd hu;have HLB:=hdd hlw;have HN1:Hid (w.heap.size≠w4.heap.size):=hdd (by have:=aF B2.out;have:=HB23.out.size;have:=hb4.size;omega);clear hb4 hb6 hm hmr hu hlw hs6;go_wp2_with (first
  |(at_lookup
    refine iL _ rfl _ _ _ rfl _ _ aK jL (mV _) _ m rfl HM4.out (.int .i64 (root:Int)) _ rfl HKX.out (.agg #[.int .i64 u,.int .i64 lw,.bool true]) HGD.out true HSM.out ?_))
 have hdr:Below w6.heap.size w6 w6.drew:=(Below.refl _ _).drew;replace r0:=cbl r0 hdr;replace r1:=cbl r1 hdr;replace r2:=cbl r2 hdr;have HB6D:=hdd (HB6.out.trans (hdr.mono HB6.out.size));have HB26D:=hdd (aA HB26.out hdr);have n1:w.heap.size≠w4.heap.size:=HN1.out;clear hdr p0 p1 p2 q0 q1 q2 hw5 hw6
 go_region_held3 (fun w'=>w'.cell? ⟨w4.heap.size,0,none⟩=some (.int .i64 u)/\w'.cell? ⟨w4.heap.size,1,none⟩=some (.int .i64 lw)/\w'.cell? ⟨w4.heap.size,2,none⟩=some (.bool true)) (go_keep)
  (first
  |(go_at_call 173
    refine(HRO.out _ HB6D.out).mono ?_;rintro r w9⟨lr,rfl,hIr,hb9⟩;obtain⟨kr,hkr⟩:∃u:Int,(nRt ns lr:Int)=u:=⟨_,rfl⟩;rw[hkr];have HIR:=hdd hIr;have HKR:=hdd hkr;have r0:=cbl r0 hb9;have r1:=cbl r1 hb9;have r2:=cbl r2 hb9;have HB9:=hdd (aA HB26D.out hb9);have b9:=hbl B2.out HB9.out;obtain⟨e0,e1,e2,e3,e4,e5⟩:=cells3 b9;have HB9N:=hdd b9;clear hb9 b9 hIr hkr))
 all_goals
  obtain⟨HR,hR⟩:=zK (HB2.out.trans (HB9.out.mono HB2.out.size)) nlr HB9N.out HUB.out.symm HLB.out.symm HIR.out HKR.out.symm;have HFF:=hdd hR;clear hR;go_wp2;obtain⟨f0,f1,f2,-,-,-⟩:=cells3 HFF.out;refine bodyPost_ret (v:=.tuple #[.agg #[_,_,_],_]) (by simp[results,Tryz.results116,go_sem,f0,f1,f2];first|exact⟨⟨rfl,rfl,rfl⟩,rfl⟩|rfl) rfl ?_;exact HR.out
def agS(ns:List Nd)(ul:Nat×Nat)(root:Nat):Prop:=∀l,IsB ns root l->max ul.1 ul.2*2^nRt ns l+1<=32768/\nRt ns l<=15
def zL(w:World)(ns:List Nd)(ul:Nat×Nat)(root:Nat)(e:Ending)(w':World):Prop:=Below w.heap.size w w'/\∃(s:Int) (l:List Nat),e=.returned (.tuple #[.int .i64 s,.bool true])/\IsB ns root l/\s=((max ul.1 ul.2*2^nRt ns l+1:Nat):Int)/\s<=32768
theorem uD{root:Nat}(hd:DagP w g ns)(ok:OkNs ns)(hlf:gD ns)(hro:gF ns)(hue:UE ns S ul)(hS:S root)(hT:Tab w)(hr:root<ns.length)(hsk:agS ns (ul root) root):
 Calls Tryz.prog 186 #[.pointer (some ⟨g,0,none⟩),.int .i64 (root:Int)] w (zL w ns (ul root) root):=by
 have HBO:=hdd (xA hd ok hlf hro hue hS hT hr);have HSK:=hdd hsk;clear hd ok hlf hro hue hS hT hr hsk;go_enter Tryz.func186,Tryz.ntmps186
 go_wp2_with fail
 refine HBO.out.mono ?_;rintro e w4⟨hb4,u,lw,k,l,rfl,hu,hl,hI,hk⟩;obtain⟨h1,h2⟩:=HSK.out l hI;obtain⟨n,hn⟩:∃n:Nat,nRt ns l=n:=⟨_,rfl⟩;rw[hn]at h1 h2 hk;subst hk;obtain⟨w5,hw5,⟨p0,p1,p2,q0,q1,q2⟩,w6,hw6,hb6,hs6⟩:=new3 w4 187 (.int .i64 0) (.int .i64 0) (.int .i64 0) (.int .i64 u) (.int .i64 lw) (.int .i64 (n:Int));obtain⟨r0,r1,r2,-,-,-⟩:=cells3 hs6;have HB6:=hdd (aA hb4 hb6);obtain⟨m,hm⟩:∃m:Nat,max (ul root).1 (ul root).2=m:=⟨_,rfl⟩;have hmi:max u lw=(m:Int):=by rw[hu,hl];omega
 rw[hm]at h1;have hp:=Nat.two_pow_pos n;have hm1:m<=m*2^n:=Nat.le_mul_of_pos_right _ hp;obtain⟨s,hs⟩:∃s:Nat,m*2^n=s:=⟨_,rfl⟩;have HRES:Hid (zL w ns (ul root) root (.returned (.tuple #[.int .i64 ((s:Int)+1),.bool true])) w6):=hdd ⟨HB6.out,(s:Int)+1,l,rfl,hI,by rw[hm,hn,hs];omega,by omega⟩;have e1:(m:Int)*2^n=(s:Int):=by rw[<-hs];simp
 obtain⟨t,ht⟩:∃t:Int,(s:Int)=t:=⟨_,rfl⟩;rw[ht]at HRES e1;have hw1:IntKind.i64.wrap ((m:Int)*2^n)=t:=by rw[e1];exact wrap_i64 (by omega)
 have hw2:IntKind.i64.wrap (t+1)=t+1:=wrap_i64 (by omega);have hbig:¬(1099511627776<t+1):=by omega
 have hk20:¬(20<(n:Int)):=by omega
 clear hb4 hb6 hs6 hI hu hl hp HSK HBO hs e1 ht h1 h2 hm1 hm hn;go_wp2
 go_ret2
 exact HRES.out
theorem qF{root:Nat}(hd:DagP w g ns)(ok:OkNs ns)(hlf:gD ns)(hro:gF ns)(hue:UE ns S ul)(hS:S root)(hT:Tab w)(hr:root<ns.length)(hsk:agS ns (ul root) root):
 Calls Tryz.prog 138 #[.pointer (some ⟨g,0,none⟩),.int .i64 (root:Int)] w (zL w ns (ul root) root):=by
 have HBO:=hdd (uD hd ok hlf hro hue hS hT hr hsk);clear hd ok hlf hro hue hS hT hr hsk;go_enter Tryz.func138,Tryz.ntmps138
 go_wp2_with fail
 refine HBO.out.mono ?_;rintro e w4⟨hb4,s,l,rfl,hI,h1,h2⟩;have HRES:Hid (zL w ns (ul root) root (.returned (.tuple #[.int .i64 s,.bool true])) w4):=hdd ⟨hb4,s,l,rfl,hI,h1,h2⟩;clear hI h1 hb4;go_wp2
 go_ret2
 exact HRES.out
end
section
open Re (rat ofI ofN)
open List renaming mem_cons_of_mem->ayZ,nil_append->ay0,mem_cons_self->ay1,getElem?_eq_getElem->ay2,mem_filter->ay3
variable{a e:Ex}{R:List Ex}{l:List Nat}{ns:List Nd}{K i j:Nat}{n:Nd}{v:Re}
theorem fK(h:Is ns a i)(hn:ns[i]? =some n):
 (n.kind=0/\a=.leaf n.val)\/(n.kind=1/\∃x y,a=.add x y/\Is ns x n.a.toNat/\Is ns y n.b.toNat)\/(n.kind=2/\∃x y,a=.sub x y/\Is ns x n.a.toNat/\Is ns y n.b.toNat)\/
 (n.kind=3/\∃x y,a=.mul x y/\Is ns x n.a.toNat/\Is ns y n.b.toNat)\/(n.kind=4/\∃x y,a=.div x y/\Is ns x n.a.toNat/\Is ns y n.b.toNat)\/(n.kind=5/\∃x,a=.root x/\Is ns x n.a.toNat):=by
 cases a with
 |leaf v=>have h:ns[i]? =some ⟨0,v,0,0⟩:=h;rw[hn]at h;cases h;exact Or.inl ⟨rfl,rfl⟩
 |add a b=>obtain⟨p,q,h,-,-,h4,h5⟩:=h;rw[hn]at h;cases h;exact Or.inr (Or.inl ⟨rfl,a,b,rfl,by rw[aN];exact h4,by rw[aN];exact h5⟩)
 |sub a b=>obtain⟨p,q,h,-,-,h4,h5⟩:=h;rw[hn]at h;cases h;exact Or.inr (Or.inr (Or.inl ⟨rfl,a,b,rfl,by rw[aN];exact h4,by rw[aN];exact h5⟩))
 |mul a b=>obtain⟨p,q,h,-,-,h4,h5⟩:=h;rw[hn]at h;cases h;exact Or.inr (Or.inr (Or.inr (Or.inl ⟨rfl,a,b,rfl,by rw[aN];exact h4,by rw[aN];exact h5⟩)))
 |div a b=>obtain⟨p,q,h,-,-,h4,h5⟩:=h;rw[hn]at h;cases h;exact Or.inr (Or.inr (Or.inr (Or.inr (Or.inl ⟨rfl,a,b,rfl,by rw[aN];exact h4,by rw[aN];exact h5⟩))))
 |root a=>obtain⟨p,h,-,h4⟩:=h;rw[hn]at h;cases h;exact Or.inr (Or.inr (Or.inr (Or.inr (Or.inr ⟨rfl,a,rfl,by rw[aN];exact h4⟩))))
theorem Is.at (h:Is ns a i):∃n,ns[i]? =some n:=⟨_,ay2 h.lt⟩
noncomputable def qE(ns:List Nd)(i:Nat):Ex:=by
 classical exact if h:∃a,Is ns a i then h.choose else .leaf 0
theorem iE(h:Is ns a i):qE ns i=a:=by
 unfold qE;have hex:∃a,Is ns a i:=⟨a,h⟩;rw[dif_pos hex];exact hex.choose_spec.det h
noncomputable def ulT(ns:List Nd)(i:Nat):Nat×Nat:=uE (qE ns i)
theorem gQ(h:Is ns a i):ulT ns i=uE a:=by unfold ulT;rw[iE h]
def cB:Ex->Nat
 | .leaf v=>max (iZ v) (jA v)
 | .add a b=>1+cB a+cB b
 | .sub a b=>1+cB a+cB b
 | .mul a b=>cB a+cB b
 | .div a b=>cB a+cB b
 | .root a=>cB a
theorem aiD(e:Ex):(uE e).1<=cB e/\(uE e).2<=cB e:=by
 induction e with
 |leaf v=>simp only[uE,cB];omega
 |add a b iha ihb=>simp only[uE,cB];omega
 |sub a b iha ihb=>simp only[uE,cB];omega
 |mul a b iha ihb=>simp only[uE,cB];omega
 |div a b iha ihb=>simp only[uE,cB];omega
 |root a iha=>simp only[uE,cB];split<;>(simp only;omega)
theorem SubE.cost {b:Ex}(h:SubE a b):cB a<=cB b:=by
 induction h with
 |refl=>exact Nat.le_refl _
 |addL _ ih=>simp only[cB];omega
 |addR _ ih=>simp only[cB];omega
 |subL _ ih=>simp only[cB];omega
 |subR _ ih=>simp only[cB];omega
 |mulL _ ih=>simp only[cB];omega
 |mulR _ ih=>simp only[cB];omega
 |divL _ ih=>simp only[cB];omega
 |divR _ ih=>simp only[cB];omega
 |root _ ih=>simp only[cB];omega
theorem akF(hf:FinE e)(hc:cB e<=1000000):UE ns (Part ns e) (ulT ns) where
 cl:=wX
 step:=by
  intro i n ⟨a,hs,hi⟩ hn;rw[gQ hi];rcases fK hi hn with ⟨k,rfl⟩|⟨k,x,y,rfl,h1,h2⟩|⟨k,x,y,rfl,h1,h2⟩|⟨k,x,y,rfl,h1,h2⟩|⟨k,x,y,rfl,h1,h2⟩|⟨k,x,rfl,h1⟩
  . unfold uN;rw[if_pos k];rfl
  . rw[gQ h1,gQ h2];unfold uN;rw[k];rfl
  . rw[gQ h1,gQ h2];unfold uN;rw[k];rfl
  . rw[gQ h1,gQ h2];unfold uN;rw[k];rfl
  . rw[gQ h1,gQ h2];unfold uN;rw[k];rfl
  . rw[gQ h1];unfold uN;rw[k];rfl
 bd:=by
  intro i ⟨a,hs,hi⟩;rw[gQ hi];have:=aiD a;have:=hs.cost;omega
 leaf:=by
  intro i n ⟨a,hs,hi⟩ hn hk;rcases fK hi hn with ⟨k,rfl⟩|⟨k,-⟩|⟨k,-⟩|⟨k,-⟩|⟨k,-⟩|⟨k,-⟩
  . have:=hs.fin hf;exact⟨this.2.1,this.1,this.2.2⟩
  all_goals exfalso;omega
def gapD(ns:List Nd)(i:Nat)(x:Re):Prop:=∃a v,Is ns a i/\DenR a v/\x=v*ofN U74
theorem adS(v:Nat):rat (rv (leafD v))*ofN U74=ofI (fv v):=by
 obtain⟨u,hu,hU⟩:=iK;have e1:ofN (2^u)=rat (p2 u):=by rw[eQ];exact congrArg rat (Rat.intCast_natCast (2^u))
 rw[hU,e1,<-Re.rat_mul];unfold leafD;rw[jW,Rat.mul_assoc,<-bY,show(-1074:Int)+u=0 by omega,kK,Rat.mul_one];rfl
theorem tV(a b u:Re):a*b*u*u=a*u*(b*u):=by
 revert a b u;exact Re.all3 fun a b c=>Re.same fun n=>by simp only[Re.mulC_f];grind
theorem aiE:ofN U74≠0:=Re.ne_of_gt kW
theorem akG(ok:OkNs ns):DV ns (gapD ns):=by
 intro i n hn;have hk:=(ok i n hn).1;have kinds:n.kind=0\/n.kind=1\/n.kind=2\/n.kind=3\/n.kind=4\/n.kind=5:=by omega
 unfold nS;rcases kinds with h|h|h|h|h|h
 . refine Or.inl ⟨h,?_⟩
   rintro z⟨a,v,hI,hd,e⟩;rcases fK hI hn with ⟨k,rfl⟩|⟨k,-⟩|⟨k,-⟩|⟨k,-⟩|⟨k,-⟩|⟨k,-⟩
   . cases hd;rw[e,adS]
   all_goals exfalso;omega
 . refine Or.inr (Or.inl ⟨h,?_⟩)
   rintro z⟨a,v,hI,hd,e⟩;rcases fK hI hn with ⟨k,-⟩|⟨k,x,y,rfl,h1,h2⟩|⟨k,-⟩|⟨k,-⟩|⟨k,-⟩|⟨k,-⟩
   . exfalso;omega
   . cases hd with|add ha hb=>exact⟨_,_,⟨_,_,h1,ha,rfl⟩,⟨_,_,h2,hb,rfl⟩,by rw[e,Re.add_mul]⟩
   all_goals exfalso;omega
 . refine Or.inr (Or.inr (Or.inl ⟨h,?_⟩))
   rintro z⟨a,v,hI,hd,e⟩;rcases fK hI hn with ⟨k,-⟩|⟨k,-⟩|⟨k,x,y,rfl,h1,h2⟩|⟨k,-⟩|⟨k,-⟩|⟨k,-⟩
   . exfalso;omega
   . exfalso;omega
   . cases hd with|sub ha hb=>exact⟨_,_,⟨_,_,h1,ha,rfl⟩,⟨_,_,h2,hb,rfl⟩,by rw[e,Re.sub_mul]⟩
   all_goals exfalso;omega
 . refine Or.inr (Or.inr (Or.inr (Or.inl ⟨h,?_⟩)))
   rintro z⟨a,v,hI,hd,e⟩;rcases fK hI hn with ⟨k,-⟩|⟨k,-⟩|⟨k,-⟩|⟨k,x,y,rfl,h1,h2⟩|⟨k,-⟩|⟨k,-⟩
   . exfalso;omega
   . exfalso;omega
   . exfalso;omega
   . cases hd with|mul ha hb=>exact⟨_,_,⟨_,_,h1,ha,rfl⟩,⟨_,_,h2,hb,rfl⟩,by rw[e,tV]⟩
   all_goals exfalso;omega
 . refine Or.inr (Or.inr (Or.inr (Or.inr (Or.inl ⟨h,?_⟩))))
   rintro z⟨a,v,hI,hd,e⟩;rcases fK hI hn with ⟨k,-⟩|⟨k,-⟩|⟨k,-⟩|⟨k,-⟩|⟨k,x,y,rfl,h1,h2⟩|⟨k,-⟩
   . exfalso;omega
   . exfalso;omega
   . exfalso;omega
   . exfalso;omega
   . cases hd with|div ha hb h0 hz=>exact⟨_,_,⟨_,_,h1,ha,rfl⟩,⟨_,_,h2,hb,rfl⟩,Re.mul_ne_zero h0 aiE,by rw[e,<-tV,hz]⟩
   . exfalso;omega
 . refine Or.inr (Or.inr (Or.inr (Or.inr (Or.inr ⟨h,?_⟩))))
   rintro z⟨a,v,hI,hd,e⟩;rcases fK hI hn with ⟨k,-⟩|⟨k,-⟩|⟨k,-⟩|⟨k,-⟩|⟨k,-⟩|⟨k,x,rfl,h1⟩
   . exfalso;omega
   . exfalso;omega
   . exfalso;omega
   . exfalso;omega
   . exfalso;omega
   . cases hd with|root ha h0 hz=>exact⟨_,⟨_,_,h1,ha,rfl⟩,by rw[e];exact Re.mul_nonneg h0 (Re.le_of_lt kW),by rw[e,<-tV,hz]⟩
noncomputable def jS(ns:List Nd)(l:List Nat):List Ex:=((l.filter (isRt ns)).map (qE ns)).reverse
theorem aa3(ns:List Nd)(l:List Nat):(jS ns l).length=nRt ns l:=by unfold jS nRt;rw[List.length_reverse,List.length_map]
theorem zM(ns:List Nd)(l:List Nat)(x:Nat):jS ns (l++[x])=(if isRt ns x=true then[qE ns x]else[])++jS ns l:=by
 unfold jS;rw[List.filter_append,List.map_append,List.reverse_append]
 congr 1
 by_cases h:isRt ns x=true<;>simp[List.filter_cons,h]
theorem ab3{x:Nat}(hn:ns[x]? =some n):isRt ns x=decide (n.kind=5):=by unfold isRt;rw[hn]
theorem zN{ns:List Nd}{root:Nat}{l:List Nat}(ok:OkNs ns)(hI:IsB ns root l)(hall:∀i∈l,∃a,Is ns a i):
 ∀k,k<=l.length->RootsL (jS ns (l.take k))/\∀i∈l.take k,∀a,Is ns a i->RootsIn (jS ns (l.take k)) a
 |0,_=>by rw[List.take_zero];exact⟨trivial,fun i hi=>by cases hi⟩
 |k+1,hk=>by
  obtain⟨ih1,ih2⟩:=zN ok hI hall k (by omega);obtain⟨x,hx⟩:∃x,l[k]? =some x:=⟨_,ay2 (by omega)⟩;obtain⟨a,ha⟩:=hall x (List.mem_of_getElem? hx);obtain⟨n,hn⟩:=ha.at;obtain⟨o1,o2⟩:=yU ok hI.srt hI.cl hx hn;rw[List.take_add_one,hx,show(some x).toList=[x] from rfl,zM,ab3 hn];generalize jS ns (l.take k)=L at*;have old:∀M:List Ex,∀i∈l.take k++[x],(∀r∈L,r∈M)->RootsIn M a->∀b,Is ns b i->RootsIn M b:=by
   intro M i hi hM hx' b hb;rcases List.mem_append.1 hi with hi|hi
   . exact(ih2 i hi b hb).weak hM
   . have:i=x:=by simpa using hi
     subst this;rw[hb.det ha];exact hx'
  rcases fK ha hn with ⟨q,e⟩|⟨q,x',y',e,h1,h2⟩|⟨q,x',y',e,h1,h2⟩|⟨q,x',y',e,h1,h2⟩|⟨q,x',y',e,h1,h2⟩|⟨q,x',e,h1⟩
  . rw[decide_eq_false (by omega),if_neg (by simp),ay0]
    exact⟨ih1,fun i hi b hb=>old L i hi (fun r hr=>hr) (by rw[e];trivial) b hb⟩
  . rw[decide_eq_false (by omega),if_neg (by simp),ay0]
    exact⟨ih1,fun i hi b hb=>old L i hi (fun r hr=>hr) (by rw[e];exact⟨ih2 _ (o1 (by omega)).1 _ h1,ih2 _ (o2 (by omega) (by omega)).1 _ h2⟩) b hb⟩
  . rw[decide_eq_false (by omega),if_neg (by simp),ay0]
    exact⟨ih1,fun i hi b hb=>old L i hi (fun r hr=>hr) (by rw[e];exact⟨ih2 _ (o1 (by omega)).1 _ h1,ih2 _ (o2 (by omega) (by omega)).1 _ h2⟩) b hb⟩
  . rw[decide_eq_false (by omega),if_neg (by simp),ay0]
    exact⟨ih1,fun i hi b hb=>old L i hi (fun r hr=>hr) (by rw[e];exact⟨ih2 _ (o1 (by omega)).1 _ h1,ih2 _ (o2 (by omega) (by omega)).1 _ h2⟩) b hb⟩
  . rw[decide_eq_false (by omega),if_neg (by simp),ay0]
    exact⟨ih1,fun i hi b hb=>old L i hi (fun r hr=>hr) (by rw[e];exact⟨ih2 _ (o1 (by omega)).1 _ h1,ih2 _ (o2 (by omega) (by omega)).1 _ h2⟩) b hb⟩
  . rw[decide_eq_true q,if_pos rfl,iE ha,List.singleton_append]
    have h3:=ih2 _ (o1 (by omega)).1 _ h1;have hin:RootsIn (a::L) a:=by
     rw[e];exact⟨ay1,h3.weak fun r hr=>ayZ _ hr⟩
    exact⟨⟨ih1,x',e,h3⟩,fun i hi b hb=>old (a::L) i hi (fun r hr=>ayZ _ hr) hin b hb⟩
theorem SubE.rootsIn (h:SubE a e)(hR:RootsIn R e):RootsIn R a:=by
 induction h with
 |refl=>exact hR
 |addL _ ih=>exact ih hR.1
 |addR _ ih=>exact ih hR.2
 |subL _ ih=>exact ih hR.1
 |subR _ ih=>exact ih hR.2
 |mulL _ ih=>exact ih hR.1
 |mulR _ ih=>exact ih hR.2
 |divL _ ih=>exact ih hR.1
 |divR _ ih=>exact ih hR.2
 |root _ ih=>exact ih hR.2
theorem aiF(hu:Uniq ns):∀{a:Ex} {i j:Nat},Is ns a i->Is ns a j->i=j:=by
 intro a
 induction a with
 |leaf v=>intro i j h k;exact hu _ _ _ h k
 |root a iha=>intro i j h k;obtain⟨p,h1,-,h3⟩:=h;obtain⟨q,k1,-,k3⟩:=k;have:=iha h3 k3;subst this;exact hu _ _ _ h1 k1
 |add a b iha ihb=>intro i j h k;obtain⟨p,q,h1,-,-,h3,h4⟩:=h;obtain⟨p',q',k1,-,-,k3,k4⟩:=k;have e1:=iha h3 k3;have e2:=ihb h4 k4;subst e1;subst e2;exact hu _ _ _ h1 k1
 |sub a b iha ihb=>intro i j h k;obtain⟨p,q,h1,-,-,h3,h4⟩:=h;obtain⟨p',q',k1,-,-,k3,k4⟩:=k;have e1:=iha h3 k3;have e2:=ihb h4 k4;subst e1;subst e2;exact hu _ _ _ h1 k1
 |mul a b iha ihb=>intro i j h k;obtain⟨p,q,h1,-,-,h3,h4⟩:=h;obtain⟨p',q',k1,-,-,k3,k4⟩:=k;have e1:=iha h3 k3;have e2:=ihb h4 k4;subst e1;subst e2;exact hu _ _ _ h1 k1
 |div a b iha ihb=>intro i j h k;obtain⟨p,q,h1,-,-,h3,h4⟩:=h;obtain⟨p',q',k1,-,-,k3,k4⟩:=k;have e1:=iha h3 k3;have e2:=ihb h4 k4;subst e1;subst e2;exact hu _ _ _ h1 k1
theorem ab4{α β:Type}(f:α->β):∀(l:List α) (R:List β),l.Nodup->(∀x∈l,∀y∈l,f x=f y->x=y)->(∀x∈l,f x∈R)->l.length<=R.length
 |[],R,_,_,_=>Nat.zero_le _
 |x::t,R,hn,hi,hm=>by
  classical
  have hx:=hm x ay1;have hn':=List.nodup_cons.1 hn;have:=ab4 f t (R.erase (f x)) hn'.2 (fun a ha b hb=>hi a (ayZ _ ha) b (ayZ _ hb)) fun y hy=>by
   have hne:f y≠f x:=fun e=>hn'.1 (by rw[<-hi y (ayZ _ hy) x ay1 e];exact hy);exact(List.mem_erase_of_ne hne).2 (hm y (ayZ _ hy))
  rw[List.length_erase_of_mem hx]at this;have h0:=List.length_pos_of_mem hx;rw[List.length_cons];omega
theorem xB{root:Nat}(hI:IsB ns root l)(he:Is ns e root):∀i∈l,Part ns e i:=hI.mn _ wX ⟨e,.refl e,he⟩
theorem adT{root:Nat}(hu:Uniq ns)(hI:IsB ns root l)(he:Is ns e root)(hR:RootsIn R e):nRt ns l<=R.length:=by
 unfold nRt;have hp:∀i∈l.filter (isRt ns),∃a,SubE a e/\Is ns a i:=fun i hi=>xB hI he i (ay3.1 hi).1;refine ab4 (qE ns) _ R ?_ ?_ ?_
 . exact(hI.srt.filter _).imp fun{a b} h=>by omega
 . intro x hx y hy hxy
   obtain⟨a,-,ha⟩:=hp x hx;obtain⟨b,-,hb⟩:=hp y hy;rw[iE ha,iE hb]at hxy;subst hxy;exact aiF hu ha hb
 . intro x hx
   obtain⟨a,hs,ha⟩:=hp x hx;rw[iE ha];obtain⟨n,hn⟩:=ha.at;have h5:n.kind=5:=by have:=(ay3.1 hx).2;rw[ab3 hn]at this;exact of_decide_eq_true this
   rcases fK ha hn with ⟨k,-⟩|⟨k,-⟩|⟨k,-⟩|⟨k,-⟩|⟨k,-⟩|⟨k,c,rfl,-⟩
   . exfalso;omega
   . exfalso;omega
   . exfalso;omega
   . exfalso;omega
   . exfalso;omega
   . exact(hs.rootsIn hR).1
structure Gd(K j:Nat)(e:Ex)(v:Re):Prop where
 den:DenR e v
 fin:FinE e
 cost:cB e<=1000000
 size:bN (32*2^j) e<=4000000
 hj:j<=11
 hK:K<=15
 sep:max (uE e).1 (uE e).2*2^K+1<=32768
 roots:∃R,RootsIn R e/\R.length<=K
 hit:∃b M W,dA e (32*2^j)=some b/\Acc M W b/\((max (uE e).1 (uE e).2*2^K+2:Nat):Int)<=W
theorem Gd.nRt (h:Gd K j e v)(hu:Uniq ns)(he:Is ns e i)(hI:IsB ns i l):Go.Proofs.YtebocijmegkfgaaGreatDoor.nRt ns l<=K:=by
 obtain⟨R,h1,h2⟩:=h.roots;exact Nat.le_trans (adT hu hI he h1) h2
theorem tX{m a b:Nat}(h:a<=b):m*2^a<=m*2^b:=Nat.mul_le_mul_left m (Nat.pow_le_pow_right (by omega) h)
theorem Gd.sepOk (h:Gd K j e v)(hu:Uniq ns)(he:Is ns e i):agS ns (ulT ns i) i:=by
 intro l hI;have hn:=h.nRt hu he hI;rw[gQ he];have h1:=tX (m:=max (uE e).1 (uE e).2) hn;have h2:=h.sep;have h3:=h.hK;exact⟨by omega,by omega⟩
theorem Gd.fnd (h:Gd K j e v)(ok:OkNs ns)(hu:Uniq ns)(he:Is ns e i)(hI:IsB ns i l):Fnd e v ((max (ulT ns i).1 (ulT ns i).2*2^Go.Proofs.YtebocijmegkfgaaGreatDoor.nRt ns l+1:Nat):Int) j:=by
 have hn:=h.nRt hu he hI;have hpt:=xB hI he;have hro:=zN ok hI (fun i hi=>(hpt i hi).imp fun a h=>h.2) l.length nlr;rw[List.take_length]at hro;have hL:Lok (jS ns l):=by
  refine⟨hro.1,fun r hr=> ?_⟩;unfold jS at hr;obtain⟨x,hx,rfl⟩:=List.mem_map.1 (List.mem_reverse.1 hr);obtain⟨a,hs,ha⟩:=hpt x (ay3.1 hx).1;rw[iE ha];exact hs.den h.den
 rw[gQ he];have h1:=tX (m:=max (uE e).1 (uE e).2) hn;refine⟨h.den,h.fin,h.size,h.hj,?_,fun h0=> ?_⟩
 . obtain⟨b,M,W,k1,k2,k3⟩:=h.hit
   exact⟨b,M,W,k1,k2,by omega⟩
 . have:=ah0 hL h.den (hro.2 i hI.rt e he) h0
   rw[aa3]at this;generalize max (uE e).1 (uE e).2*2^Go.Proofs.YtebocijmegkfgaaGreatDoor.nRt ns l=m at*;rw[show-((m+1:Nat):Int)+1=-(m:Int) by omega];exact this
theorem Gd.of {L:List Ex}{c:Ct}(h:Vl L (32*2^j) e v c)(hL:L.length<=K)(hj:j<=11)(hK:K<=15)(hc:cB e<=1000000)(hs:c.s<=4000000)(hm:max c.u c.l*2^K+1<=32768)(hW:((max c.u c.l*2^K+2:Nat):Int)<=c.W):Gd K j e v:=by
 have h1:max (uE e).1 (uE e).2*2^K<=max c.u c.l*2^K:=Nat.mul_le_mul_right _ (by have:=h.hu;have:=h.hl;omega);obtain⟨b,k1,k2⟩:=h.near;exact⟨h.den,h.fin,hc,Int.le_trans h.hs hs,hj,hK,by omega,⟨L,h.roots,hL⟩,b,_,_,k1,k2,by omega⟩
def AllGd(e:Ex):Prop:=(∀a b,SubE (.div a b) e->∃K j v,Gd K j b v)/\∀a,SubE (.root a) e->∃K j v,Gd K j a v
noncomputable def sgT(ns:List Nd)(i:Nat):Int:=by
 classical exact if h:∃v,DenR (qE ns i) v then Re.sgn h.choose else 0
theorem xC(h:Is ns a i)(hd:DenR a v):sgT ns i=Re.sgn v:=by
 unfold sgT;have hex:∃v,DenR (qE ns i) v:=⟨v,by rw[iE h];exact hd⟩;rw[dif_pos hex];have h1:=hex.choose_spec;generalize hex.choose=u at*;rw[iE h]at h1;rw[h1.uniq hd]
theorem agT(v:Re):Re.sgn (v*ofN U74)=Re.sgn v:=by rw[Re.sgn_mul,Re.sgn_pos kW,Int.mul_one]
end
end Go.Proofs.YtebocijmegkfgaaGreatDoor
