/- A part of the proof: contracts of functions and plain laws (DagE, DagF, RlA, RlB, RlC, RlD, RlE, RlF). -/
import Derived.Test.YtkadpnljocflaaaGreatDoorK26
import Derived.Test.YtkadpnljocflaaaGreatDoorK20
import Derived.Test.YtkadpnljocflaaaGreatDoorK22
import Derived.Test.YtkadpnljocflaaaGreatDoorK23
import Derived.Lib.Builder
import Derived.Laws.MakeOwn
set_option linter.unusedVariables false
set_option linter.unusedSimpArgs false
set_option linter.unnecessarySimpa false
set_option maxHeartbeats 25600000
set_option maxRecDepth 100000
namespace Go.Proofs.YtkadpnljocflaaaGreatDoor
open Go.RowKit Go.Maps
open Go.RowKit.Below renaming heap_setCell->ay2,refl->ay9
open Go.Value renaming ownBlock->ay3,oneCell'->azD
open List renaming getElem?_eq_getElem->ay1,getElem?_eq_some_iff->ay5,take_of_length_le->ay6,take_add_one->ay8,length_cons->azB
open Nat renaming le_trans->ay4,lt_of_lt_of_le->ay7,lt_or_ge->azA,zero_le->azC
variable{a e0:Ex}{s:Int}{l:List Nat}{b base c i i0 j n:Nat}{v:Value}{w0:World}
structure St(P:Ex->Prop)(B N:Nat)(w:World)(g:Nat)(ns:List Nd):Prop where
 dag:DagP w g ns
 all:AllIs P ns
 hi:ab8 B g w
 tab:Tab w
 tb:0<B
 hB:B<=w.heap.size
 room:ns.length<=N
section
variable{P:Ex->Prop}{B N:Nat}{w w':World}{g:Nat}{ns ns':List Nd}
theorem Tab.step (h:Tab w)(hw:w'.heap[0]? =w.heap[0]?):Tab w':=by
 intro j hj;exact(World.cell?_of_block (w:=w) (w':=w') hw).trans (h j hj)
theorem St.below (h:St P B N w g ns)(hb:Below w.heap.size w w'):St P B N w' g ns:=
 ⟨h.dag.below hb,h.all,(DS.of_below h.dag.glt hb).hi h.hB h.hi,h.tab.below hb,h.tb,ay4 h.hB hb.size,h.room⟩
theorem St.step {M:Nat}(h:St P B N w g ns)(hd:DagP w' g ns')(ha:AllIs P ns')(hs:DS g w w')(hM:ns'.length<=M):St P B M w' g ns':=
 ⟨hd,ha,hs.hi h.hB h.hi,h.tab.step (hs.heap (ay7 h.tb h.hB) (fun hb=>by have:=h.hi _ hb;have:=h.tb;omega)),h.tb,ay4 h.hB hs.size,hM⟩
end
def RetE(P:Ex->Prop)(B N:Nat)(w:World)(g:Nat)(ns:List Nd)(mk:Nat->Value)(x:Ex)(e:Ending)(w':World):Prop:=
 ∃(k:Nat) (ns':List Nd),e=.returned (mk k)/\St P B N w' g ns'/\ns<+:ns'/\Is ns' x k/\DS g w w'
abbrev idV(k:Nat):Value:=.int .i64 (k:Int)
theorem ab9{kind:Int}(hk:tJ kind){len:Nat}(hi:i<len)(hj:j<len)(hl:len<=20000):NdIn ⟨kind,0,i,j⟩ len:=by
 refine⟨Or.inr (Or.inl ⟨hk,rfl,?_,?_⟩),?_,?_,?_⟩
 . simp;omega
 . simp;omega
 . intro h;rcases hk with rfl|rfl|rfl|rfl<;>simp at h
 . intro _;simp;omega
 . intro _ _;simp;omega
theorem mM{w:World}{g:Nat}{ns:List Nd}{n:Nd}(hd:DagP w g ns)(hn:NdIn n ns.length)(hv:n.val<18446744073709551616)(hl:ns.length<20000):
 Calls Tryz.prog 62 #[.pointer (some ⟨g,0,none⟩),.agg #[.int .i64 n.kind,.float .f64 n.val,.int .i64 n.a,.int .i64 n.b]] w
  (fun e w'=>∃(i:Nat) (ns':List Nd),e=.returned (.int .i64 (i:Int))/\DagP w' g ns'/\ns'[i]? =some n/\(ns'=ns\/ns'=ns++[n])/\DS g w w'):=by
 obtain⟨kind,val,na,nb⟩:=n;obtain⟨w1,hw1,hb1,hs1,b1⟩:=pro1 w (.cells #[.int .i64 kind,.float .f64 val,.int .i64 na,.int .i64 nb] 87);obtain⟨c0,c1,c2,c3⟩:=bM b1;have HP:=hdd (aiB (hd.below hb1) hn hv hl);have HS:=hdd (DS.of_below hd.glt hb1);unfold iA at HP;clear hd hn hv hl hb1 hs1 b1;go_enter Tryz.func62,Tryz.ntmps62
 go_wp2_with fail
 refine HP.out.mono ?_;rintro e w2⟨i,ns',rfl,hd2,hi,hns,hs⟩;have HR:=hdd (And.intro hd2 (And.intro hi (And.intro hns (HS.out.trans hs))));clear hd2 hi hns hs;go_wp2;go_ret;exact⟨i,ns',rfl,HR.out⟩
theorem zM{P:Ex->Prop}{B N:Nat}{w:World}{g:Nat}{ns:List Nd}{v:Nat}(hs:St P B N w g ns)(hN:N<20000)(hv:v<18446744073709551616)(hf:fin v)(hP:P (.leaf v)):
 Calls Tryz.prog 34 #[.pointer (some ⟨g,0,none⟩),.float .f64 v] w (RetE P B (N+1) w g ns idV (.leaf v)):=by
 have HP:=hdd (mM (n:=⟨0,v,0,0⟩) hs.dag ⟨Or.inl ⟨rfl,rfl,rfl⟩,fun _=>hf,fun h=>absurd rfl h,fun h=>absurd rfl h⟩ hv (by have:=hs.room;omega));have HS:=hdd hs;have HE:=hdd hP;clear hs hN hv hf hP;dsimp only at HP;go_enter Tryz.func34,Tryz.ntmps34
 go_wp2_with fail
 refine HP.out.mono ?_;rintro e w2⟨k,ns',rfl,hd2,hi,hns,hs⟩;have HR:Hid (RetE P B (N+1) w g ns idV (.leaf v) (.returned (idV k)) w2):=hdd (by
  obtain⟨q1,q2,q3⟩:=af4 HS.out.all hi hns HE.out;refine⟨k,ns',rfl,HS.out.step hd2 q2 hs ?_,q3,q1,hs⟩;have:=HS.out.room;rcases hns with rfl|rfl
  . omega
  . simp;omega)
 unfold idV at HR;clear hd2 hi hns hs;go_wp2;go_ret;exact HR.out
theorem agL{P:Ex->Prop}{B N:Nat}{w w':World}{g k:Nat}{ns ns':List Nd}{kind:Int}{b:Ex}{mk:Nat->Value}(hs:St P B N w g ns)(hk:tJ kind)(ha:Is ns a i)(hb:Is ns b j)(hP:P (opE kind a b))
 (hd2:DagP w' g ns') (hi:ns'[k]? =some ⟨kind,0,i,j⟩) (hns:ns'=ns\/ns'=ns++[⟨kind,0,i,j⟩]) (hds:DS g w w'):RetE P B (N+1) w g ns mk (opE kind a b) (.returned (mk k)) w':=by
 obtain⟨q1,q2,q3⟩:=ajU hk hs.all ha hb hi hns hP;refine⟨k,ns',rfl,hs.step hd2 q2 hds ?_,q3,q1,hds⟩;have:=hs.room;rcases hns with rfl|rfl
 . omega
 . simp;omega
theorem acA{P:Ex->Prop}{B N:Nat}{w:World}{g:Nat}{ns:List Nd}{b:Ex}(hs:St P B N w g ns)(hN:N<20000)(ha:Is ns a i)(hb:Is ns b j)(hP:P (.sub a b)):
 Calls Tryz.prog 41 #[.pointer (some ⟨g,0,none⟩),.int .i64 (i:Int),.int .i64 (j:Int)] w (RetE P B (N+1) w g ns idV (.sub a b)):=by
 have HP:=hdd (mM (n:=⟨2,0,i,j⟩) hs.dag (ab9 (Or.inr (Or.inl rfl)) ha.lt hb.lt hs.dag.len) (by simp) (by have:=hs.room;omega));have HR:Hid (∀(w':World) (k:Nat) (ns':List Nd),DagP w' g ns'->ns'[k]? =some ⟨2,0,i,j⟩->(ns'=ns\/ns'=ns++[⟨2,0,i,j⟩])->DS g w w'->RetE P B (N+1) w g ns idV (.sub a b) (.returned (.int .i64 (k:Int))) w'):=
  hdd fun w' k ns' h1 h2 h3 h4=>agL (mk:=idV) hs (Or.inr (Or.inl rfl)) ha hb hP h1 h2 h3 h4
 clear hs hN ha hb hP;dsimp only at HP;go_enter Tryz.func41,Tryz.ntmps41
 go_wp2_with fail
 refine HP.out.mono ?_;rintro e w2⟨k,ns',rfl,hd2,hi,hns,hs⟩;have HF:=hdd (HR.out _ _ _ hd2 hi hns hs);clear hd2 hi hns hs;go_wp2;go_ret;exact HF.out
theorem agM{P:Ex->Prop}{B N:Nat}{w:World}{g:Nat}{ns:List Nd}(hs:St P B N w g ns)(hN:N<20000)(ha:Is ns a i)(hP:P (.root a)):
 Calls Tryz.prog 37 #[.pointer (some ⟨g,0,none⟩),.int .i64 (i:Int)] w (RetE P B (N+1) w g ns idV (.root a)):=by
 have hnd:NdIn ⟨5,0,i,0⟩ ns.length:=by
  have h1:=ha.lt;have h2:=hs.dag.len;refine⟨Or.inr (Or.inr ⟨rfl,rfl,?_,rfl⟩),?_,?_,?_⟩
  . simp;omega
  . intro h;simp at h
  . intro _;simp;omega
  . intro _ h;simp at h
 have HP:=hdd (mM (n:=⟨5,0,i,0⟩) hs.dag hnd (by simp) (by have:=hs.room;omega));have HS:=hdd hs;have HA:=hdd ha;have HE:=hdd hP;clear hs hN ha hP hnd;dsimp only at HP;go_enter Tryz.func37,Tryz.ntmps37
 go_wp2_with fail
 refine HP.out.mono ?_;rintro e w2⟨k,ns',rfl,hd2,hi,hns,hs⟩;have HR:Hid (RetE P B (N+1) w g ns idV (.root a) (.returned (idV k)) w2):=hdd (by
  obtain⟨q1,q2,q3⟩:=af5 HS.out.all HA.out hi hns HE.out;refine⟨k,ns',rfl,HS.out.step hd2 q2 hs ?_,q3,q1,hs⟩;have:=HS.out.room;rcases hns with rfl|rfl
  . omega
  . simp;omega)
 unfold idV at HR;clear hd2 hi hns hs;go_wp2;go_ret;exact HR.out
theorem St.made {P:Ex->Prop}{w':World}{g mb:Nat}{B:Nat}(hT:Tab w')(htb:0<B)(hB:B<=w'.heap.size)(h1:w'.heap[g]? =some (.cells #[.slice none 0 0,.map (some mb)] 65 (0,0)))(h2:w'.heap[mb]? =some (.map #[] 0))(hne:mb≠g)(hg:B<=g)(hm:B<=mb):St P B 0 w' g []:=by
 refine⟨Or.inl ⟨.slice none 0 0,mb,fun _=>none,h1,World.ownsRow_nil _ _ _ _,MapP.made (es:=#[]) h2,⟨by simp,by simp⟩,by simp[ay3],hne,by simp[ay3],by simp,by simp⟩,fun k hk=>by simp at hk,?_,hT,htb,hB,by simp⟩;rintro b(rfl|⟨v,mb',T,e,hb⟩)
 . exact hg
 . rw[h1]at e
   simp only[Option.some.injEq,Obj.cells.injEq,Array.mk.injEq,List.cons.injEq,Value.map.injEq,and_true]at e;obtain⟨⟨rfl,rfl⟩,-⟩:=e;rcases hb with hb|hb
   . simp[ay3]at hb
   . cases hb;exact hm
def IntsD(g:Nat)(w:World)(v:Value)(l:List Nat):Prop:=IntsP (fun b=>¬DagB w g b) w v l
theorem IntsD.ds {g:Nat}{w w':World}(h:IntsD g w v l)(hs:DS g w w'):IntsD g w' v l:=by
 obtain⟨b,c,e,h1,h2,h3,h4,h5⟩:=h;exact⟨b,c,e,h1,h2,hs.2 b h4 h3,ay7 h4 hs.size,fun k x hx=>hs.cell (h5 k x hx) h3⟩
def iH(kind:Int)(e0:Ex)(es:List Ex):Ex:=es.foldl (opE kind) e0
theorem tX{kind:Int}{es:List Ex}{m:Nat}{e:Ex}(h:es[m]? =some e):iH kind e0 (es.take (m+1))=opE kind (iH kind e0 (es.take m)) e:=by
 have:es.take (m+1)=es.take m++[e]:=by
  rw[ay8,h];rfl
 rw[this];simp[iH]
def FoldSt(P:Ex->Prop)(B N:Nat)(w:World)(g:Nat)(ns:List Nd)(x:Ex)(k:Nat)(wr:World):Prop:=∃ns',St P B N wr g ns'/\ns<+:ns'/\Is ns' x k/\DS g w wr
theorem agN{P:Ex->Prop}{B N:Nat}{w:World}{g:Nat}{ns:List Nd}{kind:Int}{es:List Ex}(hs:St P B N w g ns)(hk:kind=1\/kind=3)(hl:IntsD g w v (i0::l))(hlen:l.length=es.length)(h0:0<l.length)
 (he0:Is ns e0 i0) (hes:∀(m x:Nat) e,l[m]? =some x->es[m]? =some e->Is ns e x) (hP:∀m,m<es.length->P (iH kind e0 (es.take (m+1)))) (hN:N+l.length<=20000):
 Calls Tryz.prog 63 #[.pointer (some ⟨g,0,none⟩),.int .i64 kind,v] w (RetE P B (N+l.length) w g ns idV (iH kind e0 es)):=by
 have HL:=hdd hl;obtain⟨b,c,rfl,hc1,hc2,hn,hbl,hcell⟩:=id hl;have c0:=hcell 0 i0 rfl;have HH:=hdd (wZ hs.dag he0.lt);have HS0:Hid (FoldSt P B (N+0) w g ns (iH kind e0 (es.take 0)) i0 w):=hdd ⟨ns,hs,List.prefix_rfl,by simpa[iH]using he0,DS.refl g w⟩;have HES:=hdd hes;have HPP:=hdd hP;have HLE:=hdd hlen;simp only[azB]at hc1|-;have hcap:(l.length:Int)+1<=(c:Int):=by omega
 have hc2':(c:Int)<=9223372036854775807:=by unfold maxLen at hc2;omega
 have hl20:(l.length:Int)<=20000:=by omega
 have hl1:(1:Int)<=(l.length:Int):=by omega
 have HCN:Hid (1<c):=hdd (by omega);have hcn:¬(c=1):=by omega
 have HNN:=hdd hN;clear hs hl he0 hes hP hlen hn hbl hcell hc1 hc2;go_enter Tryz.func63,Tryz.ntmps63
 go_wp2_with fail
 refine HH.out.mono ?_;rintro e w2⟨rfl,hw⟩;obtain rfl:=hw;go_wp2_with fail
 go_loopw [7,20] (fun id i wr=>∃m k:Nat,m<=l.length/\i=.int .i64 (m:Int)/\id=.int .i64 (k:Int)/\Hid (FoldSt P B (N+m) w g ns (iH kind e0 (es.take m)) k wr)) (fun _ i _=>((l.length:Int)-intOf i).toNat)
 case atStart=>exact⟨0,i0,azC _,rfl,rfl,HS0⟩
 case round=>
  obtain⟨m,k,hm,rfl,rfl,HF⟩:=hrel;rcases azA m l.length with hlt|hge
  . obtain⟨x,hx⟩:∃x,l[m]? =some x:=⟨_,ay1 hlt⟩
    obtain⟨y,hy⟩:∃y,es[m]? =some y:=⟨_,ay1 (by have:=HLE.out;omega)⟩;obtain⟨ns1,hs1,hp1,hi1,hd1⟩:=HF.out;have cx:wr.cell? ⟨b,1+m,none⟩=some (.int .i64 (x:Int)):=IntsP.cell (HL.out.ds hd1) (by rw[Nat.add_comm];exact hx);have hIx:Is ns1 y x:=(HES.out m x y hx hy).mono hp1;have hPP:=HPP.out m (by have:=HLE.out;omega);rw[tX hy]at hPP;have hkb:tJ kind:=by rcases hk with rfl|rfl<;>simp[tJ]
    have HPT:=hdd (mM (n:=⟨kind,0,k,x⟩) hs1.dag (ab9 hkb hi1.lt hIx.lt hs1.dag.len) (by simp) (by have:=hs1.room;have:=HNN.out;omega));have HR:Hid (∀(w':World) (k':Nat) (ns':List Nd),DagP w' g ns'->ns'[k']? =some ⟨kind,0,k,x⟩->(ns'=ns1\/ns'=ns1++[⟨kind,0,k,x⟩])->DS g wr w'->FoldSt P B (N+(m+1)) w g ns (iH kind e0 (es.take (m+1))) k' w'):=
     hdd fun w' k' ns' q1 q2 q3 q4=>by
      obtain⟨k2,ns2,e2,r1,r2,r3,r4⟩:=agL (mk:=idV) hs1 hkb hi1 hIx hPP q1 q2 q3 q4;have:k'=k2:=by
       have e3:Value.int .i64 (k':Int)=.int .i64 (k2:Int):=Ending.returned.inj e2;injection e3 with _ e3;omega
      subst this;rw[tX hy];exact⟨ns2,r1,hp1.trans r2,r3,hd1.trans r4⟩
    have hkI:(m:Int)<(l.length:Int):=by omega
    have hk0:(0:Int)<=(m:Int):=by omega
    have HLT:=hdd hlt;clear hx hy hs1 hp1 hi1 hd1 hIx hPP hkb hlt HF;dsimp only at HPT;go_wp2_with fail
    refine HPT.out.mono ?_;rintro e w3⟨k',ns',rfl,q1,q2,q3,q4⟩;have HFN:=hdd (HR.out _ _ _ q1 q2 q3 q4);clear q1 q2 q3 q4 HR HPT cx;go_wp2_with fail
    go_roundw
    case rel=>exact⟨m+1,k',by have:=HLT.out;omega,by go_num,rfl,HFN⟩
    case measure=>have:=HLT.out;simp[intOf];omega
  . have hme:m=l.length:=by omega
    subst hme;have HRES:Hid (RetE P B (N+l.length) w g ns idV (iH kind e0 es) (.returned (.int .i64 (k:Int))) wr):=hdd (by
     obtain⟨ns1,q1,q2,q3,q4⟩:=HF.out;rw[ay6 (by have:=HLE.out;omega)]at q3;exact⟨k,ns1,rfl,q1,q2,q3,q4⟩)
    clear hm hge HF;go_wp2;go_ret;exact HRES.out
theorem agO{P:Ex->Prop}{B N:Nat}{w:World}{g:Nat}{ns:List Nd}{es:List Ex}(hs:St P B N w g ns)(hl:IntsD g w v (i0::l))(hlen:l.length=es.length)(h0:0<l.length)
 (he0:Is ns e0 i0) (hes:∀(m x:Nat) e,l[m]? =some x->es[m]? =some e->Is ns e x) (hP:∀m,m<es.length->P (iH 1 e0 (es.take (m+1)))) (hN:N+l.length<=20000):
 Calls Tryz.prog 38 #[.pointer (some ⟨g,0,none⟩),v] w (RetE P B (N+l.length) w g ns idV (iH 1 e0 es)):=by
 have HF:=hdd (agN hs (Or.inl rfl) hl hlen h0 he0 hes hP hN);obtain⟨b,c,rfl,hc1,hc2,hn,hbl,hcell⟩:=id hl;simp only[azB]at*;have hl1:(1:Int)<=(l.length:Int):=by omega
 have hl2:(l.length:Int)<=20000:=by omega
 have hq:((l.length:Int)+1==0)=false:=beq_eq_false_iff_ne.2 (by omega);have hq2:(((l.length+1:Nat):Int)==0)=false:=beq_eq_false_iff_ne.2 (by omega);clear hs hl he0 hes hP hlen hn hbl hcell hc1 hc2 h0 hN;go_enter Tryz.func38,Tryz.ntmps38
 go_wp2_with fail
 refine HF.out.mono ?_;rintro e w2⟨k,ns',rfl,h⟩;have HR:=hdd h;clear h;unfold idV;go_wp2;go_ret;exact⟨k,ns',rfl,HR.out⟩
def agP(P:Ex->Prop)(B:Nat)(w:World)(e:Ending)(w':World):Prop:=∃g,e=.returned (.pointer (some ⟨g,0,none⟩))/\St P B 0 w' g []/\Below w.heap.size w w'/\w.heap.size<=g
theorem aiC{P:Ex->Prop}{B:Nat}{w:World}(hT:Tab w)(htb:0<B)(hB:B<=w.heap.size):
 Calls Tryz.prog 6 #[.bool true] w (agP P B w):=by
 obtain⟨w1,hw1,hb1,hs1,b1⟩:=pro1 w (.cells #[.slice none 0 0,.map none] 65);obtain⟨w2,hw2,hb2,hs2,b2⟩:=pro1 w1 (.map #[] 0);have h12:=aA hb1 hb2;have b1':=hbl b1 hb2;obtain⟨c0,c1,f0,f1⟩:=aB b1';have hmm:=@run_makeMap Tryz.prog;have HR:Hid (agP P B w (.returned (.pointer (some ⟨w.heap.size,0,none⟩))) (w2.setCell ⟨w.heap.size,1,none⟩ (.map (some w1.heap.size)))):=hdd (by
  have hb3:Below w.heap.size w (w2.setCell ⟨w.heap.size,1,none⟩ (.map (some w1.heap.size))):=h12.setCell nlr _;have g1:=setB b1' (.map (some w1.heap.size));have g2:(w2.setCell ⟨w.heap.size,1,none⟩ (.map (some w1.heap.size))).heap[w1.heap.size]? =some (.map #[] 0):=by
   rw[ay2 _ _ _ _ (by simp;omega)];exact b2
  exact⟨_,rfl,St.made (hT.below hb3) htb (ay4 hB hb3.size) g1 g2 (by omega) hB (by omega),hb3,Nat.le_refl _⟩)
 clear hT htb hB hb1 hb2 b1 b2 b1' h12 hs1 hs2;go_enter Tryz.func6,Tryz.ntmps6
 go_wp2;go_ret;exact HR.out
abbrev numV(g k:Nat):Value:=.agg #[.pointer (some ⟨g,0,none⟩),.int .i64 (k:Int)]
theorem jZ{w:World}{g k:Nat}{ns:List Nd}(hd:DagP w g ns)(hk:k<ns.length):Calls Tryz.prog 33 #[.agg #[.pointer (some ⟨g,0,none⟩),.int .i64 (k:Int)]] w (RetV w (.bool true)):=by
 obtain⟨w1,hw1,hb1,hs1,b1⟩:=pro1 w (.cells #[.pointer (some ⟨g,0,none⟩),.int .i64 (k:Int)] 33);obtain⟨c0,c1,-,-⟩:=aB b1;obtain⟨n,hn⟩:∃n,ns[k]? =some n:=⟨_,ay1 hk⟩;have HN:=hdd (y7 (hd.below hb1) hn);have HB:=hdd hb1;obtain⟨kind,val,na,nb⟩:=n;unfold iA at HN;have hst:=aT;clear hd hk hn hb1 hs1 b1;go_enter Tryz.func33,Tryz.ntmps33
 go_wp2_with fail
 refine HN.out.mono ?_;rintro e w2⟨rfl,hb2⟩;obtain⟨w3,hw3,z0,z1,z2,z3,y0,y1,y2,y3,w4,hw4,hb4,hs4⟩:=new4 w2 87 (.int .i64 0) (.float .f64 0) (.int .i64 0) (.int .i64 0) (.int .i64 kind) (.float .f64 val) (.int .i64 na) (.int .i64 nb);have HB4:=hdd (aA (aA HB.out hb2) hb4);clear hb2 hb4 hs4;go_wp2;go_ret;exact⟨rfl,HB4.out⟩
theorem aiD:Tryz.prog.underlying 24=some (.pointer 65):=by kernel_rfl
theorem agQ:(Tryz.prog.info? 65).map (·.size)=some 2:=by kernel_rfl
theorem aiE(a:Addr)(w:World):(binOp .neq 24 (.pointer (some a)) (.pointer (some a))).run Tryz.prog w=.ok (.bool false) w:=by
 cases h:Tryz.prog.info? 65 with
 |none=>have:=agQ;rw[h]at this;simp at this
 |some j=>exact Go.Lib.run_neq_ptr_same w a aiD h
def NumsP(w:World)(v:Value)(g:Nat)(l:List Nat):Prop:=
 ∃b c,v=.slice (some ⟨b,0,none⟩) l.length c/\l.length<=1000/\∀(i x:Nat),l[i]? =some x->w.cell? ⟨b,i*2,none⟩=some (.pointer (some ⟨g,0,none⟩))/\w.cell? ⟨b,i*2+1,none⟩=some (.int .i64 (x:Int))
theorem NumsP.below {w w':World}{g:Nat}(h:NumsP w v g l)(hb:Below w.heap.size w w'):NumsP w' v g l:=by
 obtain⟨b,c,e,h1,h2⟩:=h;exact⟨b,c,e,h1,fun i x hx=>⟨cell_below (h2 i x hx).1 hb nlr,cell_below (h2 i x hx).2 hb nlr⟩⟩
theorem NumsP.at {w:World}{g:Nat}(h:NumsP w (.slice (some ⟨b,0,none⟩) n c) g l){x:Nat}(hx:l[i]? =some x):w.cell? ⟨b,i*2,none⟩=some (.pointer (some ⟨g,0,none⟩))/\w.cell? ⟨b,i*2+1,none⟩=some (.int .i64 (x:Int)):=by
 obtain⟨b',c',e,h1,h2⟩:=h;injection e with e;cases e
 exact h2 i x hx
theorem zN{w:World}{g k:Nat}{ns:List Nd}(hd:DagP w g ns)(hk:k<ns.length)(hl:NumsP w v g l)(hll:∀x∈l,x<ns.length):
 Calls Tryz.prog 35 #[.agg #[.pointer (some ⟨g,0,none⟩),.int .i64 (k:Int)],v] w (RetV w (.bool true)):=by
 obtain⟨w1,hw1,hb1,hs1,b1⟩:=pro1 w (.cells #[.pointer (some ⟨g,0,none⟩),.int .i64 (k:Int)] 33);obtain⟨c0,c1,-,-⟩:=aB b1;have HV:=hdd (jZ (hd.below hb1) hk);have HD:=hdd hd;have HLL:=hdd hll;have HNP:=hdd hl;have HB:=hdd hb1;obtain⟨b,c,rfl,hl1,-⟩:=id hl;have hlI:(l.length:Int)<=1000:=by omega
 have hnq:=aiE ⟨g,0,none⟩;clear hd hk hl hll hb1 hs1 b1 hl1;go_enter Tryz.func35,Tryz.ntmps35
 go_wp2_with fail
 refine HV.out.mono ?_;rintro e w2⟨rfl,hb2⟩;have HB2:=hdd (aA HB.out hb2);replace c0:=cbl c0 hb2;replace c1:=cbl c1 hb2;clear hb2;go_wp2_with fail
 go_loopw [12] (fun i wr=>∃m:Nat,m<=l.length/\i=.int .i64 (m:Int)/\Hid (Below w2.heap.size w2 wr)) (fun i _=>((l.length:Int)-intOf i).toNat)
 case atStart=>exact⟨0,azC _,rfl,hdd (ay9 _ _)⟩
 case round=>
  obtain⟨m,hm,rfl,HF⟩:=hrel;rcases azA m l.length with hlt|hge
  . obtain⟨x,hx⟩:∃x,l[m]? =some x:=⟨_,ay1 hlt⟩
    have hbr:=HB2.out.trans (HF.out.mono HB2.out.size);obtain⟨x0,x1⟩:=(HNP.out.below hbr).at hx;obtain⟨w3,hw3,hb3,hs3,b3⟩:=pro1 wr (.cells #[.pointer none,.int .i64 0] 33);obtain⟨p0,p1,pf0,pf1⟩:=aB b3;have g1:=set2 b3 (.pointer (some ⟨g,0,none⟩)) (.int .i64 (x:Int));obtain⟨w4,hw4⟩:∃w4,(w3.setCell ⟨wr.heap.size,0,none⟩ (.pointer (some ⟨g,0,none⟩))).setCell ⟨wr.heap.size,1,none⟩ (.int .i64 (x:Int))=w4:=⟨_,rfl⟩;have hb4:Below wr.heap.size wr w4:=by rw[<-hw4];exact(hb3.setCell nlr _).setCell nlr _
    rw[hw4]at g1;obtain⟨y0,y1,-,-⟩:=aB g1;have e0:=cell_below (cbl c0 HF.out) hb4 nlr;have e1:=cell_below (cbl c1 HF.out) hb4 nlr;have HVX:=hdd (jZ (HD.out.below (hbr.trans (hb4.mono hbr.size))) (HLL.out x (List.mem_of_getElem? hx)));have HF4:=hdd (aA HF.out hb4);have hkI:(m:Int)<(l.length:Int):=by omega
    have hk0:(0:Int)<=(m:Int):=by omega
    have HLT:=hdd hlt;clear hx hbr hb3 hs3 b3 g1 hb4 hlt;go_wp2_with fail
    refine HVX.out.mono ?_;rintro e w5⟨rfl,hb5⟩;have HF5:=hdd (aA HF4.out hb5);clear hb5;go_wp2_with fail
    go_roundw
    case rel=>exact⟨m+1,by have:=HLT.out;omega,by go_num,HF5⟩
    case measure=>have:=HLT.out;simp[intOf];omega
  . have hme:m=l.length:=by omega
    subst hme;have HR:=hdd (HB2.out.trans (HF.out.mono HB2.out.size));clear hm hge HF;go_wp2;go_ret;exact⟨rfl,HR.out⟩
theorem agR{w:World}(h:w.ownsRow base 3 1 v l.length (bD l))(hl:0<l.length):IntsP (fun b=>base<=b) w v l:=by
 rcases id h.2 with ⟨rfl,hn⟩|⟨r,cap,cur,rfl,hr,hh,hcap,hmax,hsz,hcur⟩
 . omega
 . refine⟨r,cap,rfl,hcap,hmax,hr,aC hh,fun k x hx=> ?_⟩
   have hk:=(ay5.1 hx).1;rw[h.cellAt k (by omega)];simp[bD,hx]
def aa7(w:World)(l:List Nat)(e:Ending)(w':World):Prop:=Below w.heap.size w w'/\∃v,e=.returned v/\IntsP (fun b=>w.heap.size<=b) w' v l
theorem zO(l:List Nat)(x:Nat):bD l++[.int .i64 (x:Int)]=bD (l++[x]):=by simp[bD]
theorem aiF{w:World}{g k:Nat}(hl:NumsP w v g l):
 Calls Tryz.prog 39 #[.agg #[.pointer (some ⟨g,0,none⟩),.int .i64 (k:Int)],v] w (aa7 w (k::l)):=by
 obtain⟨w1,hw1,hb1,hs1,b1⟩:=pro1 w (.cells #[.pointer (some ⟨g,0,none⟩),.int .i64 (k:Int)] 33);obtain⟨c0,c1,-,-⟩:=aB b1;obtain⟨b,c,rfl,hl1,-⟩:=id hl;have hlI:(l.length:Int)<=1000:=by omega
 obtain⟨i0,hi0,hz0,hz1,hz2⟩:=info_parts tL;obtain⟨w2,hrun,hown,hgr⟩:=run_make_own (P:=Tryz.prog) w1 w1.heap.size 42 3 i0 (.int .i64 0) 1 lF hi0 hz0 hz1 .i64 .i64 (l.length+1) (by rw[hz2];omega) (by unfold maxLen;omega) nlr;have hb2:Below w1.heap.size w1 w2:=⟨hgr.os,hgr.tape,hgr.output,hgr.size,fun b hb=>hgr.block b hb (by simp)⟩;have hrun':(Instr.makeSlice 42 (.int .i64 0) (.int .i64 ((l.length:Int)+1))).run Tryz.prog w1=.ok (.slice (some ⟨w1.heap.size,0,none⟩) 0 (l.length+1)) w2:=by simpa using hrun
 obtain⟨w3,hw3,hb3,hs3,b3⟩:=pro1 w2 (.cells #[.int .i64 (k:Int)] 3);replace c0:=cbl c0 hb2;replace c1:=cbl c1 hb2;have HNP:=hdd hl;have HB1:=hdd hb1;have HB3:=hdd (aA hb2 hb3);have HO3:=hdd (hown.kept (aY (row:=none) hb3) (Or.inr (by simp[ay3])));have HC3:=hdd (iN b3);have HI0:=hdd hi0;have HZ0:=hdd hz0;have HZ1:=hdd hz1;have HZ2:=hdd hz2;have d0:=cbl c0 hb3;have d1:=cbl c1 hb3;have HL1:=hdd hl1;have HS3:Hid (w1.heap.size<=w3.heap.size):=hdd (aA hb2 hb3).size;clear hl hb1 hs1 b1 hl1 hi0 hz0 hz1 hz2 hrun hown hgr hb2 hb3 hs3 b3;go_enter Tryz.func39,Tryz.ntmps39
 go_wp2_with (first
  |(at_builtin
    go_loud (
    refine wpList_append_lies _ rfl _ _ 42 rfl w1.heap.size 3 i0 (.int .i64 0) 1 8 lF HI0.out HZ0.out HZ1.out HZ2.out rfl (by decide) _ 0 [] rfl HO3.out ⟨w2.heap.size,0,none⟩ 1 1 [.int .i64 (k:Int)] rfl rfl HC3.out (by simp[azD]) (by decide) (by unfold maxLen;omega) (by omega) HS3.out w3.heap.size rfl ?_;intro r cap w4 hown4 hgrow4 hat4 hlt4;have HO4:=hdd hown4;have HG4:=hdd hgrow4;clear hown4 hgrow4 hat4 hlt4)))
 have HR4:Hid (w4.ownsRow w1.heap.size 3 1 (.slice (some ⟨r,0,none⟩) 1 cap) 1 (bD [k])/\Below w1.heap.size w1 w4):=hdd ⟨by simpa[bD]using HO4.out,HB3.out.trans (Below.of_grown HG4.out HS3.out (by simp[ay3]at*))⟩;clear hw3 hw1 hrun' c0 c1 d0 d1
 go_loopw [5,19] (fun v i wr=>∃m r cap:Nat,m<=l.length/\i=.int .i64 (m:Int)/\v=.slice (some ⟨r,0,none⟩) (m+1) cap/\Hid (wr.ownsRow w1.heap.size 3 1 (.slice (some ⟨r,0,none⟩) (m+1) cap) (m+1) (bD (k::l.take m))/\Below w1.heap.size w1 wr)) (fun _ i _=>((l.length:Int)-intOf i).toNat)
 case atStart=>exact⟨0,r,cap,azC _,rfl,rfl,by simpa using HR4⟩
 case round=>
  obtain⟨m,r1,cap1,hm,rfl,rfl,HF⟩:=hrel;rcases azA m l.length with hlt|hge
  . obtain⟨x,hx⟩:∃x,l[m]? =some x:=⟨_,ay1 hlt⟩
    obtain⟨hown,hbl⟩:=HF.out;have hbr:=HB1.out.trans (hbl.mono HB1.out.size);obtain⟨x0,x1⟩:=(HNP.out.below hbr).at hx;obtain⟨w5,hw5,hb5,hs5,b5⟩:=pro1 wr (.cells #[.pointer none,.int .i64 0] 33);obtain⟨p0,p1,pf0,pf1⟩:=aB b5;have g1:=set2 b5 (.pointer (some ⟨g,0,none⟩)) (.int .i64 (x:Int));obtain⟨w6,hw6⟩:∃w6,(w5.setCell ⟨wr.heap.size,0,none⟩ (.pointer (some ⟨g,0,none⟩))).setCell ⟨wr.heap.size,1,none⟩ (.int .i64 (x:Int))=w6:=⟨_,rfl⟩;have hb6:Below wr.heap.size wr w6:=by rw[<-hw6];exact(hb5.setCell nlr _).setCell nlr _
    rw[hw6]at g1;obtain⟨y0,y1,-,-⟩:=aB g1;obtain⟨w7,hw7,hb7,hs7,b7⟩:=pro1 w6 (.cells #[.int .i64 (x:Int)] 3);have h7:=aA hb6 hb7;have HO7:=hdd (hown.kept (aY (row:=none) h7) (Or.inr (by simp[ay3])));have HC7:=hdd (iN b7);have HB7:=hdd (hbl.trans (h7.mono hbl.size));have HSZ:Hid (w1.heap.size<=w7.heap.size):=hdd HB7.out.size;have hkI:(m:Int)<(l.length:Int):=by omega
    have hk0:(0:Int)<=(m:Int):=by omega
    have HLT:=hdd hlt;have HTK:Hid (l.take (m+1)=l.take m++[x]):=hdd (by rw[ay8,hx];rfl);have HRB:=hdd (hown.lt r1 rfl).1;clear hx hbr hb5 hs5 b5 g1 hb6 hb7 hs7 b7 h7 hown hbl hlt HF;go_wp2_with (first
    |(at_builtin
      go_loud (
      refine wpList_append_lies _ rfl _ _ 42 rfl w1.heap.size 3 i0 (.int .i64 0) 1 8 lF HI0.out HZ0.out HZ1.out HZ2.out rfl (by decide) _ (m+1) (bD (k::l.take m)) rfl HO7.out ⟨w6.heap.size,0,none⟩ 1 1 [.int .i64 (x:Int)] rfl rfl HC7.out (by simp[azD]) (by decide) (by have:=HL1.out;unfold maxLen;omega) (by have:=HL1.out;omega) HSZ.out w7.heap.size rfl ?_;intro r2 cap2 w8 hown8 hgrow8 hat8 hlt8;have HF8:Hid (w8.ownsRow w1.heap.size 3 1 (.slice (some ⟨r2,0,none⟩) (m+1+1) cap2) (m+1+1) (bD (k::l.take (m+1)))/\Below w1.heap.size w1 w8):=hdd ⟨by rw[HTK.out,<-List.cons_append,<-zO];exact hown8,HB7.out.trans (Below.of_grown hgrow8 HSZ.out HRB.out)⟩;clear hown8 hgrow8 hat8 hlt8)))
    go_roundw
    case rel=>exact⟨m+1,r2,cap2,by have:=HLT.out;omega,by go_num,rfl,HF8⟩
    case measure=>have:=HLT.out;simp[intOf];omega
  . have hme:m=l.length:=by omega
    subst hme;have HRES:Hid (aa7 w (k::l) (.returned (.slice (some ⟨r1,0,none⟩) (l.length+1) cap1)) wr):=hdd (by
     obtain⟨hown,hbl⟩:=HF.out;refine⟨HB1.out.trans (hbl.mono HB1.out.size),_,rfl,?_⟩;rw[ay6 nlr]at hown;obtain⟨b',c',q1,q2,q3,q4,q5⟩:=agR (l:=k::l) hown (by simp);exact⟨b',c',q1,q2,q3,ay4 HB1.out.size q4,q5⟩)
    clear hm hge HF;go_wp2;go_ret;exact HRES.out
section
variable{P:Ex->Prop}{B N:Nat}{w w' w'':World}{g k:Nat}{ns ns':List Nd}{x:Ex}
theorem St.away (hs:St P B N w g ns)(hb:Below w.heap.size w w')(h:w.heap.size<=b):¬DagB w' g b:=fun hd=>by
 have:=hs.dag.dagB ((DagB.congr (hb.block g hs.dag.glt)).1 hd);omega
theorem qH{w:World}{e:TypeId}{size:Nat}{xs:List Value}(h:w.ownsRow base e size v n xs)(hb:v.ownBlock≠some b)(u:Value):(w.setCell ⟨b,i,none⟩ u).ownsRow base e size v n xs:=by
 refine h.kept (grownBy_set (grownBy_refl w (some b)) u) ?_;exact Or.inr hb
theorem DagP.setCell (h:DagP w g ns)(hn:¬DagB w g b)(u:Value):DagP (w.setCell ⟨b,i,none⟩ u) g ns:=by
 rcases h with h|⟨v,h1,h2,h3⟩
 . obtain⟨A,c,mb,m,ho⟩:=h.opened
   obtain⟨q1,q2,q3⟩:=ho.dagB hn;obtain⟨h1,h2,h3,h4⟩:=ho;exact(show DagO _ g ns A c mb m from⟨(ay2 w _ u g (by simpa using Ne.symm q1)).trans h1,qH h2 q3 u,h3.keep (ay2 w _ u mb (by simpa using Ne.symm q2)),h4⟩).dag
 . exact Or.inr ⟨v,(ay2 w _ u g (by simpa using fun e=>hn (Or.inl e.symm))).trans h1,qH h2 (fun e=>hn (Or.inr ⟨_,_,_,h1,Or.inl e⟩)) u,h3⟩
theorem tY(hn:¬DagB w g b)(u:Value):DagB (w.setCell ⟨b,i,none⟩ u) g c↔DagB w g c:=
 DagB.congr (ay2 w _ u g (fun e=>hn (Or.inl (by simpa using e.symm))))
theorem DS.setCell (h:DS g w w')(hb:w.heap.size<=b)(hn:¬DagB w' g b)(u:Value):DS g w (w'.setCell ⟨b,i,none⟩ u):=
 ⟨⟨h.1.os,h.1.tape,h.1.output,by simpa[World.setCell]using h.1.size,fun c hc hd=>(ay2 w' _ u c (by simp;omega)).trans (h.1.block c hc hd)⟩,fun c hc hd hd'=>h.2 c hc hd ((tY hn u).1 hd')⟩
theorem FoldSt.setCell (h:FoldSt P B N w g ns x k w')(hb:w.heap.size<=b)(hn:¬DagB w' g b)(hB:B<=b)(u:Value):FoldSt P B N w g ns x k (w'.setCell ⟨b,i,none⟩ u):=by
 obtain⟨ns',h1,h2,h3,h4⟩:=h;refine⟨ns',⟨h1.dag.setCell hn u,h1.all,fun c hc=>h1.hi c ((tY hn u).1 hc),h1.tab.step (ay2 w' _ u _ (by have:=h1.tb;simp;omega)),h1.tb,by simpa[World.setCell]using h1.hB,h1.room⟩,h2,h3,h4.setCell hb hn u⟩
theorem FoldSt.ret (h:FoldSt P B N w g ns x k w')(mk:Nat->Value):RetE P B N w g ns mk x (.returned (mk k)) w':=by
 obtain⟨ns',h1,h2,h3,h4⟩:=h;exact⟨k,ns',rfl,h1,h2,h3,h4⟩
theorem FoldSt.ahead (h:FoldSt P B N w g ns x k w')(hg:g<w0.heap.size)(hb:Below w0.heap.size w0 w):FoldSt P B N w0 g ns x k w':=by
 obtain⟨ns',h1,h2,h3,h4⟩:=h;exact⟨ns',h1,h2,h3,(DS.of_below hg hb).trans h4⟩
theorem FoldSt.set2 (h:FoldSt P B N w g ns x k w')(hs:St P B 0 w0 g []\/True)(hg:g<w0.heap.size)(hb0:Below w0.heap.size w0 w)(hb:w0.heap.size<=b)(hn:¬DagB w g b)(hlt:b<w.heap.size)(hB:B<=b)(u v:Value):
 FoldSt P B N w0 g ns x k ((w'.setCell ⟨b,0,none⟩ u).setCell ⟨b,1,none⟩ v):=by
 have h0:=h.ahead hg hb0;have hn':¬DagB w' g b:=by
  obtain⟨ns',h1,h2,h3,h4⟩:=h;exact h4.2 b hlt hn
 exact(h0.setCell hb hn' hB u).setCell hb (fun hd=>hn' ((tY hn' u).1 hd)) hB v
end
theorem ajY{P:Ex->Prop}{B N:Nat}{w:World}{g:Nat}{ns:List Nd}{v:Nat}(hs:St P B N w g ns)(hN:N<20000)(hv:v<18446744073709551616)(hf:fin v)(hP:P (.leaf v)):
 Calls Tryz.prog 12 #[.pointer (some ⟨g,0,none⟩),.float .f64 v] w (RetE P B (N+1) w g ns (numV g) (.leaf v)):=by
 obtain⟨w1,hw1,hb1,hs1,b1⟩:=pro1 w (.cells #[.pointer none,.int .i64 0] 33);have HL:=hdd (zM (hs.below hb1) hN hv hf hP);have hn1:¬DagB w1 g w.heap.size:=hs.away hb1 nlr;have HB1:=hdd b1;have HN1:=hdd hn1;have HGL:=hdd hs.dag.glt;have HBL:=hdd hs.hB;have HBB:=hdd hb1;have HS1:Hid (w.heap.size<w1.heap.size):=hdd (by omega);clear hs hN hv hf hP hb1 hs1 b1 hn1;go_enter Tryz.func12,Tryz.ntmps12
 go_wp2_with fail
 refine HL.out.mono ?_;rintro e w2⟨k,ns',rfl,h1,h2,h3,h4⟩;have b2:=(h4.heap HS1.out HN1.out).trans HB1.out;obtain⟨c0,c1,f0,f1⟩:=aB b2;have HF:Hid (FoldSt P B (N+1) w g ns (.leaf v) k ((w2.setCell ⟨w.heap.size,0,none⟩ (.pointer (some ⟨g,0,none⟩))).setCell ⟨w.heap.size,1,none⟩ (.int .i64 (k:Int)))):=
  hdd (FoldSt.set2 (w0:=w) (w:=w1) ⟨ns',h1,h2,h3,h4⟩ (Or.inr trivial) HGL.out HBB.out nlr HN1.out HS1.out HBL.out _ _)
 have HG:=hdd (set2 b2 (.pointer (some ⟨g,0,none⟩)) (.int .i64 (k:Int)));clear h1 h2 h3 h4 b2;go_wp2;obtain⟨x0,x1,-,-⟩:=aB HG.out;refine bodyPost_ret (v:=.agg #[_,_]) (by simp[results,Tryz.results12,go_sem,x0,x1];first|exact⟨rfl,rfl⟩|rfl) rfl ?_;exact HF.out.ret (numV g)
theorem agS{w:World}{g:Nat}{T:TypeId}(h:w.heap[b]? =some (.cells #[.pointer (some ⟨g,0,none⟩),.int .i64 (j:Int)] T (0,0))):NumsP w (.slice (some ⟨b,0,none⟩) 1 1) g [j]:=by
 obtain⟨c0,c1,-,-⟩:=aB h;refine⟨b,1,rfl,by simp,fun i x hx=> ?_⟩
 cases i with
 |zero=>simp at hx;subst hx;exact⟨c0,c1⟩
 |succ i=>simp at hx
theorem aiG{P:Ex->Prop}{B N:Nat}{w:World}{g:Nat}{ns:List Nd}{b:Ex}(hs:St P B N w g ns)(hN:N<20000)(ha:Is ns a i)(hb:Is ns b j)(hP:P (.sub a b)):
 Calls Tryz.prog 17 #[numV g i,numV g j] w (RetE P B (N+1) w g ns (numV g) (.sub a b)):=by
 obtain⟨w3,hw3,hb3,hs3,b1,b2,b3⟩:=pro3 w (.cells #[.pointer (some ⟨g,0,none⟩),.int .i64 (i:Int)] 33) (.cells #[.pointer (some ⟨g,0,none⟩),.int .i64 (j:Int)] 33) (.cells #[.pointer none,.int .i64 0] 33);obtain⟨w4,hw4,hb4,hs4,b4⟩:=pro1 w3 (.cells #[.pointer (some ⟨g,0,none⟩),.int .i64 (j:Int)] 33);have h34:=aA hb3 hb4;have HG:=hdd (zN (hs.dag.below h34) ha.lt (agS b4) (fun x hx=>by simp at hx;subst hx;exact hb.lt));have HOP:Hid (∀w',Below w.heap.size w w'->Calls Tryz.prog 41 #[.pointer (some ⟨g,0,none⟩),.int .i64 (i:Int),.int .i64 (j:Int)] w' (RetE P B (N+1) w' g ns idV (.sub a b))):=hdd fun w' h=>acA (hs.below h) hN ha hb hP;have HAW:Hid (∀w' (c:Nat),Below w.heap.size w w'->w.heap.size<=c->¬DagB w' g c):=hdd fun w' c h=>hs.away h;have HGL:=hdd hs.dag.glt;have HBL:=hdd hs.hB;obtain⟨c0,c1,-,-⟩:=aB b1;obtain⟨d0,d1,-,-⟩:=aB b2;have HB4:=hdd h34;have B3:=hdd (hbl b3 hb4);have HSZ:Hid (w.heap.size+2<w4.heap.size):=hdd (by omega);have e0:=cbl c0 hb4;have e1:=cbl c1 hb4
 have e2:=cbl d0 hb4;have e3:=cbl d1 hb4;clear hs hN ha hb hP hb3 hb4 h34 b1 b2 b3 b4 hs3 hs4;go_enter Tryz.func17,Tryz.ntmps17
 go_wp2_with fail
 refine HG.out.mono ?_;rintro e w5⟨rfl,hb5⟩;have hb5d:Below w4.heap.size w4 w5.drew:=aA hb5 (ay9 _ _).drew;replace e0:=cbl e0 hb5d;replace e1:=cbl e1 hb5d;replace e2:=cbl e2 hb5d;replace e3:=cbl e3 hb5d;have HB5:=hdd (aA HB4.out hb5d);have B5:=hdd (hbl B3.out hb5d);have HSZ5:Hid (w.heap.size+2<w5.drew.heap.size):=hdd (by have:=hb5d.size;have:=HSZ.out;omega);clear hb5 hb5d c0 c1 d0 d1 hw3 hw4;have n1:w.heap.size+1+1≠w.heap.size:=by omega
 have n2:w.heap.size≠w.heap.size+1+1:=by omega
 go_wp2_with fail
 go_region_held3 (fun w'=>w'.cell? ⟨w.heap.size,0,none⟩=some (.pointer (some ⟨g,0,none⟩))/\w'.cell? ⟨w.heap.size,1,none⟩=some (.int .i64 (i:Int))/\w'.cell? ⟨w.heap.size+1,1,none⟩=some (.int .i64 (j:Int))) (go_keep)
  (first
  |(go_at_call 41
    refine(HOP.out _ HB5.out).mono ?_;rintro e w6⟨k,ns',rfl,h1,h2,h3,h4⟩;have e0:=h4.cell e0 (HAW.out _ _ HB5.out (by simp));have e1:=h4.cell e1 (HAW.out _ _ HB5.out (by simp));have e3:=h4.cell e3 (HAW.out _ _ HB5.out (by simp));have B6:=(h4.heap (b:=w.heap.size+2) HSZ5.out (HAW.out _ _ HB5.out (by omega))).trans B5.out;obtain⟨r0,r1,f0,f1⟩:=aB B6;have HF:Hid (FoldSt P B (N+1) w g ns (.sub a b) k ((w6.setCell ⟨w.heap.size+2,0,none⟩ (.pointer (some ⟨g,0,none⟩))).setCell ⟨w.heap.size+2,1,none⟩ (.int .i64 (k:Int)))):=
     hdd (FoldSt.set2 (w0:=w) ⟨ns',h1,h2,h3,h4⟩ (Or.inr trivial) HGL.out HB5.out (by omega) (HAW.out _ _ HB5.out (by omega)) HSZ5.out (by have:=HBL.out;omega) _ _)
    have HX:=hdd (set2 B6 (.pointer (some ⟨g,0,none⟩)) (.int .i64 (k:Int)));clear h1 h2 h3 h4 B6))
 go_wp2;obtain⟨x0,x1,-,-⟩:=aB HX.out;refine bodyPost_ret (v:=.agg #[_,_]) (by simp[results,Tryz.results17,go_sem,x0,x1];first|exact⟨rfl,rfl⟩|rfl) rfl ?_;exact HF.out.ret (numV g)
theorem add_num{P:Ex->Prop}{B N:Nat}{w:World}{g:Nat}{ns:List Nd}{es:List Ex}(hs:St P B N w g ns)(hl:NumsP w v g l)(hlen:l.length=es.length)(h0:0<l.length)
 (he0:Is ns e0 i) (hes:∀(m x:Nat) e,l[m]? =some x->es[m]? =some e->Is ns e x) (hP:∀m,m<es.length->P (iH 1 e0 (es.take (m+1)))) (hN:N+l.length<=20000):
 Calls Tryz.prog 14 #[numV g i,v] w (RetE P B (N+l.length) w g ns (numV g) (iH 1 e0 es)):=by
 obtain⟨w2,hw2,hb2,hs2,b1,b2⟩:=pro2 w (.cells #[.pointer (some ⟨g,0,none⟩),.int .i64 (i:Int)] 33) (.cells #[.pointer none,.int .i64 0] 33);have hll:∀x∈l,x<ns.length:=fun x hx=>by
  obtain⟨m,hm⟩:=List.getElem?_of_mem hx;have hml:=(ay5.1 hm).1;exact(hes m x es[m] hm (ay1 (by omega))).lt
 have HG:=hdd (zN (hs.dag.below hb2) he0.lt (hl.below hb2) hll);have HIDS:Hid (∀w',Below w.heap.size w w'->Calls Tryz.prog 39 #[.agg #[.pointer (some ⟨g,0,none⟩),.int .i64 (i:Int)],v] w' (aa7 w' (i::l))):=hdd fun w' h=>aiF (hl.below h);have HAW:Hid (∀w' (c:Nat),Below w.heap.size w w'->w.heap.size<=c->¬DagB w' g c):=hdd fun w' c h=>hs.away h;have HOP:Hid (∀w' v' (q:Nat),Below w.heap.size w w'->w.heap.size<=q->IntsP (fun b=>q<=b) w' v' (i::l)->Calls Tryz.prog 38 #[.pointer (some ⟨g,0,none⟩),v'] w' (RetE P B (N+l.length) w' g ns idV (iH 1 e0 es))):=
  hdd fun w' v' q h hq hi=>by
   obtain⟨b,c,q1,q2,q3,q4,q5,q6⟩:=hi;exact agO (hs.below h) ⟨b,c,q1,q2,q3,hs.away h (ay4 hq q4),q5,q6⟩ hlen h0 he0 hes hP hN
 have HGL:=hdd hs.dag.glt;have HBL:=hdd hs.hB;obtain⟨e0',e1',-,-⟩:=aB b1;have HB2:=hdd hb2;have B2:=hdd b2;have HSZ:Hid (w.heap.size+1<w2.heap.size):=hdd (by omega);obtain⟨bv,cv,rfl,-⟩:=id hl;clear hs hl hlen h0 he0 hes hP hN hll hb2 hs2 b1 b2;go_enter Tryz.func14,Tryz.ntmps14
 go_wp2_with fail
 refine HG.out.mono ?_;rintro e w5⟨rfl,hb5⟩;have hb5d:Below w2.heap.size w2 w5.drew:=aA hb5 (ay9 _ _).drew;replace e0':=cell_below e0' hb5d nlr;replace e1':=cell_below e1' hb5d nlr;have HB5:=hdd (aA HB2.out hb5d);have B5:=hdd (hbl B2.out hb5d);clear hb5 hb5d;have n1:w.heap.size+1≠w.heap.size:=by omega
 have n2:w.heap.size≠w.heap.size+1:=by omega
 go_wp2_with fail
 go_region_held3 (fun w'=>w'.cell? ⟨w.heap.size,0,none⟩=some (.pointer (some ⟨g,0,none⟩))/\w'.cell? ⟨w.heap.size,1,none⟩=some (.int .i64 (i:Int))) (go_keep)
  (first
  |(go_at_call 39
    refine(HIDS.out _ HB5.out).mono ?_;rintro e w6⟨hb6,v6,rfl,hi6⟩;have e0':=cell_below e0' hb6 nlr;have e1':=cell_below e1' hb6 nlr;have HB6:=hdd (aA HB5.out hb6);have B6:=hdd (hbl B5.out hb6);have HADD:=hdd (HOP.out w6 v6 _ HB6.out HB5.out.size hi6);obtain⟨b6,c6,rfl,-⟩:=hi6;clear hb6)
  |(go_at_call 38
    refine HADD.out.mono ?_;rintro e w7⟨k,ns',rfl,h1,h2,h3,h4⟩;have e0':=h4.cell e0' (HAW.out _ _ HB6.out (by simp));have e1':=h4.cell e1' (HAW.out _ _ HB6.out (by simp));have hlt6:w.heap.size+1<w6.heap.size:=aC B6.out;have B7:=(h4.heap (b:=w.heap.size+1) hlt6 (HAW.out _ _ HB6.out (by omega))).trans B6.out;obtain⟨r0,r1,f0,f1⟩:=aB B7;have HF:Hid (FoldSt P B (N+l.length) w g ns (iH 1 e0 es) k ((w7.setCell ⟨w.heap.size+1,0,none⟩ (.pointer (some ⟨g,0,none⟩))).setCell ⟨w.heap.size+1,1,none⟩ (.int .i64 (k:Int)))):=
     hdd (FoldSt.set2 (w0:=w) ⟨ns',h1,h2,h3,h4⟩ (Or.inr trivial) HGL.out HB6.out (by omega) (HAW.out _ _ HB6.out (by omega)) hlt6 (by have:=HBL.out;omega) _ _)
    have HX:=hdd (set2 B7 (.pointer (some ⟨g,0,none⟩)) (.int .i64 (k:Int)));clear h1 h2 h3 h4 B7 hlt6))
 go_wp2;obtain⟨x0,x1,-,-⟩:=aB HX.out;refine bodyPost_ret (v:=.agg #[_,_]) (by simp[results,Tryz.results14,go_sem,x0,x1];first|exact⟨rfl,rfl⟩|rfl) rfl ?_;exact HF.out.ret (numV g)
theorem vP{w:World}{g k:Nat}{ns:List Nd}(hd:DagP w g ns)(hk:k<ns.length):
 Calls Tryz.prog 35 #[.agg #[.pointer (some ⟨g,0,none⟩),.int .i64 (k:Int)],.slice none 0 0] w (RetV w (.bool true)):=by
 obtain⟨w1,hw1,hb1,hs1,b1⟩:=pro1 w (.cells #[.pointer (some ⟨g,0,none⟩),.int .i64 (k:Int)] 33);obtain⟨c0,c1,-,-⟩:=aB b1;have HV:=hdd (jZ (hd.below hb1) hk);have HB:=hdd hb1;clear hd hk hb1 hs1 b1;go_enter Tryz.func35,Tryz.ntmps35
 go_wp2_with fail
 refine HV.out.mono ?_;rintro e w2⟨rfl,hb2⟩;have HB2:=hdd (aA HB.out hb2);clear hb2;go_wp2_with fail
 go_loopw [12] (fun i wr=>i=.int .i64 0/\Hid (wr=w2)) (fun _ _=>0)
 case atStart=>exact⟨rfl,hdd rfl⟩
 case round=>
  obtain⟨rfl,HW⟩:=hrel;obtain rfl:=HW.out;clear HW;go_wp2;go_ret;exact⟨rfl,HB2.out⟩
theorem agT{P:Ex->Prop}{B N:Nat}{w:World}{g:Nat}{ns:List Nd}(hs:St P B N w g ns)(hN:N<20000)(ha:Is ns a i)(hP:P (.root a)):
 Calls Tryz.prog 13 #[numV g i] w (RetE P B (N+1) w g ns (numV g) (.root a)):=by
 obtain⟨w4,hw4,hb4,hs4,b1,b2⟩:=pro2 w (.cells #[.pointer (some ⟨g,0,none⟩),.int .i64 (i:Int)] 33) (.cells #[.pointer none,.int .i64 0] 33);have HG:=hdd (vP (hs.dag.below hb4) ha.lt);have HOP:Hid (∀w',Below w.heap.size w w'->Calls Tryz.prog 37 #[.pointer (some ⟨g,0,none⟩),.int .i64 (i:Int)] w' (RetE P B (N+1) w' g ns idV (.root a))):=hdd fun w' h=>agM (hs.below h) hN ha hP;have HAW:Hid (∀w' (c:Nat),Below w.heap.size w w'->w.heap.size<=c->¬DagB w' g c):=hdd fun w' c h=>hs.away h;have HGL:=hdd hs.dag.glt;have HBL:=hdd hs.hB;obtain⟨e0,e1,-,-⟩:=aB b1;have HB4:=hdd hb4;have B3:=hdd b2;clear hs hN ha hP hb4 b1 b2 hs4;go_enter Tryz.func13,Tryz.ntmps13
 go_wp2_with fail
 refine HG.out.mono ?_;rintro e w5⟨rfl,hb5⟩;have hb5d:Below w4.heap.size w4 w5.drew:=aA hb5 (ay9 _ _).drew;replace e0:=cbl e0 hb5d;replace e1:=cbl e1 hb5d;have HB5:=hdd (aA HB4.out hb5d);have B5:=hdd (hbl B3.out hb5d);clear hb5 hb5d hw4;have n1:w.heap.size+1≠w.heap.size:=by omega
 have n2:w.heap.size≠w.heap.size+1:=by omega
 go_wp2_with fail
 go_region_held3 (fun w'=>w'.cell? ⟨w.heap.size,0,none⟩=some (.pointer (some ⟨g,0,none⟩))/\w'.cell? ⟨w.heap.size,1,none⟩=some (.int .i64 (i:Int))) (go_keep)
  (first
  |(go_at_call 37
    refine(HOP.out _ HB5.out).mono ?_;rintro e w6⟨k,ns',rfl,h1,h2,h3,h4⟩;have e0:=h4.cell e0 (HAW.out _ _ HB5.out (by simp));have e1:=h4.cell e1 (HAW.out _ _ HB5.out (by simp));have hlt5:w.heap.size+1<w5.drew.heap.size:=aC B5.out;have B6:=(h4.heap (b:=w.heap.size+1) hlt5 (HAW.out _ _ HB5.out (by omega))).trans B5.out;obtain⟨r0,r1,f0,f1⟩:=aB B6;have HF:Hid (FoldSt P B (N+1) w g ns (.root a) k ((w6.setCell ⟨w.heap.size+1,0,none⟩ (.pointer (some ⟨g,0,none⟩))).setCell ⟨w.heap.size+1,1,none⟩ (.int .i64 (k:Int)))):=
     hdd (FoldSt.set2 (w0:=w) ⟨ns',h1,h2,h3,h4⟩ (Or.inr trivial) HGL.out HB5.out (by omega) (HAW.out _ _ HB5.out (by omega)) hlt5 (by have:=HBL.out;omega) _ _)
    have HX:=hdd (set2 B6 (.pointer (some ⟨g,0,none⟩)) (.int .i64 (k:Int)));clear h1 h2 h3 h4 B6 hlt5))
 go_wp2;obtain⟨x0,x1,-,-⟩:=aB HX.out;refine bodyPost_ret (v:=.agg #[_,_]) (by simp[results,Tryz.results13,go_sem,x0,x1];first|exact⟨rfl,rfl⟩|rfl) rfl ?_;exact HF.out.ret (numV g)
def RetS(w:World)(s:Int)(e:Ending)(w':World):Prop:=e=.returned (.tuple #[.int .i64 s,.nilIface])/\Below w.heap.size w w'
def lK(P:Ex->Prop)(x:Ex)(s:Int):Prop:=∀(B N:Nat) (w:World) (g k:Nat) (ns:List Nd),St P B N w g ns->Is ns x k->
 Calls Tryz.prog 44 #[.pointer (some ⟨g,0,none⟩),.int .i64 (k:Int),.slice none 0 0] w (RetS w s)
def RetQ(P:Ex->Prop)(B N:Nat)(w:World)(g:Nat)(ns:List Nd)(v:Value)(e:Ending)(w':World):Prop:=
 e=.returned v/\∃ns',St P B N w' g ns'/\ns<+:ns'/\DS g w w'
theorem zP{P:Ex->Prop}{B N:Nat}{w:World}{g k:Nat}{ns:List Nd}{x:Ex}(hs:St P B N w g ns)(hx:Is ns x k)(hS:lK P x s):
 Calls Tryz.prog 18 #[numV g k] w (RetS w s):=by
 obtain⟨w1,hw1,hb1,hs1,b1⟩:=pro1 w (.cells #[.pointer (some ⟨g,0,none⟩),.int .i64 (k:Int)] 33);obtain⟨c0,c1,-,-⟩:=aB b1;have HV:=hdd (jZ (hs.dag.below hb1) hx.lt);have HS:Hid (∀w',Below w.heap.size w w'->Calls Tryz.prog 44 #[.pointer (some ⟨g,0,none⟩),.int .i64 (k:Int),.slice none 0 0] w' (RetS w' s)):=hdd fun w' h=>hS B N w' g k ns (hs.below h) hx;have HB:=hdd hb1;clear hs hx hS hb1 hs1 b1;go_enter Tryz.func18,Tryz.ntmps18
 go_wp2_with fail
 refine HV.out.mono ?_;rintro e w2⟨rfl,hb2⟩;replace c0:=cbl c0 hb2;replace c1:=cbl c1 hb2;have HB2:=hdd (aA HB.out hb2);clear hb2;go_wp2_with fail
 refine(HS.out _ HB2.out).mono ?_;rintro e w3⟨rfl,hb3⟩;have HB3:=hdd (aA HB2.out hb3);clear hb3;go_wp2
 go_ret2
 exact⟨rfl,HB3.out⟩
theorem aiH{P:Ex->Prop}{B N:Nat}{w:World}{g:Nat}{ns:List Nd}{b:Ex}(hs:St P B N w g ns)(hN:N<20000)(ha:Is ns a i)(hb:Is ns b j)(hP:P (.sub a b))(hS:lK P (.sub a b) s):
 Calls Tryz.prog 15 #[numV g i,numV g j] w (RetQ P B (N+1) w g ns (.tuple #[.int .i64 s,.nilIface])):=by
 obtain⟨w2,hw2,hb2,hs2,b1,b2⟩:=pro2 w (.cells #[.pointer (some ⟨g,0,none⟩),.int .i64 (i:Int)] 33) (.cells #[.pointer (some ⟨g,0,none⟩),.int .i64 (j:Int)] 33);obtain⟨c0,c1,-,-⟩:=aB b1;obtain⟨d0,d1,-,-⟩:=aB b2;have HSUB:=hdd (aiG (hs.below hb2) hN ha hb hP);have HDS:=hdd (DS.of_below hs.dag.glt hb2);have HSG:Hid (∀w' k ns',St P B (N+1) w' g ns'->Is ns' (.sub a b) k->Calls Tryz.prog 18 #[numV g k] w' (RetS w' s)):=hdd fun w' k ns' h1 h2=>zP h1 h2 hS;clear hs hN ha hb hP hS hb2 hs2 b1 b2;go_enter Tryz.func15,Tryz.ntmps15
 go_wp2_with fail
 refine HSUB.out.mono ?_;rintro e w3⟨k,ns',rfl,h1,h2,h3,h4⟩;have HC:=hdd (HSG.out w3 k ns' h1 h3);have HR:Hid (∀w',Below w3.heap.size w3 w'->RetQ P B (N+1) w g ns (.tuple #[.int .i64 s,.nilIface]) (.returned (.tuple #[.int .i64 s,.nilIface])) w'):=hdd fun w' h=>⟨rfl,ns',h1.below h,h2,HDS.out.trans (h4.trans (DS.of_below h1.dag.glt h))⟩;clear h1 h2 h3 h4;go_wp2_with fail
 refine HC.out.mono ?_;rintro e w4⟨rfl,hb4⟩;have HF:=hdd (HR.out _ hb4);clear hb4;go_wp2
 go_ret2
 exact HF.out
end Go.Proofs.YtkadpnljocflaaaGreatDoor
