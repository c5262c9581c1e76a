/- A part of the proof: contracts of functions and plain laws (GapF, Map, DagA, DagB, LawK, LawF, LawP). -/
import Derived.Test.YtjaafolhfihegaaGreatDoorU12
import Derived.Test.YtjaafolhfihegaaGreatDoorU01
import Derived.Maps.OwnSet
import Derived.Test.YtjaafolhfihegaaGreatDoorU08
import Derived.Test.YtjaafolhfihegaaGreatDoorRows
import Derived.ProofKit
import Derived.OpenShut
import Derived.LaidMore
import Derived.Lay
import Derived.Lib.LaidTab
import Derived.Stop.Joined
set_option linter.unusedVariables false
set_option linter.unusedSimpArgs false
set_option maxHeartbeats 25600000
set_option maxRecDepth 100000
namespace Go.Proofs.YtjaafolhfihegaaGreatDoor
open Go.RowKit
open Go.Op renaming negFloat->azB
variable{b hi lo:Nat}{X Y:Re->Prop}{w:World}
structure Nd where
 kind:Int
 val:Nat
 a:Int
 b:Int
deriving DecidableEq
def kK(n:Nd):Value:=.agg #[.int .i64 n.kind,.float .f64 n.val,.int .i64 n.a,.int .i64 n.b]
def qP(n:Nd)(X Y Z:Re->Prop):Prop:=
 (n.kind=0/\∀z,Z z->z=Re.ofI (fv n.val))\/(n.kind=1/\AddD X Y Z)\/(n.kind=2/\SubD X Y Z)\/(n.kind=3/\MulD X Y Z)\/(n.kind=4/\QuoD X Y Z)\/(n.kind=5/\ajI X Z)
theorem ajU(hb:b<2^64):fv (b ^^^ 2^63)=-fv b:=by
 unfold fv;rw[(nA hb).2.2,uJ]
theorem amS(h:GapS lo hi X):GapS (hi ^^^ 2^63) (lo ^^^ 2^63) (fun x=>X (-x)):=by
 obtain⟨h1,h2,h3⟩:=h;obtain⟨a1,a2,a3⟩:=nA h1;obtain⟨b1,b2,b3⟩:=nA h2;refine⟨b1,a1,fun k x hx=> ?_⟩;rw[ajU h1,ajU h2,Re.ofI_neg,Re.ofI_neg];obtain⟨k1,k2,k3⟩:=k;obtain⟨q1,q2⟩:=h3 ⟨by unfold fin at*;rw[<-a2];exact k2,by unfold fin at*;rw[<-b2];exact k1,by rw[a3,b3]at k3;omega⟩ (-x) hx;constructor
 . have:=Re.neg_le_neg q2;rwa[Re.neg_neg]at this
 . have:=Re.neg_le_neg q1;rwa[Re.neg_neg]at this
theorem GapS.mono (h:GapS lo hi X)(k:∀x,Y x->X x):GapS lo hi Y:=⟨h.1,h.2.1,fun hk x hx=>h.2.2 hk x (k x hx)⟩
theorem aL{g:Nat}{T:TypeId}{a b c d:Value}(h:w.heap[g]? =some (.cells #[a,b,c,d] T (0,0))):
 w.cell? ⟨g,0,none⟩=some a/\w.cell? ⟨g,1,none⟩=some b/\w.cell? ⟨g,2,none⟩=some c/\w.cell? ⟨g,3,none⟩=some d:=by
 refine⟨?_,?_,?_,?_⟩<;>simp[World.cell?,h]
theorem pro4(w:World)(o1 o2 o3 o4:Obj):∃w4,(((w.alloc o1).alloc o2).alloc o3).alloc o4=w4/\Below w.heap.size w w4/\w4.heap.size=w.heap.size+4/\w4.heap[w.heap.size]? =some o1/\w4.heap[w.heap.size+1]? =some o2/\w4.heap[w.heap.size+2]? =some o3/\w4.heap[w.heap.size+3]? =some o4:=by
 obtain⟨w3,rfl,hb,hs,h1,h2,h3⟩:=pro3 w o1 o2 o3;refine⟨_,rfl,hb.alloc (by omega) _,by simp,?_,?_,?_,?_⟩
 . exact aH h1 (aZ _ o4) (by omega)
 . exact aH h2 (aZ _ o4) (by omega)
 . exact aH h3 (aZ _ o4) (by omega)
 . have:=heap_alloc_new (((w.alloc o1).alloc o2).alloc o3) o4;simpa using this
theorem aaI{n:Nd}{a c d:Nat}{Z:Re->Prop}(hn:n.val<18446744073709551616)(h1:GapS a b X)(h2:GapS c d Y)(hZ:qP n X Y Z):
 Calls Tryz.prog 145 #[kK n,gv a b,gv c d] w (RetG w Z):=by
 obtain⟨kind,val,na,nb⟩:=n;simp only[qP]at hZ hn;unfold kK;obtain⟨w4,hw4,hb4,hs4,b1,b2,b3,b4⟩:=pro4 w (.cells #[.int .i64 kind,.float .f64 val,.int .i64 na,.int .i64 nb] 149) (.cells #[.float .f64 a,.float .f64 b] 199) (.cells #[.float .f64 c,.float .f64 d] 199) (.cells #[.float .f64 0,.float .f64 0] 199);have HB:=hdd hb4;have B1:=hdd b1;have B2:=hdd b2;have B3:=hdd b3;have B4:=hdd b4;have HS:=hdd hs4;obtain⟨k0,k1,k2,k3⟩:=aL b1;obtain⟨c0,c1,-,-⟩:=aD b2;obtain⟨d0,d1,d2,d3⟩:=aD b3;obtain⟨e0,e1,e2,e3⟩:=aD b4;have hst:=aQ;have H1:=hdd h1;have H2:=hdd h2;have fin4:∀(w5:World),Below w4.heap.size w4 w5->∀(lo hi:Nat),GapS lo hi Z->Hid (RetG w Z (.returned (.agg #[.float .f64 lo,.float .f64 hi])) ((w5.setCell ⟨w.heap.size+3,0,none⟩ (.float .f64 lo)).setCell ⟨w.heap.size+3,1,none⟩ (.float .f64 hi)))/\
  ((w5.setCell ⟨w.heap.size+3,0,none⟩ (.float .f64 lo)).setCell ⟨w.heap.size+3,1,none⟩ (.float .f64 hi)).heap[w.heap.size+3]? =some (.cells #[.float .f64 lo,.float .f64 hi] 199 (0,0))/\
  (w5.cell? ⟨w.heap.size+3,0,none⟩=some (.float .f64 0)/\w5.cell? ⟨w.heap.size+3,1,none⟩=some (.float .f64 0)/\w5.frozen? ⟨w.heap.size+3,0,none⟩=false/\w5.frozen? ⟨w.heap.size+3,1,none⟩=false):=by
  intro w5 h5 lo hi hg;have b45:=hbl B4.out h5;obtain⟨r1,r2⟩:=bV (HB.out.trans (h5.mono HB.out.size)) (by omega) b45 hg;exact⟨r1,r2,aD b45⟩
 have FIN:=hdd fin4;clear fin4 hb4 b1 b2 b3 b4 hs4 h1 h2;unfold gv at*;rcases hZ with ⟨rfl,hZ⟩|⟨rfl,hZ⟩|⟨rfl,hZ⟩|⟨rfl,hZ⟩|⟨rfl,hZ⟩|⟨rfl,hZ⟩
 . have HC:Hid (Calls Tryz.prog 155 #[.float .f64 val] w4 (RetG w4 Z)):=hdd ((agZ (w:=w4) hn).mono fun e w' h=>by
    obtain⟨q1,lo,hi,q2,q3⟩:=h;exact⟨q1,lo,hi,q2,q3.mono hZ⟩)
   clear hZ hn;go_enter Tryz.func145,Tryz.ntmps145
   go_wp2_with fail
   refine HC.out.mono ?_;rintro e w5⟨hb5,lo,hi,rfl,hg⟩;obtain⟨HFF,hFF,f0,f1,f2,f3⟩:=FIN.out _ hb5 _ _ hg;replace hFF:=hdd hFF;clear hb5 hg c0 c1 d0 d1 d2 d3 e0 e1 e2 e3 k0 k1 k2 k3 hw4;unfold gv;go_wp2;obtain⟨f0,f1,-,-⟩:=aD hFF.out;refine bodyPost_ret (v:=.agg #[_,_]) (by simp[results,Tryz.results145,go_sem,f0,f1];first|exact⟨rfl,rfl⟩|rfl) rfl ?_;exact HFF.out
 . have HC:=hdd (abX (w:=w4) H1.out H2.out hZ)
   clear hZ hn;unfold gv at HC;go_enter Tryz.func145,Tryz.ntmps145
   go_wp2_with fail
   refine HC.out.mono ?_;rintro e w5⟨hb5,lo,hi,rfl,hg⟩;obtain⟨HFF,hFF,f0,f1,f2,f3⟩:=FIN.out _ hb5 _ _ hg;replace hFF:=hdd hFF;clear hb5 hg c0 c1 d0 d1 d2 d3 e0 e1 e2 e3 k0 k1 k2 k3 hw4;unfold gv;go_wp2;obtain⟨f0,f1,-,-⟩:=aD hFF.out;refine bodyPost_ret (v:=.agg #[_,_]) (by simp[results,Tryz.results145,go_sem,f0,f1];first|exact⟨rfl,rfl⟩|rfl) rfl ?_;exact HFF.out
 . have hneg:=abT
   have b3':=set2 B3.out (.float .f64 (azB .f64 d)) (.float .f64 (azB .f64 c));have hne:∀{i:Nat},i≠w.heap.size+2->((w4.setCell ⟨w.heap.size+2,0,none⟩ (.float .f64 (azB .f64 d))).setCell ⟨w.heap.size+2,1,none⟩ (.float .f64 (azB .f64 c))).heap[i]? =w4.heap[i]? :=by
    intro i hi;rw[Below.heap_setCell _ _ _ _ (by simp;omega),Below.heap_setCell _ _ _ _ (by simp;omega)]
   have b2':=(hne (i:=w.heap.size+1) (by omega)).trans B2.out;have b4':=(hne (i:=w.heap.size+3) (by omega)).trans B4.out;have HB':=hdd ((HB.out.setCell (p:=⟨w.heap.size+2,0,none⟩) (by simp) (.float .f64 (azB .f64 d))).setCell (p:=⟨w.heap.size+2,1,none⟩) (by simp) (.float .f64 (azB .f64 c)));have BB2:=hdd b2';have BB3:=hdd b3';have BB4:=hdd b4';have HC:∀w',Hid (Calls Tryz.prog 156 #[.agg #[.float .f64 a,.float .f64 b],.agg #[.float .f64 (azB .f64 d),.float .f64 (azB .f64 c)]] w' (RetG w' Z)):=fun w'=>hdd (by
    refine abX (w:=w') H1.out (amS H2.out) fun z hz=> ?_;obtain⟨x,y,hx,hy,e⟩:=hZ z hz;exact⟨x,-y,hx,by rw[Re.neg_neg];exact hy,by rw[e,Re.sub_def]⟩)
   clear hZ hn b2' b3' b4' hne HB FIN;go_enter Tryz.func145,Tryz.ntmps145
   go_wp2_with fail
   generalize hw5:(w4.setCell ⟨w.heap.size+2,0,none⟩ (.float .f64 (azB .f64 d))).setCell ⟨w.heap.size+2,1,none⟩ (.float .f64 (azB .f64 c))=w5 at*;refine(HC _).out.mono ?_;rintro e w6⟨hb5,lo,hi,rfl,hg⟩;have b45:=hbl BB4.out hb5;obtain⟨HFF,hFF⟩:=bV (HB'.out.trans (hb5.mono HB'.out.size)) (by omega) b45 hg;obtain⟨f0,f1,f2,f3⟩:=aD b45;replace hFF:=hdd hFF;clear hb5 hg c0 c1 d0 d1 d2 d3 e0 e1 e2 e3 k0 k1 k2 k3 hw4 b45 hw5;unfold gv;go_wp2;obtain⟨f0,f1,-,-⟩:=aD hFF.out;refine bodyPost_ret (v:=.agg #[_,_]) (by simp[results,Tryz.results145,go_sem,f0,f1];first|exact⟨rfl,rfl⟩|rfl) rfl ?_;exact HFF.out
 . have HC:=hdd (ajP (w:=w4) H1.out H2.out hZ)
   clear hZ hn;unfold gv at HC;go_enter Tryz.func145,Tryz.ntmps145
   go_wp2_with fail
   refine HC.out.mono ?_;rintro e w5⟨hb5,lo,hi,rfl,hg⟩;obtain⟨HFF,hFF,f0,f1,f2,f3⟩:=FIN.out _ hb5 _ _ hg;replace hFF:=hdd hFF;clear hb5 hg c0 c1 d0 d1 d2 d3 e0 e1 e2 e3 k0 k1 k2 k3 hw4;unfold gv;go_wp2;obtain⟨f0,f1,-,-⟩:=aD hFF.out;refine bodyPost_ret (v:=.agg #[_,_]) (by simp[results,Tryz.results145,go_sem,f0,f1];first|exact⟨rfl,rfl⟩|rfl) rfl ?_;exact HFF.out
 . have HC:=hdd (ajR (w:=w4) H1.out H2.out hZ)
   clear hZ hn;unfold gv at HC;go_enter Tryz.func145,Tryz.ntmps145
   go_wp2_with fail
   refine HC.out.mono ?_;rintro e w5⟨hb5,lo,hi,rfl,hg⟩;obtain⟨HFF,hFF,f0,f1,f2,f3⟩:=FIN.out _ hb5 _ _ hg;replace hFF:=hdd hFF;clear hb5 hg c0 c1 d0 d1 d2 d3 e0 e1 e2 e3 k0 k1 k2 k3 hw4;unfold gv;go_wp2;obtain⟨f0,f1,-,-⟩:=aD hFF.out;refine bodyPost_ret (v:=.agg #[_,_]) (by simp[results,Tryz.results145,go_sem,f0,f1];first|exact⟨rfl,rfl⟩|rfl) rfl ?_;exact HFF.out
 . have HC:=hdd (ag1 (w:=w4) H1.out hZ)
   clear hZ hn;unfold gv at HC;go_enter Tryz.func145,Tryz.ntmps145
   go_wp2_with fail
   refine HC.out.mono ?_;rintro e w5⟨hb5,lo,hi,rfl,hg⟩;obtain⟨HFF,hFF,f0,f1,f2,f3⟩:=FIN.out _ hb5 _ _ hg;replace hFF:=hdd hFF;clear hb5 hg c0 c1 d0 d1 d2 d3 e0 e1 e2 e3 k0 k1 k2 k3 hw4;unfold gv;go_wp2;obtain⟨f0,f1,-,-⟩:=aD hFF.out;refine bodyPost_ret (v:=.agg #[_,_]) (by simp[results,Tryz.results145,go_sem,f0,f1];first|exact⟨rfl,rfl⟩|rfl) rfl ?_;exact HFF.out
end Go.Proofs.YtjaafolhfihegaaGreatDoor
namespace Go.Proofs.YtjaafolhfihegaaGreatDoor
open Go.RowKit Go.Maps Go.ChangeMaps
open _root_.Array renaming toList_push->azI
open Go.MapKept renaming run_getObj_map->azC,run_setObj_map->azG
open Go.Result renaming andThen->azD
open List renaming mem_iff_getElem?->azE,getElem?_eq_some_iff->azF,mem_singleton->azH,mem_eraseIdx_iff_getElem?->azJ,mem_of_getElem?->azK,getElem?_set->azL,mem_append->azM,eraseIdx_sublist->azN
variable{m':Value->Option Value}
def MapP(P:Program)(k:TypeId)(w:World)(b:Nat)(m:Value->Option Value):Prop:=
 ∃es clock,w.heap[b]? =some (.map es clock)/\(∀e∈es.toList,∃l,keyOf P k e.key=some l)/\(es.toList.map (·.key)).Nodup/\(∀e∈es.toList,m e.key=some e.val)/\∀key,(∀e∈es.toList,e.key≠key)->m key=none
def Upd(m:Value->Option Value)(key:Value)(o:Option Value)(m':Value->Option Value):Prop:=m' key=o/\∀x,x≠key->m' x=m x
theorem lH(m:Value->Option Value)(key:Value)(o:Option Value):∃m',Upd m key o m':=by
 classical
 exact⟨fun x=>if x=key then o else m x,by simp,fun x hx=>by simp[hx]⟩
section
variable{P:Program}{k e t:TypeId}{w w':World}{b:Nat}{m:Value->Option Value}
theorem MapP.lt (h:MapP P k w b m):b<w.heap.size:=by obtain⟨es,clock,hb,-⟩:=h;exact(Array.getElem?_eq_some_iff.1 hb).1
theorem MapP.keep (h:MapP P k w b m)(hb:w'.heap[b]? =w.heap[b]?):MapP P k w' b m:=by
 obtain⟨es,clock,h1,h2⟩:=h;exact⟨es,clock,hb.trans h1,h2⟩
theorem MapP.below {B:Nat}(h:MapP P k w b m)(hb:Below B w w')(hB:b<B):MapP P k w' b m:=h.keep (hb.block b hB)
theorem MapP.made {es:Array MapEntry}(h:w.heap[b]? =some (.map #[] 0)):MapP P k w b (fun _=>none):=
 ⟨#[],0,h,by simp,by simp,by simp,by simp⟩
theorem MapP.look (h:MapP P k w b m)(K:Keyed P k)(ht:P.underlying t=some (.map k e)){z:Value}(hz:(zeroValue e).run P w=.ok z w){key:Value}{kl:Lit}(hkey:keyOf P k key=some kl)(c:Bool):
 (Instr.lookup t (.map (some b)) key c).run P w=.ok (if c then .tuple #[(m key).getD z,.bool (m key).isSome]else(m key).getD z) w:=by
 obtain⟨es,clock,hb,hk,hn,hm,h0⟩:=h;rcases K.find w hkey es.toList hk with ⟨h1,h2⟩|⟨j,e0,h1,h2,h3⟩
 . rw[h0 key h2]
   simp[Instr.lookup,run_underlying ht,azC hb,K.check w _ hkey,h1,hz,azD]
 . have:=hm e0 (azK h2)
   rw[h3]at this;rw[this];simp[Instr.lookup,run_underlying ht,azC hb,K.check w _ hkey,h1,azD]
theorem abY{es:List MapEntry}(hn:(es.map (·.key)).Nodup){j i:Nat}{a c:MapEntry}(hj:es[j]? =some a)(hi:es[i]? =some c)(h:a.key=c.key):j=i:=by
 obtain⟨j1,j2⟩:=azF.1 hj;obtain⟨i1,i2⟩:=azF.1 hi;have hp:=List.pairwise_iff_getElem.1 hn;rcases Nat.lt_trichotomy j i with hji|hji|hji
 . exact(hp j i (by simpa using j1) (by simpa using i1) hji (by simp[j2,i2,h])).elim
 . exact hji
 . exact(hp i j (by simpa using i1) (by simpa using j1) hji (by simp[j2,i2,h])).elim
theorem MapP.store (h:MapP P k w b m)(K:Keyed P k)(ht:P.underlying t=some (.map k e)){key val:Value}{kl:Lit}(hkey:keyOf P k key=some kl)(hu:Upd m key (some val) m'):
 ∃w',(Instr.mapUpdate t (.map (some b)) key val).run P w=.ok () w'/\MapP P k w' b m'/\w.grownBy w' (some b)/\w'.heap.size=w.heap.size:=by
 obtain⟨es,clock,hb,hk,hn,hm,h0⟩:=h;obtain⟨u1,u2⟩:=hu;have grown:∀o,w.grownBy (setBlock w b o) (some b):=fun o=>⟨rfl,rfl,rfl,by simp[setBlock],fun i _ hi=>heap_setBlock_other hb _ (fun e=>hi (by rw[e]))⟩;rcases K.find w hkey es.toList hk with ⟨h1,h2⟩|⟨j,e0,h1,h2,h3⟩
 . refine⟨setBlock w b (.map (es.push ⟨key,val,clock⟩) (clock+1)),?_,⟨_,_,heap_setBlock_same hb _,?_,?_,?_,?_⟩,grown _,by simp[setBlock]⟩
   . simp[Instr.mapUpdate,run_underlying ht,azC hb,K.check w false hkey,h1,azG _ hb,azD,setBlock]
   . intro x hx
     simp only[azI,azM,azH]at hx;rcases hx with hx|rfl
     . exact hk x hx
     . exact⟨kl,hkey⟩
   . simp only[azI,List.map_append,List.map_cons,List.map_nil]
     refine List.nodup_append.2 ⟨hn,by simp,?_⟩;intro a ha c hc;obtain⟨x,hx,rfl⟩:=List.mem_map.1 ha;simp only[azH]at hc;subst hc;exact h2 x hx
   . intro x hx
     simp only[azI,azM,azH]at hx;rcases hx with hx|rfl
     . rw[u2 _ (h2 x hx)];exact hm x hx
     . exact u1
   . intro x hx
     simp only[azI,azM,azH]at hx;have hxk:x≠key:=fun hh=>hx ⟨key,val,clock⟩ (Or.inr rfl) hh.symm;rw[u2 _ hxk];exact h0 x fun y hy=>hx y (Or.inl hy)
 . have hj:es[j]? =some e0:=by simpa using h2
   have hlist:(es.modify j (fun e'=>{e' with key:=key,val:=val})).toList=es.toList.set j {e0 with key:=key,val:=val}:=by rw[Array.toList_modify,modify_eq_set _ _ _ _ h2]
   refine⟨setBlock w b (.map (es.modify j (fun e'=>{e' with key:=key,val:=val})) clock),?_,⟨_,_,heap_setBlock_same hb _,?_,?_,?_,?_⟩,grown _,by simp[setBlock]⟩
   . simp[Instr.mapUpdate,run_underlying ht,azC hb,K.check w false hkey,h1,hj,h3,K.stays w hkey,azG _ hb,azD,setBlock]
   . intro x hx
     rw[hlist]at hx;rcases List.mem_or_eq_of_mem_set hx with hx|rfl
     . exact hk x hx
     . exact⟨kl,hkey⟩
   . rw[hlist,List.map_set]
     have:(es.toList.map (·.key)).set j key=es.toList.map (·.key):=by
      apply List.ext_getElem?;intro i;rw[azL]
      split
      . rename_i hij
        subst hij
        split
        . rw[List.getElem?_map,h2,<-h3];rfl
        . rename_i hlt;rw[List.getElem?_eq_none (by omega)]
      . rfl
     rw[this];exact hn
   . intro x hx
     rw[hlist]at hx;obtain⟨i,hi⟩:=azE.1 hx;rw[azL]at hi
     split at hi
     . split at hi
       . cases hi;exact u1
       . cases hi
     . rename_i hij
       rw[u2]
       . exact hm x (azK hi)
       . intro hh
         exact hij (abY hn h2 hi (by rw[h3,hh]))
   . intro x hx
     rw[hlist]at hx;have hxk:x≠key:=fun hh=>hx {e0 with key:=key,val:=val} (azE.2 ⟨j,List.getElem?_set_self (azF.1 h2).1⟩) hh.symm;rw[u2 _ hxk];refine h0 x fun y hy=> ?_;obtain⟨i,hi⟩:=azE.1 hy;by_cases hij:j=i
     . subst hij;rw[h2]at hi;cases hi;rw[h3];exact fun hh=>hxk hh.symm
     . exact hx y (azE.2 ⟨i,by rw[azL,if_neg hij];exact hi⟩)
theorem MapP.drop (h:MapP P k w b m)(K:Keyed P k)(ht:P.underlying t=some (.map k e)){key:Value}{kl:Lit}(hkey:keyOf P k key=some kl)(ty:TypeId)(hu:Upd m key none m'):
 ∃w',(Builtin.delete_ #[t,k] ty #[.map (some b),key]).run P w=.ok (.tuple #[]) w'/\MapP P k w' b m'/\w.grownBy w' (some b)/\w'.heap.size=w.heap.size:=by
 obtain⟨es,clock,hb,hk,hn,hm,h0⟩:=h;obtain⟨u1,u2⟩:=hu;have grown:∀o,w.grownBy (setBlock w b o) (some b):=fun o=>⟨rfl,rfl,rfl,by simp[setBlock],fun i _ hi=>heap_setBlock_other hb _ (fun e=>hi (by rw[e]))⟩;rcases K.find w hkey es.toList hk with ⟨h1,h2⟩|⟨j,e0,h1,h2,h3⟩
 . refine⟨setBlock w b (.map es clock),?_,⟨_,_,heap_setBlock_same hb _,hk,hn,?_,?_⟩,grown _,by simp[setBlock]⟩
   . simp[Builtin.delete_,run_underlying ht,azC hb,K.check w _ hkey,h1,azG _ hb,azD,setBlock]
   . intro x hx;rw[u2 _ (h2 x hx)];exact hm x hx
   . intro x hx
     by_cases hxk:x=key
     . rw[hxk];exact u1
     . rw[u2 _ hxk];exact h0 x hx
 . have hjl:j<es.toList.length:=(azF.1 h2).1
   have hjs:j<es.size:=by simpa using hjl
   have hsub:(es.eraseIdxIfInBounds j).toList=es.toList.eraseIdx j:=by
    unfold Array.eraseIdxIfInBounds;rw[dif_pos hjs];simp
   refine⟨setBlock w b (.map (es.eraseIdxIfInBounds j) clock),?_,⟨_,_,heap_setBlock_same hb _,?_,?_,?_,?_⟩,grown _,by simp[setBlock]⟩
   . simp[Builtin.delete_,run_underlying ht,azC hb,K.check w _ hkey,h1,azG _ hb,azD,setBlock]
   . intro x hx
     rw[hsub]at hx;exact hk x ((azN _ _).subset hx)
   . rw[hsub]
     exact hn.sublist ((azN _ _).map _)
   . intro x hx
     rw[hsub]at hx;obtain⟨i,hne,hi⟩:=azJ.1 hx;rw[u2]
     . exact hm x (azK hi)
     . intro hh
       exact hne (abY hn hi h2 (by rw[h3,hh]))
   . intro x hx
     rw[hsub]at hx;by_cases hxk:x=key
     . rw[hxk];exact u1
     . rw[u2 _ hxk]
       refine h0 x fun y hy=> ?_;obtain⟨i,hi⟩:=azE.1 hy;by_cases hij:i=j
       . subst hij;rw[h2]at hi;cases hi;rw[h3];exact fun hh=>hxk hh.symm
       . exact hx y (azJ.2 ⟨i,hij,hi⟩)
end
section
variable{P:Program}(w:World){ops:Array Oper}{rest:List Oper}{o:Oper}{a:Act}{Q:Exit->Act->World->Prop}
theorem sW(hg:o.guard=none)(mo x:Operand)(t:TypeId)(c:Bool)(hop:o.op=Op.lookup t mo x c)
 (k e:TypeId) (K:Keyed P k) (ht:P.underlying t=some (.map k e)) {z:Value} (hz:(zeroValue e).run P w=.ok z w) (b:Nat) (m:Value->Option Value)
 (hm:a.eval mo=.map (some b)) (hown:MapP P k w b m) (key:Value) (kl:Lit) (hx:a.eval x=key) (hkey:keyOf P k key=some kl)
 (hK:wpList P ops Q rest (a.put o.dst (if c then .tuple #[(m key).getD z,.bool (m key).isSome]else(m key).getD z)) w):
 wpList P ops Q (o::rest) a w:=by
 refine wpList_plain hg fun K' hK'=> ?_;have hrun:=hown.look K ht hz hkey c;generalize (if c then Value.tuple #[(m key).getD z,.bool (m key).isSome]else(m key).getD z)=R at hrun hK;unfold Oper.wp;simp[execOp,hop,hm,hx,hrun,azD];exact hK' _ _ hK
theorem bI(hg:o.guard=none)(mo x:Operand)(t:TypeId)(hop:o.op=Op.lookup t mo x false)
 (k e:TypeId) (K:Keyed P k) (ht:P.underlying t=some (.map k e)) {z:Value} (hz:(zeroValue e).run P w=.ok z w) (b:Nat) (m:Value->Option Value)
 (hm:a.eval mo=.map (some b)) (hown:MapP P k w b m) (key:Value) (kl:Lit) (hx:a.eval x=key) (hkey:keyOf P k key=some kl) (v:Value) (hv:(m key).getD z=v)
 (hK:wpList P ops Q rest (a.put o.dst v) w):
 wpList P ops Q (o::rest) a w:=
 sW w hg mo x t false hop k e K ht hz b m hm hown key kl hx hkey (by rw[hv];exact hK)
theorem jR(hg:o.guard=none)(mo x:Operand)(t:TypeId)(hop:o.op=Op.lookup t mo x true)
 (k e:TypeId) (K:Keyed P k) (ht:P.underlying t=some (.map k e)) {z:Value} (hz:(zeroValue e).run P w=.ok z w) (b:Nat) (m:Value->Option Value)
 (hm:a.eval mo=.map (some b)) (hown:MapP P k w b m) (key:Value) (kl:Lit) (hx:a.eval x=key) (hkey:keyOf P k key=some kl) (v:Value) (hv:(m key).getD z=v) (c:Bool) (hc:(m key).isSome=c)
 (hK:wpList P ops Q rest (a.put o.dst (.tuple #[v,.bool c])) w):
 wpList P ops Q (o::rest) a w:=
 sW w hg mo x t true hop k e K ht hz b m hm hown key kl hx hkey (by rw[hv,hc];exact hK)
theorem eG(hg:o.guard=none)(mo x v:Operand)(t:TypeId)(hop:o.op=Op.mapUpdate t mo x v)
 (k e:TypeId) (K:Keyed P k) (ht:P.underlying t=some (.map k e)) (b:Nat) (m m':Value->Option Value)
 (hm:a.eval mo=.map (some b)) (hown:MapP P k w b m) (key val:Value) (kl:Lit) (hx:a.eval x=key) (hv:a.eval v=val) (hkey:keyOf P k key=some kl) (hu:Upd m key (some val) m')
 (hK:∀w',Hid (MapP P k w' b m')->w.grownBy w' (some b)->w'.heap.size=w.heap.size->wpList P ops Q rest (a.put o.dst undef) w'):
 wpList P ops Q (o::rest) a w:=by
 refine wpList_plain hg fun K' hK'=> ?_;obtain⟨w',hrun,r1,r2,r3⟩:=hown.store K ht hkey hu;unfold Oper.wp;simp[execOp,hop,hm,hx,hv,hrun,azD];exact hK' _ _ (hK w' (hdd r1) r2 r3)
theorem abZ(hg:o.guard=none)(mo x:Operand)(t k:TypeId)(hop:o.op=Op.call {callee:=Callee.builtin Builtin.delete,args:=#[mo,x],argTypes:=#[t,k]})
 (e:TypeId) (K:Keyed P k) (ht:P.underlying t=some (.map k e)) (b:Nat) (m m':Value->Option Value)
 (hm:a.eval mo=.map (some b)) (hown:MapP P k w b m) (key:Value) (kl:Lit) (hx:a.eval x=key) (hkey:keyOf P k key=some kl) (hu:Upd m key none m')
 (hK:∀w',Hid (MapP P k w' b m')->w.grownBy w' (some b)->w'.heap.size=w.heap.size->wpList P ops Q rest (a.put o.dst (.tuple #[])) w'):
 wpList P ops Q (o::rest) a w:=by
 refine wpList_plain hg fun K' hK'=> ?_;obtain⟨w',hrun,r1,r2,r3⟩:=hown.drop K ht hkey o.type hu;unfold Oper.wp;simp[execOp,hop,resolve,invoke,builtin,hm,hx,hrun,azD];exact hK' _ _ (hK w' (hdd r1) r2 r3)
end
end Go.Proofs.YtjaafolhfihegaaGreatDoor
namespace Go.Proofs.YtjaafolhfihegaaGreatDoor
open Go.RowKit Go.Maps
open List renaming getElem?_eq_some_iff->azO
variable{g i:Nat}{T:TypeId}{a b c d:Value}{w:World}
def gG(n:Nd):List Value:=[.int .i64 n.kind,.float .f64 n.val,.int .i64 n.a,.int .i64 n.b]
def eT(ns:List Nd):List Value:=ns.flatMap gG
def keyV(n:Nd):Value:=.agg #[.int .i64 n.kind,.int .i64 n.a,.int .i64 n.b,.int .u64 (n.val:Int)]
theorem aaJ{ns:List Nd}{n:Nd}(h:ns[i]? =some n)(j:Nat)(hj:j<4):(eT ns)[i*4+j]? =(gG n)[j]? :=by
 induction ns generalizing i with
 |nil=>simp at h
 |cons m ns ih=>
  have e:eT (m::ns)=gG m++eT ns:=by simp[eT]
  rw[e]
  cases i with
  |zero=>
   simp at h;subst h;rw[List.getElem?_append_left (by simp[gG];omega)];simp
  |succ i=>
   rw[List.getElem?_append_right (by simp[gG];omega)];have:(i+1)*4+j-(gG m).length=i*4+j:=by simp[gG];omega
   rw[this];exact ih (by simpa using h)
def KeyOk(ns:List Nd)(m:Value->Option Value):Prop:=
 (∀key val,m key=some val->∃(i:Nat) (n:Nd),ns[i]? =some n/\val=.int .i64 (i:Int)/\keyV n=key)/\∀(i:Nat) (n:Nd),ns[i]? =some n->m (keyV n)=some (.int .i64 (i:Int))
def Uniq(ns:List Nd):Prop:=∀(i j:Nat) (n:Nd),ns[i]? =some n->ns[j]? =some n->i=j
theorem KeyOk.uniq {ns:List Nd}{m:Value->Option Value}(h:KeyOk ns m):Uniq ns:=by
 intro i j n hi hj;have h1:=h.2 i n hi;rw[h.2 j n hj]at h1;simp only[Option.some.injEq,Value.int.injEq,true_and]at h1;omega
def DagP(w:World)(g:Nat)(ns:List Nd):Prop:=
 ∃v mb m,w.heap[g]? =some (.cells #[v,.map (some mb)] 98 (0,0))/\w.ownsRow 0 149 4 v ns.length (eT ns)/\MapP Tryz.prog 211 w mb m/\
  KeyOk ns m/\v.ownBlock≠some g/\mb≠g/\v.ownBlock≠some mb/\ns.length<=20000/\∀n∈ns,n.val<18446744073709551616
theorem kL{base:Nat}{e:TypeId}{size:Nat}{v:Value}{n:Nat}{xs:List Value}(h:w.ownsRow base e size v n xs):∀k,v.ownBlock=some k->k<w.heap.size:=fun k hk=>(h.lt k hk).2
theorem DagP.below {w':World}{ns:List Nd}(h:DagP w g ns)(hb:Below w.heap.size w w'):DagP w' g ns:=by
 obtain⟨v,mb,m,h1,h2,h3,h4,h5,h6,h7,h8,h9⟩:=h;refine⟨v,mb,m,hbl h1 hb,h2.kept (aX (row:=none) hb) ?_,h3.below hb h3.lt,h4,h5,h6,h7,h8,h9⟩
 cases hv:v.ownBlock
 . exact Or.inl rfl
 . exact Or.inr (by simp)
theorem DagP.len {ns:List Nd}(h:DagP w g ns):ns.length<=20000:=by obtain⟨v,mb,m,h1,h2,h3,h4,h5,h6,h7,h8,h9⟩:=h;exact h8
theorem DagP.val {ns:List Nd}(h:DagP w g ns){n:Nd}(hi:ns[i]? =some n):n.val<18446744073709551616:=by obtain⟨v,mb,m,h1,h2,h3,h4,h5,h6,h7,h8,h9⟩:=h;exact h9 n (List.mem_of_getElem? hi)
theorem DagP.uniq {ns:List Nd}(h:DagP w g ns):Uniq ns:=by obtain⟨v,mb,m,h1,h2,h3,h4,h5,h6,h7,h8,h9⟩:=h;exact h4.uniq
theorem DagP.glt {ns:List Nd}(h:DagP w g ns):g<w.heap.size:=by obtain⟨v,mb,m,h1,-⟩:=h;exact aG h1
theorem DagP.slice {ns:List Nd}(h:DagP w g ns):∃A c,w.cell? ⟨g,0,none⟩=some (.slice A ns.length c)/\ns.length<=c/\c<=maxLen/\
 ∀i n,ns[i]? =some n->∃r,A=some ⟨r,0,none⟩/\∀j u,(gG n)[j]? =some u->w.cell? ⟨r,i*4+j,none⟩=some u:=by
 obtain⟨v,mb,m,h1,h2,-⟩:=h;obtain⟨c0,-,-,-⟩:=aD h1;rcases id h2.2 with ⟨rfl,hn⟩|⟨r,cap,cur,rfl,hr,hh,hcap,hmax,hsz,hcur⟩
 . refine⟨none,0,by rw[hn];exact c0,by omega,by unfold maxLen;omega,fun i n hi=> ?_⟩
   have:=(azO.1 hi).1;omega
 . refine⟨some ⟨r,0,none⟩,cap,c0,hcap,hmax,fun i n hi=>⟨r,rfl,fun j u hu=> ?_⟩⟩
   have hj:j<4:=by have:=(azO.1 hu).1;simpa[gG]using this
   have hi':=(azO.1 hi).1;rw[h2.cellAt (i*4+j) (by omega),aaJ hi j hj];exact hu
theorem aaK{ns:List Nd}(hd:DagP w g ns)(hi:i<ns.length):
 Calls Tryz.prog 112 #[.pointer (some ⟨g,0,none⟩),.int .i64 i] w (fun e w'=>e=.returned (.bool true)/\w=w'):=by
 obtain⟨A,c,c0,-,-,-⟩:=hd.slice;have h0:(0:Int)<=(i:Int):=by omega
 have h1:(i:Int)<(ns.length:Int):=by omega
 clear hd;go_enter Tryz.func112,Tryz.ntmps112
 go_wp2;go_ret;exact⟨rfl,rfl⟩
theorem nD(h:w.heap[g]? =some (.cells #[a,b,c,d] T (0,0))):
 w.frozen? ⟨g,0,none⟩=false/\w.frozen? ⟨g,1,none⟩=false/\w.frozen? ⟨g,2,none⟩=false/\w.frozen? ⟨g,3,none⟩=false:=by
 refine⟨?_,?_,?_,?_⟩<;>simp[World.frozen?,h]
theorem set4(h:w.heap[g]? =some (.cells #[a,b,c,d] T (0,0)))(u v x y:Value):
 ((((w.setCell ⟨g,0,none⟩ u).setCell ⟨g,1,none⟩ v).setCell ⟨g,2,none⟩ x).setCell ⟨g,3,none⟩ y).heap[g]? =some (.cells #[u,v,x,y] T (0,0)):=by
 have hg:g<w.heap.size:=(Array.getElem?_eq_some_iff.1 h).1;have h':w.heap[g]=.cells #[a,b,c,d] T (0,0):=(Array.getElem?_eq_some_iff.1 h).2;simp[World.setCell,hg,Array.getElem_modify,h']
theorem ab0{ns:List Nd}{n:Nd}(hd:DagP w g ns)(hi:ns[i]? =some n):
 Calls Tryz.prog 103 #[.pointer (some ⟨g,0,none⟩),.int .i64 i] w (fun e w'=>e=.returned (.tuple #[kK n,.bool true])/\Below w.heap.size w w'):=by
 obtain⟨w1,hw1,hb1,hs1,b1⟩:=pro1 w (.cells #[.int .i64 0,.float .f64 0,.int .i64 0,.int .i64 0] 149);have hlt:=(azO.1 hi).1;have HD1:=hdd (hd.below hb1);obtain⟨A,c,c0,hc1,hc2,hel⟩:=HD1.out.slice;obtain⟨r,rfl,hcell⟩:=hel i n hi;have HH:=hdd (aaK (w:=w1) (i:=i) HD1.out hlt);have HB:=hdd hb1;have B1:=hdd b1;obtain⟨d0,d1,d2,d3⟩:=aL b1;obtain⟨f0,f1,f2,f3⟩:=nD b1;obtain⟨kind,val,na,nb⟩:=n;have e0:w1.cell? ⟨r,i*4,none⟩=some (.int .i64 kind):=hcell 0 _ rfl;have e1:=hcell 1 _ rfl;have e2:=hcell 2 _ rfl;have e3:=hcell 3 _ rfl;have h0:(0:Int)<=(i:Int):=by omega
 have h1:(i:Int)<(ns.length:Int):=by omega
 have hst:=aQ;have S1:=hdd (set4 b1 (.int .i64 kind) (.float .f64 val) (.int .i64 na) (.int .i64 nb));clear hd hel hcell hb1 hs1 hi hc1 hc2 b1;unfold kK;dsimp only at e0 e1 e2 e3|-;go_enter Tryz.func103,Tryz.ntmps103
 go_wp2_with fail
 refine HH.out.mono ?_;rintro e w2⟨rfl,hw⟩;obtain rfl:=hw;go_wp2_with fail
 go_wp2;obtain⟨x0,x1,x2,x3⟩:=aL S1.out;refine bodyPost_ret (v:=.tuple #[.agg #[_,_,_,_],_]) (by simp[results,Tryz.results103,go_sem,x0,x1,x2,x3];first|exact⟨⟨rfl,rfl,rfl,rfl⟩,rfl⟩|rfl) rfl ?_;exact⟨rfl,(((HB.out.setCell (by simp) _).setCell (by simp) _).setCell (by simp) _).setCell (by simp) _⟩
def RetV(w:World)(v:Value)(e:Ending)(w':World):Prop:=e=.returned v/\Below w.heap.size w w'
theorem ag2{n:Nd}:Calls Tryz.prog 130 #[.agg #[.int .i64 n.kind,.float .f64 n.val,.int .i64 n.a,.int .i64 n.b]] w (RetV w (keyV n)):=by
 obtain⟨kind,val,na,nb⟩:=n;unfold keyV;obtain⟨w1,hw1,hb1,hs1,b1⟩:=pro1 w (.cells #[.int .i64 kind,.float .f64 val,.int .i64 na,.int .i64 nb] 149);obtain⟨w2,hw2,hb2,hs2,b2⟩:=pro1 w1 (.cells #[.int .i64 0,.int .i64 0,.int .i64 0,.int .u64 0] 211);obtain⟨c0,c1,c2,c3⟩:=aL (hbl b1 hb2);obtain⟨d0,d1,d2,d3⟩:=aL b2;obtain⟨f0,f1,f2,f3⟩:=nD b2;have HFF:=hdd (set4 b2 (.int .i64 kind) (.int .i64 na) (.int .i64 nb) (.int .u64 (val:Int)));have hk:w.heap.size<=w1.heap.size:=hb1.size;have HB:=hdd ((((((aC hb1 hb2).setCell (p:=⟨w1.heap.size,0,none⟩) hk (.int .i64 kind)).setCell (p:=⟨w1.heap.size,1,none⟩) hk (.int .i64 na)).setCell (p:=⟨w1.heap.size,2,none⟩) hk (.int .i64 nb)).setCell (p:=⟨w1.heap.size,3,none⟩) hk (.int .u64 (val:Int))).drew);have hne:w.heap.size≠w1.heap.size:=by omega
 have hbits:=fD val;clear hb1 hb2 hs1 hs2 b1 b2 hk;go_enter Tryz.func130,Tryz.ntmps130
 go_wp2
 go_region
 all_goals
  go_wp2;obtain⟨x0,x1,x2,x3⟩:=aL HFF.out;refine bodyPost_ret (v:=.agg #[_,_,_,_]) (by simp[results,Tryz.results130,go_sem,x0,x1,x2,x3];first|exact⟨rfl,rfl,rfl,rfl⟩|rfl) rfl ?_;exact⟨rfl,HB.out⟩
theorem uM{v:Int}(h:0<=v/\v<=65535):Calls Tryz.prog 154 #[.int .i64 v] w (RetV w (.bool true)):=by
 have h1:=h.1;have h2:=h.2;go_enter Tryz.func154,Tryz.ntmps154
 go_wp2;go_ret;exact⟨rfl,Below.refl _ _⟩
def NdOk(n:Nd):Prop:=n.kind=0/\n.a=0/\n.b=0\/(n.kind=1\/n.kind=2\/n.kind=3\/n.kind=4)/\n.val=0/\(0<=n.a/\n.a<=65535)/\(0<=n.b/\n.b<=65535)\/n.kind=5/\n.val=0/\(0<=n.a/\n.a<=65535)/\n.b=0
theorem ag3{n:Nd}(h:NdOk n):Calls Tryz.prog 143 #[.agg #[.int .i64 n.kind,.float .f64 n.val,.int .i64 n.a,.int .i64 n.b]] w (RetV w (.bool true)):=by
 obtain⟨kind,val,na,nb⟩:=n;obtain⟨w1,hw1,hb1,hs1,b1⟩:=pro1 w (.cells #[.int .i64 kind,.float .f64 val,.int .i64 na,.int .i64 nb] 149);obtain⟨c0,c1,c2,c3⟩:=aL b1;have HB:=hdd hb1;have hbits:=fD;clear hb1 hs1 b1;rcases h with ⟨h1,h2,h3⟩|⟨h1,h2,h3,h4⟩|⟨h1,h2,h3,h4⟩
 . simp only at h1 h2 h3
   subst h1;subst h2;subst h3;go_enter Tryz.func143,Tryz.ntmps143
   go_wp2;go_ret;exact⟨rfl,HB.out⟩
 . simp only at h1 h2 h3 h4
   subst h2;have HA:Hid (∀w',Calls Tryz.prog 154 #[.int .i64 na] w' (RetV w' (.bool true))):=hdd fun w'=>uM h3;have HB2:Hid (∀w',Calls Tryz.prog 154 #[.int .i64 nb] w' (RetV w' (.bool true))):=hdd fun w'=>uM h4;clear h3 h4;rcases h1 with rfl|rfl|rfl|rfl
   all_goals
    go_enter Tryz.func143,Tryz.ntmps143
    go_wp2_with fail
    refine(HA.out _).mono ?_;rintro e w3⟨rfl,hb3⟩;replace c0:=cbl c0 hb3;replace c1:=cbl c1 hb3;replace c2:=cbl c2 hb3;replace c3:=cbl c3 hb3;have HB3:=hdd (aC HB.out hb3);clear hb3;go_wp2_with fail
    refine(HB2.out _).mono ?_;rintro e w4⟨rfl,hb4⟩;have HB4:=hdd (aC HB3.out hb4);clear hb4;go_wp2;go_ret;exact⟨rfl,HB4.out⟩
 . simp only at h1 h2 h3 h4
   subst h2;subst h1;subst h4;have HA:Hid (∀w',Calls Tryz.prog 154 #[.int .i64 na] w' (RetV w' (.bool true))):=hdd fun w'=>uM h3;have HB2:Hid (∀w',Calls Tryz.prog 154 #[.int .i64 0] w' (RetV w' (.bool true))):=hdd fun w'=>uM (by omega);clear h3;go_enter Tryz.func143,Tryz.ntmps143
   go_wp2_with fail
   refine(HA.out _).mono ?_;rintro e w3⟨rfl,hb3⟩;replace c0:=cbl c0 hb3;replace c1:=cbl c1 hb3;replace c2:=cbl c2 hb3;replace c3:=cbl c3 hb3;have HB3:=hdd (aC HB.out hb3);clear hb3;go_wp2_with fail
   refine(HB2.out _).mono ?_;rintro e w4⟨rfl,hb4⟩;have HB4:=hdd (aC HB3.out hb4);clear hb4;go_wp2;go_ret;exact⟨rfl,HB4.out⟩
theorem afE{ns:List Nd}{i:Int}(hd:DagP w g ns)(h0:0<=i)(hi:i<ns.length):
 Calls Tryz.prog 112 #[.pointer (some ⟨g,0,none⟩),.int .i64 i] w (RetV w (.bool true)):=by
 have:=aaK (i:=i.toNat) hd (by omega);rw[Int.toNat_of_nonneg h0]at this;exact this.mono fun e w' h=>⟨h.1,h.2▸Below.refl _ _⟩
def NdIn(n:Nd)(len:Nat):Prop:=NdOk n/\(n.kind=0->fin n.val)/\(n.kind≠0->(0<=n.a/\n.a<len))/\(n.kind≠0->n.kind≠5->(0<=n.b/\n.b<len))
theorem ag4{ns:List Nd}{n:Nd}(hd:DagP w g ns)(hn:NdIn n ns.length)(hv:n.val<18446744073709551616):
 Calls Tryz.prog 129 #[.pointer (some ⟨g,0,none⟩),.agg #[.int .i64 n.kind,.float .f64 n.val,.int .i64 n.a,.int .i64 n.b]] w (RetV w (.bool true)):=by
 obtain⟨kind,val,na,nb⟩:=n;obtain⟨ok,hf,ha,hb⟩:=hn;simp only at hf ha hb hv;obtain⟨w1,hw1,hb1,hs1,b1⟩:=pro1 w (.cells #[.int .i64 kind,.float .f64 val,.int .i64 na,.int .i64 nb] 149);obtain⟨c0,c1,c2,c3⟩:=aL b1;have HV:=hdd (ag3 (w:=w1) ok);have HB:=hdd hb1;have hk:kind=0\/kind=5\/(kind=1\/kind=2\/kind=3\/kind=4):=by
  rcases ok with h|h|h
  . exact Or.inl h.1
  . exact Or.inr (Or.inr h.1)
  . exact Or.inr (Or.inl h.1)
 have HD:=hdd hd;have HHA:Hid (kind≠0->∀w',Below w.heap.size w w'->Calls Tryz.prog 112 #[.pointer (some ⟨g,0,none⟩),.int .i64 na] w' (RetV w' (.bool true))):=hdd fun h w' hb=>afE (hd.below hb) (ha h).1 (ha h).2;have HHB:Hid (kind≠0->kind≠5->∀w',Below w.heap.size w w'->Calls Tryz.prog 112 #[.pointer (some ⟨g,0,none⟩),.int .i64 nb] w' (RetV w' (.bool true))):=hdd fun h h5 w' hk=>afE (hd.below hk) (hb h h5).1 (hb h h5).2;have HF:Hid (kind=0->∀w',Calls Tryz.prog 60 #[.float .f64 val] w' (RetB w' true)):=hdd fun h w'=>by have:=fA (w:=w') hv;rwa[decide_eq_true (hf h)]at this
 clear hd ha hb hf hb1 hs1 b1 ok hv;rcases hk with rfl|rfl|rfl|rfl|rfl|rfl
 all_goals
  go_enter Tryz.func129,Tryz.ntmps129
  go_wp2_with fail
  refine HV.out.mono ?_;rintro e w3⟨rfl,hb3⟩;replace c0:=cbl c0 hb3;replace c1:=cbl c1 hb3;replace c2:=cbl c2 hb3;replace c3:=cbl c3 hb3;have HB3:=hdd (aC HB.out hb3);clear hb3;go_wp2_with fail
 . refine(HF.out trivial _).mono ?_
   rintro e w4⟨rfl,hw⟩;obtain rfl:=hw;go_wp2;go_ret;exact⟨rfl,HB3.out⟩
 . refine(HHA.out (by decide) _ HB3.out).mono ?_
   rintro e w4⟨rfl,hb4⟩;have HB4:=hdd (aC HB3.out hb4);clear hb4;go_wp2;go_ret;exact⟨rfl,HB4.out⟩
 all_goals
  refine(HHA.out (by decide) _ HB3.out).mono ?_;rintro e w4⟨rfl,hb4⟩;replace c0:=cbl c0 hb4;replace c1:=cbl c1 hb4;replace c2:=cbl c2 hb4;replace c3:=cbl c3 hb4;have HB4:=hdd (aC HB3.out hb4);clear hb4;go_wp2_with fail
  refine(HHB.out (by decide) (by decide) _ HB4.out).mono ?_;rintro e w5⟨rfl,hb5⟩;have HB5:=hdd (aC HB4.out hb5);clear hb5;go_wp2;go_ret;exact⟨rfl,HB5.out⟩
end Go.Proofs.YtjaafolhfihegaaGreatDoor
namespace Go.Proofs.YtjaafolhfihegaaGreatDoor
open Go.ChangeShapes Go.WideShapes Go.ChangeAt Go.RowKit
variable{W:World}
def yY : List (String × DataW Unit) := [("math/bits.deBruijn64tab", Rows.laid_math_bits_deBruijn64tab)]
theorem amT:ownKnob Tryz.prog.godebug=none:=by kernel_rfl
theorem yZ : Tryz.prog.globalNamed "math/bits.deBruijn64tab" = some 1 := by kernel_rfl
theorem ajV:(Tryz.prog.globals[1]?).map (·.type)=some 300:=by kernel_rfl
theorem amU:Tryz.prog.underlying 300=some (.array 64 5):=by kernel_rfl
theorem ao3:Tryz.prog.underlying 5=some (.int .u8):=by kernel_rfl
theorem ajW:Tryz.prog.cellsOf 5=1:=by kernel_rfl
theorem ag5:Tryz.prog.cellsOf 300=64:=by kernel_rfl
def tabZ:List Int:=Lib.deBruijn64tab.map fun(x:Nat)=>(x:Int)
theorem amV : yY = [("math/bits.deBruijn64tab", Lib.tabData .u8 tabZ)] := by kernel_rfl
theorem ab1(h:laidMetH Tryz.prog yY W):Tab W:=by
 rw[MakeChecks.laidMetH_plain _ _ _ (by kernel_rfl),amV]at h;have hT:=Lib.tabIs_of_head yZ ajV amU ao3 ajW ag5 h;intro j hj;have hl:tabZ.length=Lib.deBruijn64tab.length:=by simp[tabZ]
 have:=hT.cell yZ j (by omega);rw[this];have e:tabZ.getD j 0=((Lib.deBruijn64tab.getD j 0:Nat):Int):=by
  simp only[tabZ,List.getD_eq_getElem?_getD,List.getElem?_map];rw[List.getElem?_eq_getElem hj];rfl
 rw[e]
theorem ao4(h:Tab W):1<W.heap.size:=World.block_lt_of_cell? W _ (h 0 (by decide))
section
variable{H:Type}{enc:TypeId×Value->H}
theorem ag6{f:Func}{s:ChangeSpec}{W':World}{args:Array Value}{ds:List (DataW H)}{before:List MemPlace}
 (hW:DataW.Whole enc Tryz.prog f.params.toList s.vars false W args.toList ds [] before) (hv:s.vars=[]) (hr:f.resultTypes=#[4]) (hs:s.fn H (ds++[])={results:=[.lit (.bool true)],args:=ds})
 (hargs:∀sp:Nat->Bool,(∀p∈before,sp p.block=true)->DataW.TrodAll enc Tryz.prog W' 0 sp true f.params.toList args.toList ds before) (hb:Below W.heap.size W W'):
 s.post enc Tryz.prog f false true false false W args (.bool true) W':=by
 have hlt:∀p∈before,p.block<W.heap.size:=fun p hp=>hW.lt p hp;have hold:∀p∈before,(fun b=>decide (b<W.heap.size)) p.block=true:=fun p hp=>by simpa using hlt p hp
 have hres:∀(b:Nat) (sp:Nat->Bool) (hd:Bool),DataW.TrodAll enc Tryz.prog W' b sp hd f.resultTypes.toList ((Value.bool true).resultList f.resultTypes.size) [.lit (.bool true)] []:=by
  intro b sp hd;rw[hr];exact trodAll_cons_mk (shut_bool Tryz.underlying4 _) trodAll_mk0
 have hvars:∀sp:Nat->Bool,DataW.TrodVars enc Tryz.prog W' sp s.vars [] []:=fun sp=>by rw[hv];rfl
 refine⟨ds,[],before,[],before,[],hW,?_,?_,?_,?_,fun h=>by cases h⟩
 . rw[hs];exact hres _ _ _
 . rw[hs];exact hargs _ hold
 . rw[hs];exact hvars _
 . refine World.keptBut_mono (fun p hp=> ?_) (hb.frame (· ∈before))
   exact⟨hp,by simpa using hp⟩
end
section
variable{H:Type}{enc:TypeId×Value->H}{P:Program}{w:World}{base:Nat}{spare:Nat->Bool}{held:Bool}
end
section
variable{H:Type}{enc:TypeId×Value->H}{P:Program}{w:World}{base:Nat}{spare:Nat->Bool}{held:Bool}
end
theorem dN:Tryz.prog.cellsOf 3=1:=by kernel_rfl
end Go.Proofs.YtjaafolhfihegaaGreatDoor
