/- A part of the proof: contracts of functions and plain laws (ScC, ScD, SymM, ScE). -/
import Derived.Test.YtigoiiekebccnaaGreatDoorK13
import Derived.Test.YtigoiiekebccnaaGreatDoorK17
import Derived.Test.YtigoiiekebccnaaGreatDoorK01
import Derived.Test.YtigoiiekebccnaaGreatDoorK12
import Derived.Test.YtigoiiekebccnaaGreatDoorK07
set_option linter.unusedVariables false
set_option linter.unusedSimpArgs false
set_option linter.unnecessarySimpa false
set_option maxHeartbeats 25600000
set_option maxRecDepth 100000
namespace Go.Proofs.YtigoiiekebccnaaGreatDoor
open Go.RowKit
open _root_.ByteArray renaming size_extract->bbH
open Go.Lib renaming goFieldsP->bbG,closeSpans->bbO,countB->bbQ,splitB->bbV,hasPrefix->bbZ,indexB_cases->bb8,countB_miss->bb9,spansFromP->bcA,trimB->bcC
open Go.World renaming setCell->bbR,cell?_of_block->bbW,ownsRow_nil->bb5
open List renaming getElem?_eq_some_iff->bbF,length_map->bbI,length_append->bbJ,mem_of_getElem?->bbK,mem_singleton->bbN,getElem?_eq_getElem->bbP,length_cons->bbS,take_of_length_le->bbT,length_singleton->bbU,getElem?_map->bb6
open Nat renaming le_trans->bbM,zero_le->bbX,le_refl->bbY,lt_of_lt_of_le->bb4,lt_or_ge->bb7,add_comm->bcB
open Option.some renaming inj->bbL
variable{k:Int}{xs:List Int}{B g i m:Nat}{p:Nat->Bool}{v:Value}{w':World}
theorem adU(w:World):PredAtRunes Tryz.prog 58 #[] aW w:=fun W x hx hb=>by
 show Calls Tryz.prog 58 #[.int .i32 x] W _;have hxI:(x:Int)<=1114111:=by omega
 have he:((x:Int)==32)=aW x:=by
  unfold aW;rcases Decidable.em (x=32)with rfl|h
  . rfl
  . rw[beq_eq_false_iff_ne.2 (by omega:(x:Int)≠32),beq_eq_false_iff_ne.2 h]
 go_enter Tryz.func58,Tryz.ntmps58
 go_wp2;go_ret;exact⟨rfl,0,rfl⟩
theorem agO{s:ByteArray}{w:World}(hs:s.size<=20000):Calls Tryz.prog 57 #[.string s,.func (.func 58) #[] #[]] w (fun e w'=>∃A,e=.returned (.slice (some ⟨A,0,none⟩) (bbG aW s).length (bbG aW s).length)/\Below w.heap.size w w'/\
 ∀(j:Nat) x,(bbG aW s)[j]? =some x->w'.cell? ⟨A,j,none⟩=some (.string x)):=by
 refine(Tryz.strings_FieldsFunc_runes 58 #[] (enters_of Tryz.func58 (by kernel_rfl) rfl) aW s w (by omega) (adU w)).mono ?_;rintro e w'⟨A,he,hA,hown,hb⟩;refine⟨A,he,hb,fun j x hx=> ?_⟩;have hj:=(bbF.1 hx).1;rw[hown.cellAt j (by omega)];simp[hx]
def numsL:List ByteArray->Option (List Int)
 |[]=>some []
 |x::ws=>match numL x.data.toList with
  |none=>none
  |some n=>(numsL ws).map (n:: ·)
def gX(s:ByteArray):Option (ByteArray×List Int):=match bbG aW s with
 |[]=>none
 |x::ws=>match numsL ws with
  |none=>none
  |some xs=>if dE x xs then some (x,xs)else none
def RetPr(w:World)(r:Option (ByteArray×List Int))(e:Ending)(w':World):Prop:=Below w.heap.size w w'/\((r=none/\e=.returned (.tuple #[.agg #[.string ⟨#[]⟩,.slice none 0 0],.bool false]))\/
 ∃x xs v,r=some (x,xs)/\e=.returned (.tuple #[.agg #[.string x,v],.bool true])/\IntS w' v xs/\∀b,v.ownBlock=some b->w.heap.size<=b/\b<w'.heap.size)
theorem agP{w:World}{a b:Value}{T:TypeId}(h:w.heap[g]? =some (.cells #[a,b] T (0,0))):w.setCell ⟨g,1,none⟩ b=w:=by
 have hs:=setB h b;have hh:(w.setCell ⟨g,1,none⟩ b).heap=w.heap:=by
  apply Array.ext_getElem?;intro i;by_cases hi:i=g
  . subst hi;exact hs.trans h.symm
  . exact Below.heap_setCell _ _ _ _ (by simpa using hi)
 have e2:w.setCell ⟨g,1,none⟩ b={w with heap:=(w.setCell ⟨g,1,none⟩ b).heap}:=rfl;rw[e2,hh]
theorem IntS.far {w:World}(h:IntS w v xs)(hn:∀b,v.ownBlock=some b->b≠g)(u:Value):IntS (w.setCell ⟨g,i,none⟩ u) v xs:=by
 obtain⟨p,c,rfl,h1,h2,h3⟩:=h;refine⟨p,c,rfl,h1,h2,fun j x hx=> ?_⟩;obtain⟨b,o,rfl,hc⟩:=h3 j x hx;refine⟨b,o,rfl,(bbW (a:=⟨b,o+j,none⟩) (Below.heap_setCell _ _ _ _ ?_)).trans hc⟩;exact fun e=>hn b rfl e
theorem below_grown{w:World}{row:Option Nat}(h:w.grownBy w' row)(hB:B<=w.heap.size)(hg:∀b,row=some b->B<=b):Below B w w':=
 ⟨h.os,h.tape,h.output,h.size,fun i hi=>h.block i (by omega) (fun e=>by have:=hg i e.symm;omega)⟩
theorem agQ{s y:ByteArray}(h:y∈bbG p s):y.size<=s.size:=by
 unfold bbG at h;obtain⟨x,-,rfl⟩:=List.mem_map.1 h;rw[bbH];omega
theorem agR{s:ByteArray}:∀(f pos:Nat) (st:Option Nat) (acc:List (Nat×Nat)),(bbO s (bcA p s f pos st acc)).length<=acc.length+f+1:=by
 intro f
 induction f with
 |zero=>intro pos st acc;show(bbO s (acc,st)).length<=_;unfold bbO;cases st<;>simp
 |succ f ih=>
  intro pos st acc;unfold bcA
  split
  . split
    . cases st with
      |some a=>have:=ih (pos+(Utf8.decode s pos).2) none (acc++[(a,pos)]);simp only[bbJ,bbU]at this;simp only;omega
      |none=>have:=ih (pos+(Utf8.decode s pos).2) none acc;simp only;omega
    . cases st with
      |some a=>have:=ih (pos+(Utf8.decode s pos).2) (some a) acc;simp only;omega
      |none=>have:=ih (pos+(Utf8.decode s pos).2) (some pos) acc;simp only;omega
  . unfold bbO;cases st<;>simp
    omega
theorem agS{s:ByteArray}:(bbG p s).length<=s.size+1:=by
 unfold bbG Lib.spansOfP;rw[bbI];have:=agR (p:=p) (s:=s) s.size 0 none [];simpa using this
theorem adV{s:ByteArray}(h:bbG aW s=[]):gX s=none:=by unfold gX;rw[h]
theorem vI{s x:ByteArray}{ws:List ByteArray}(h:bbG aW s=x::ws):gX s=match numsL ws with
 |none=>none
 |some xs=>if dE x xs then some (x,xs)else none:=by unfold gX;rw[h]
theorem agT{ws:List ByteArray}{y:ByteArray}{n:Int}:∀{m:Nat} {xs:List Int},ws[m]? =some y->numsL (ws.take m)=some xs->numL y.data.toList=some n->numsL (ws.take (m+1))=some (xs++[n]):=by
 induction ws with
 |nil=>intro m xs h;simp at h
 |cons a ws ih=>
  intro m xs h h1 h2
  cases m with
  |zero=>
   obtain rfl:a=y:=by simpa using h
   obtain rfl:[]=xs:=bbL h1;simp[numsL,h2]
  |succ m=>
   rw[List.take_succ_cons]at h1|-;unfold numsL at h1|-;rcases ha:numL a.data.toList with _|k
   . rw[ha]at h1;cases h1
   . rw[ha]at h1
     simp only at h1|-;rcases hb:numsL (ws.take m)with _|ys
     . rw[hb]at h1;cases h1
     . rw[hb]at h1
       obtain rfl:k::ys=xs:=bbL h1;rw[ih (by simpa using h) hb h2];rfl
theorem akA{ws:List ByteArray}{y:ByteArray}(h:ws[m]? =some y)(h2:numL y.data.toList=none):numsL ws=none:=by
 induction ws generalizing m with
 |nil=>simp at h
 |cons a ws ih=>
  unfold numsL
  cases m with
  |zero=>
   obtain rfl:a=y:=by simpa using h
   rw[h2]
  |succ m=>
   rcases ha:numL a.data.toList with _|k
   . rfl
   . simp only;rw[ih (by simpa using h)];rfl
abbrev qY(xs:List Int):List Value:=xs.map (Value.int .i64)
def PrS(ws:List ByteArray)(x:ByteArray)(b5 m:Nat)(w2 wr:World):Prop:=∃xs v,numsL (ws.take m)=some xs/\xs.length=m/\wr.heap[b5]? =some (.cells #[.string x,v] 27 (0,0))/\wr.ownsRow (b5+1) 3 1 v m (qY xs)/\Below b5 w2 wr/\b5+1<=wr.heap.size
theorem abS{w:World}{base:Nat}(h:w.ownsRow base 3 1 v m (qY xs))(hl:xs.length=m):IntS w v xs/\∀b,v.ownBlock=some b->base<=b/\b<w.heap.size:=by
 refine⟨?_,fun b hb=>h.lt b hb⟩;rcases id h.2 with ⟨rfl,hn⟩|⟨r,cap,cur,rfl,hr,hh,hcap,hmax,hsz,hcur⟩
 . exact⟨none,0,by rw[hl,hn],by omega,by unfold maxLen;omega,fun j x hx=>by have:=(bbF.1 hx).1;omega⟩
 . refine⟨_,cap,by rw[hl],by omega,hmax,fun j x hx=>⟨r,0,rfl,?_⟩⟩
   have hj:=(bbF.1 hx).1;rw[Nat.zero_add,h.cellAt j (by omega)];simp[hx]
theorem agU{s:ByteArray}{w:World}(hs:s.size<=20000):Calls Tryz.prog 33 #[.string s] w (RetPr w (gX s)):=by
 obtain⟨w1,hw1,hb1,hs1,b1⟩:=pro1 w (.cells #[.string ⟨#[]⟩,.slice none 0 0] 27);have HC:=hdd (agO (w:=w1) hs);obtain⟨R,hR⟩:∃R,gX s=R:=⟨_,rfl⟩;rw[hR];go_enter Tryz.func33,Tryz.ntmps33
 go_wp2_with fail
 refine HC.out.mono ?_;rintro e w2⟨A,rfl,hb2,hcell⟩;have HB2:=hdd (aA hb1 hb2);have B2:=hdd (aC b1 hb2 (aD b1));rcases hf:bbG aW s with _|⟨x,ws⟩
 . obtain rfl:none=R:=by rw[<-hR];exact(adV hf).symm
   clear hcell hb1 hb2 hs1 b1 hR HC hw1;obtain⟨c0,c1,f0,f1⟩:=aB B2.out;have HS:=hdd (set2 B2.out (.string ⟨#[]⟩) (.slice none 0 0));go_wp2;obtain⟨x0,x1,-,-⟩:=aB HS.out;refine bodyPost_ret (v:=.tuple #[.agg #[_,_],_]) (by simp[results,Tryz.results33,go_sem,x0,x1];first|exact⟨⟨rfl,rfl⟩,rfl⟩|rfl) rfl ?_;exact⟨(HB2.out.setCell (by simp) _).setCell (by simp) _,Or.inl ⟨rfl,rfl⟩⟩
 . have hps:=vI hf
   rw[hR]at hps;have HY:Hid (∀(m:Nat) y,ws[m]? =some y->y.size<=20000):=hdd fun m y hy=>bbM (agQ (p:=aW) (s:=s) (by rw[hf];exact List.mem_cons_of_mem _ (bbK hy))) hs;rw[hf]at hcell;have c0:=hcell 0 x rfl;have HW:Hid (∀(m:Nat) y,ws[m]? =some y->w2.cell? ⟨A,1+m,none⟩=some (.string y)):=hdd fun m y hy=>hcell (1+m) y (by rw[bcB];exact hy);have HL:Hid (ws.length<=20000):=hdd (by have:=agS (p:=aW) (s:=s);rw[hf,bbS]at this;omega);have HP:=hdd hps;obtain⟨w3,hw3,hb3,hs3,b3⟩:=pro1 w2 (.cells #[.string x,.slice none 0 0] 27);have HS0:Hid (PrS ws x w2.heap.size 0 w2 w3):=hdd ⟨[],_,rfl,rfl,b3,bb5 _ _ _ _,hb3,by omega⟩;obtain⟨d0,d1,f0,f1⟩:=aB b3;have hset:=agP b3;obtain⟨i0,hi0,hz0,hz1,hz2⟩:=info_parts pM;have HI0:=hdd hi0;have HZ0:=hdd hz0;have HZ1:=hdd hz1;have HZ2:=hdd hz2;simp only[bbS];have hlt12:w.heap.size<w2.heap.size:=by have:=hb2.size;omega
   have HLT:=hdd hlt12;obtain⟨n,hn⟩:∃n,ws.length=n:=⟨_,rfl⟩;have HLN:=hdd hn;rw[hn]at HL|-;have hlI:(n:Int)<=20000:=by have:=HL.out;omega
   clear hcell hb1 hb2 hs1 b1 hR HC hw1 hps hf hs hs3 hb3 b3 hi0 hz0 hz1 hz2 hlt12 hn;have HZ:Hid (∀w',Below w2.heap.size w2 w'->w'.heap[w.heap.size]? =some (.cells #[.string ⟨#[]⟩,.slice none 0 0] 27 (0,0))):=hdd fun w' h=>aC B2.out h HLT.out;have HBB:Hid (∀w',Below w2.heap.size w2 w'->Below w.heap.size w w'):=hdd fun w' h=>aA HB2.out h;have hq:((n:Int)+1==0)=false:=beq_eq_false_iff_ne.2 (by omega);have hcs:n=0\/(¬(n+1=1)/\¬(n=0)/\(1:Int)<=(n:Int)):=by omega
   rcases hcs with rfl|⟨hcn,hcn2,hnI⟩
   . go_wp2_with fail
     go_loopw [23] (fun i wr=>∃m:Nat,m<=ws.length/\i=.int .i64 (m:Int)/\Hid (PrS ws x w2.heap.size m w2 wr)) (fun i _=>((ws.length:Int)-intOf i).toNat)
     case atStart=>exact⟨0,bbX _,rfl,HS0⟩
     case round=>
      obtain⟨m,hm,rfl,HG⟩:=hrel;obtain rfl:m=0:=by have:=HLN.out;omega
      obtain⟨xs,v,hnu,hxl,hb5,hown,hbl,hsz⟩:=HG.out;obtain⟨hI,hfr⟩:=abS hown hxl;have hnu2:numsL ws=some xs:=by rw[bbT (by have:=HLN.out;omega)]at hnu;exact hnu
      have hps:=HP.out;rw[hnu2]at hps;simp only at hps;obtain⟨p,c,rfl,-⟩:=id hI;obtain⟨y0,y1,h0,h1⟩:=aB hb5;have HFT:=hdd (jH (s:=x) hI (by have:=HL.out;have:=HLN.out;omega));obtain⟨F,hF⟩:∃F,dE x xs=F:=⟨_,rfl⟩;rw[hF]at hps HFT;have H5:=hdd (And.intro hI (And.intro hfr (And.intro hbl hsz)));clear hnu hnu2 hxl hb5 hown hbl hsz hI hfr HG hm HZ0 HZ1 HZ2 HI0 HY HW hF d0 d1 f0 f1 hset hw3;rcases F with _|_
      . obtain rfl:R=none:=by simpa using hps
        clear hps HP;go_wp2_with fail
        refine HFT.out.mono ?_;rintro e wa⟨rfl,hba⟩;have HBA:=hdd (aA H5.out.2.2.1 hba);replace y0:=cbl y0 hba;replace y1:=cbl y1 hba;obtain⟨e0,e1,g0,g1⟩:=aB (HZ.out wa HBA.out);have HBF:=hdd (HBB.out wa HBA.out);have HS:=hdd (set2 (HZ.out wa HBA.out) (.string ⟨#[]⟩) (.slice none 0 0));clear hba h0 h1;go_wp2;obtain⟨x0,x1,-,-⟩:=aB HS.out;refine bodyPost_ret (v:=.tuple #[.agg #[_,_],_]) (by simp[results,Tryz.results33,go_sem,x0,x1];first|exact⟨⟨rfl,rfl⟩,rfl⟩|rfl) rfl ?_;exact⟨(HBF.out.setCell (by simp) _).setCell (by simp) _,Or.inl ⟨rfl,rfl⟩⟩
      . obtain rfl:R=some (x,xs):=by simpa using hps
        clear hps HP;go_wp2_with fail
        refine HFT.out.mono ?_;rintro e wa⟨rfl,hba⟩;have HBA:=hdd (aA H5.out.2.2.1 hba);have HBW:=hdd hba;replace y0:=cbl y0 hba;replace y1:=cbl y1 hba;obtain⟨e0,e1,g0,g1⟩:=aB (HZ.out wa HBA.out);have HBF:=hdd (HBB.out wa HBA.out);clear hba h0 h1;have HS:=hdd (set2 (HZ.out wa HBA.out) (.string x) (.slice p xs.length c));have HFIN:Hid (RetPr w (some (x,xs)) (.returned (.tuple #[.agg #[.string x,.slice p xs.length c],.bool true])) ((wa.setCell ⟨w.heap.size,0,none⟩ (.string x)).setCell ⟨w.heap.size,1,none⟩ (.slice p xs.length c))):=hdd (by
         obtain⟨hI,hfr,hbl,hsz⟩:=H5.out;have hI2:=hI.below HBW.out;have hlt:=HLT.out;have hwa:=HBW.out.size;refine⟨(HBF.out.setCell (by simp) _).setCell (by simp) _,Or.inr ⟨x,xs,_,rfl,rfl,?_,fun b hb=> ?_⟩⟩
         . exact(hI2.far (by intro b hb;have:=hfr b hb;omega) _).far (by intro b hb;have:=hfr b hb;omega) _
         . have:=hfr b hb
           simp[bbR];omega)
        go_wp2;obtain⟨x0,x1,-,-⟩:=aB HS.out;refine bodyPost_ret (v:=.tuple #[.agg #[_,_],_]) (by simp[results,Tryz.results33,go_sem,x0,x1];first|exact⟨⟨rfl,rfl⟩,rfl⟩|rfl) rfl ?_;exact HFIN.out
   . go_wp2_with fail
     go_loopw [23] (fun i wr=>∃m:Nat,m<=ws.length/\i=.int .i64 (m:Int)/\Hid (PrS ws x w2.heap.size m w2 wr)) (fun i _=>((ws.length:Int)-intOf i).toNat)
     case atStart=>exact⟨0,bbX _,rfl,HS0⟩
     case round=>
      obtain⟨m,hm,rfl,HG⟩:=hrel;rcases bb7 m ws.length with hlt|hge
      . rw[HLN.out]at hlt
        obtain⟨xs,v,hnu,hxl,hb5,hown,hbl,hsz⟩:=HG.out;obtain⟨y,hy⟩:∃y,ws[m]? =some y:=⟨_,bbP (by rw[HLN.out];exact hlt)⟩;have ca:=cbl (HW.out m y hy) hbl;have HPN:=hdd (ajP (s:=y) (w:=wr) (HY.out m y hy));have hmI:(m:Int)<(n:Int):=Int.ofNat_lt.2 hlt;have hm0:(0:Int)<=(m:Int):=Int.natCast_nonneg _;have HM:=hdd (And.intro hlt hy);have H5:=hdd (And.intro hnu (And.intro hxl (And.intro hb5 (And.intro hown (And.intro hbl hsz)))));have HBD:=hdd (akA (ws:=ws) hy);obtain⟨N,hN⟩:∃N,numL y.data.toList=N:=⟨_,rfl⟩;have HN:=hdd hN;rw[hN]at HPN HBD;clear hnu hxl hb5 hown hbl hsz hy hlt HG hm hN d0 d1 f0 f1 hset hw3;rcases N with _|k
        . have hps:=HP.out
          rw[HBD.out rfl]at hps;subst hps;simp only[Option.getD_none,Option.isSome_none]at HPN;go_wp2_with fail
          refine HPN.out.mono ?_;rintro e wa⟨rfl,hba⟩;have HBA:=hdd (aA H5.out.2.2.2.2.1 hba);obtain⟨e0,e1,g0,g1⟩:=aB (HZ.out wa HBA.out);have HS:=hdd (set2 (HZ.out wa HBA.out) (.string ⟨#[]⟩) (.slice none 0 0));have HBF:=hdd (HBB.out wa HBA.out);clear hba;go_wp2;obtain⟨x0,x1,-,-⟩:=aB HS.out;refine bodyPost_ret (v:=.tuple #[.agg #[_,_],_]) (by simp[results,Tryz.results33,go_sem,x0,x1];first|exact⟨⟨rfl,rfl⟩,rfl⟩|rfl) rfl ?_;exact⟨(HBF.out.setCell (by simp) _).setCell (by simp) _,Or.inl ⟨rfl,rfl⟩⟩
        . simp only[Option.getD_some,Option.isSome_some]at HPN
          go_wp2_with fail
          refine HPN.out.mono ?_;rintro e wa⟨rfl,hba⟩;obtain⟨y0,y1,-,-⟩:=aB (aC H5.out.2.2.1 hba (aD H5.out.2.2.1));obtain⟨wb,hwb,hbb,hsb,bb⟩:=pro1 wa (.cells #[.int .i64 k] 3);have HCB:=hdd (dM bb);have HAB:=hdd (aA hba hbb);have HO7:=hdd (H5.out.2.2.2.1.kept (aH (row:=none) (aA hba hbb)) (by
           rcases hv:v.ownBlock with _|b
           . exact Or.inl rfl
           . exact Or.inr (by simp)))
          have HSZ:Hid (w2.heap.size+1<=wb.heap.size):=hdd (bbM H5.out.2.2.2.2.2 (aA hba hbb).size);have HB7:=hdd (aC H5.out.2.2.1 (aA hba hbb) (aD H5.out.2.2.1));have hfv:∀b,v.ownBlock=some b->w2.heap.size+1<=b:=fun b hb=>(H5.out.2.2.2.1.lt b hb).1;have HFV:=hdd hfv;clear hba hbb hsb bb hfv;go_wp2_with (first
           |(at_builtin
             go_loud (
             refine wpList_append_lies _ rfl _ _ 25 rfl (w2.heap.size+1) 3 i0 (.int .i64 0) 1 8 kK HI0.out HZ0.out HZ1.out HZ2.out rfl (by decide) _ m (qY xs) rfl HO7.out ⟨wa.heap.size,0,none⟩ 1 1 [.int .i64 k] rfl rfl HCB.out (by simp[Value.oneCell']) (by decide) (by have:=HM.out.1;have:=HL.out;unfold maxLen;omega) (by have:=HM.out.1;have:=HL.out;omega) HSZ.out wb.heap.size rfl ?_;intro r2 cap2 w8 hown8 hgrow8 hat8 hlt8;have hb8:w8.heap[w2.heap.size]? =some (.cells #[.string x,v] 27 (0,0)):=(hgrow8.block _ (aD HB7.out) (fun e=>by have:=HFV.out _ e.symm;omega)).trans HB7.out;obtain⟨q0,q1,q2,q3⟩:=aB hb8;have HO8:=hdd hown8;have HG8:=hdd hgrow8;have HB8:=hdd hb8;clear hown8 hgrow8 hat8 hlt8 hb8)))
          have HNX:Hid (PrS ws x w2.heap.size (m+1) w2 (w8.setCell ⟨w2.heap.size,1,none⟩ (.slice (some ⟨r2,0,none⟩) (m+1) cap2))):=hdd (by
           obtain⟨hnu,hxl,hb5,hown,hbl,hsz⟩:=H5.out;have hr2:=(HO8.out.lt r2 rfl).1;have b8:Below w2.heap.size w2 w8:=(aA hbl HAB.out).trans (below_grown HG8.out (by have:=HSZ.out;omega) fun b hb=>by have:=HFV.out b hb;omega);refine⟨xs++[k],_,agT HM.out.2 hnu HN.out,by rw[bbJ,hxl];rfl,setB HB8.out _,?_,b8.setCell nlr _,?_⟩
           . rw[show qY (xs++[k])=qY xs++[.int .i64 k] by simp[qY]]
             exact lW HO8.out (by simp[Value.ownBlock];omega) _
           . have:=HSZ.out;have:=HG8.out.size;simp[bbR];omega)
          clear HO7 HO8 HG8 HB8 HB7 q0 q1 q2 q3 y0 y1 hwb
          go_roundw
          case rel=>exact⟨m+1,by have:=HM.out.1;have:=HLN.out;omega,by go_num,HNX⟩
          case measure=>exact fE (by have:=HM.out.1;have:=HLN.out;omega)
      . obtain rfl:m=n:=by have:=HLN.out;omega
        obtain⟨xs,v,hnu,hxl,hb5,hown,hbl,hsz⟩:=HG.out;obtain⟨hI,hfr⟩:=abS hown hxl;have hnu2:numsL ws=some xs:=by rw[bbT (by have:=HLN.out;omega)]at hnu;exact hnu
        have hps:=HP.out;rw[hnu2]at hps;simp only at hps;obtain⟨p,c,rfl,-⟩:=id hI;obtain⟨y0,y1,h0,h1⟩:=aB hb5;have HFT:=hdd (jH (s:=x) hI (by have:=HL.out;have:=HLN.out;omega));obtain⟨F,hF⟩:∃F,dE x xs=F:=⟨_,rfl⟩;rw[hF]at hps HFT;have H5:=hdd (And.intro hI (And.intro hfr (And.intro hbl hsz)));clear hnu hnu2 hxl hb5 hown hbl hsz hI hfr HG hm HZ0 HZ1 HZ2 HI0 HY HW hF d0 d1 f0 f1 hset hw3;rcases F with _|_
        . obtain rfl:R=none:=by simpa using hps
          clear hps HP;go_wp2_with fail
          refine HFT.out.mono ?_;rintro e wa⟨rfl,hba⟩;have HBA:=hdd (aA H5.out.2.2.1 hba);replace y0:=cbl y0 hba;replace y1:=cbl y1 hba;obtain⟨e0,e1,g0,g1⟩:=aB (HZ.out wa HBA.out);have HBF:=hdd (HBB.out wa HBA.out);have HS:=hdd (set2 (HZ.out wa HBA.out) (.string ⟨#[]⟩) (.slice none 0 0));clear hba h0 h1;go_wp2;obtain⟨x0,x1,-,-⟩:=aB HS.out;refine bodyPost_ret (v:=.tuple #[.agg #[_,_],_]) (by simp[results,Tryz.results33,go_sem,x0,x1];first|exact⟨⟨rfl,rfl⟩,rfl⟩|rfl) rfl ?_;exact⟨(HBF.out.setCell (by simp) _).setCell (by simp) _,Or.inl ⟨rfl,rfl⟩⟩
        . obtain rfl:R=some (x,xs):=by simpa using hps
          clear hps HP;go_wp2_with fail
          refine HFT.out.mono ?_;rintro e wa⟨rfl,hba⟩;have HBA:=hdd (aA H5.out.2.2.1 hba);have HBW:=hdd hba;replace y0:=cbl y0 hba;replace y1:=cbl y1 hba;obtain⟨e0,e1,g0,g1⟩:=aB (HZ.out wa HBA.out);have HBF:=hdd (HBB.out wa HBA.out);clear hba h0 h1;have HS:=hdd (set2 (HZ.out wa HBA.out) (.string x) (.slice p xs.length c));have HFIN:Hid (RetPr w (some (x,xs)) (.returned (.tuple #[.agg #[.string x,.slice p xs.length c],.bool true])) ((wa.setCell ⟨w.heap.size,0,none⟩ (.string x)).setCell ⟨w.heap.size,1,none⟩ (.slice p xs.length c))):=hdd (by
           obtain⟨hI,hfr,hbl,hsz⟩:=H5.out;have hI2:=hI.below HBW.out;have hlt:=HLT.out;have hwa:=HBW.out.size;refine⟨(HBF.out.setCell (by simp) _).setCell (by simp) _,Or.inr ⟨x,xs,_,rfl,rfl,?_,fun b hb=> ?_⟩⟩
           . exact(hI2.far (by intro b hb;have:=hfr b hb;omega) _).far (by intro b hb;have:=hfr b hb;omega) _
           . have:=hfr b hb
             simp[bbR];omega)
          go_wp2;obtain⟨x0,x1,-,-⟩:=aB HS.out;refine bodyPost_ret (v:=.tuple #[.agg #[_,_],_]) (by simp[results,Tryz.results33,go_sem,x0,x1];first|exact⟨⟨rfl,rfl⟩,rfl⟩|rfl) rfl ?_;exact HFIN.out
theorem vJ{w:World}:Calls Tryz.prog 18 #[] w (fun e w'=>e=.returned (.iface 57 (.int .i64 6))/\w=w'):=by
 go_enter Tryz.func18,Tryz.ntmps18
 go_wp2;go_ret;exact⟨rfl,rfl⟩
theorem ae2{w:World}:Calls Tryz.prog 19 #[] w (fun e w'=>e=.returned (.iface 57 (.int .i64 7))/\w=w'):=by
 go_enter Tryz.func19,Tryz.ntmps19
 go_wp2;go_ret;exact⟨rfl,rfl⟩
def zL(w:World)(i k:Int)(e:Ending)(w':World):Prop:=e=.returned (.iface 93 (.pointer (some ⟨w.heap.size,0,none⟩)))/\w'.heap[w.heap.size]? =some (.cells #[.int .i64 i,.iface 57 (.int .i64 k)] 95 (0,0))/\Below w.heap.size w w'
theorem yD{w:World}{i:Int}:Calls Tryz.prog 34 #[.int .i64 i,.iface 57 (.int .i64 k)] w (zL w i k):=by
 have HE:Hid (zL w i k (.returned (.iface 93 (.pointer (some ⟨w.heap.size,0,none⟩)))) (w.alloc (.cells #[.int .i64 i,.iface 57 (.int .i64 k)] 95))):=hdd ⟨rfl,heap_alloc_new _ _,aN _ _⟩;go_enter Tryz.func34,Tryz.ntmps34
 go_wp2;go_ret;exact HE.out
abbrev Stp:=ByteArray×List Int
def jR(s:ByteArray):Bool:=bbZ s.data.toList [35]||(bcC s.data.toList 32).isEmpty
def runL:List ByteArray->Nat->List Stp->List Stp ⊕ (Nat×Int)
 |[],_,acc=>.inl acc
 |s::t,i,acc=>if jR s then runL t (i+1) acc else match gX s with
  |none=>.inr (i+1,6)
  |some x=>if acc.length=200 then .inr (i+1,7)else runL t (i+1) (acc++[x])
def oF(s:ByteArray):List ByteArray:=bbV ⟨#[10]⟩ 0 (bbQ s ⟨#[10]⟩) s
def lX(s:ByteArray):List Stp ⊕ (Nat×Int):=if 20000<s.size then .inr (0,7)else runL (oF s) 0 []
def zM(w:World)(v:Value)(l:List Stp):Prop:=∃p c,v=.slice p l.length c/\∀(j:Nat) x,l[j]? =some x->∃b u,p=some ⟨b,0,none⟩/\w.cell? ⟨b,j*2,none⟩=some (.string x.1)/\w.cell? ⟨b,j*2+1,none⟩=some u/\IntS w u x.2
def pX(w:World)(r:List Stp ⊕ (Nat×Int))(e:Ending)(w':World):Prop:=Below w.heap.size w w'/\match r with
 | .inl l=>∃v,e=.returned (.tuple #[v,.nilIface])/\zM w' v l
 | .inr (0,k)=>e=.returned (.tuple #[.slice none 0 0,.iface 57 (.int .i64 k)])
 | .inr (i+1,k)=>∃b,e=.returned (.tuple #[.slice none 0 0,.iface 93 (.pointer (some ⟨b,0,none⟩))])/\w.heap.size<=b/\w'.heap[b]? =some (.cells #[.int .i64 ((i+1:Nat):Int),.iface 57 (.int .i64 k)] 95 (0,0))
def eQ(tl:List (Stp×Value)):List Value:=tl.flatMap fun t=>[.string t.1.1,t.2]
def RowSt(B:Nat)(w:World)(v:Value)(tl:List (Stp×Value)):Prop:=w.ownsRow B 27 2 v tl.length (eQ tl)/\∀t∈tl,IntS w t.2 t.1.2/\∀b,t.2.ownBlock=some b->v.ownBlock≠some b/\B<=b/\b<w.heap.size
theorem zN{tl:List (Stp×Value)}{j:Nat}{t:Stp×Value}(h:tl[j]? =some t):(eQ tl)[j*2]? =some (.string t.1.1)/\(eQ tl)[j*2+1]? =some t.2:=by
 induction tl generalizing j with
 |nil=>simp at h
 |cons a tl ih=>
  have e:eQ (a::tl)=.string a.1.1::a.2::eQ tl:=rfl;rw[e]
  cases j with
  |zero=>
   obtain rfl:a=t:=by simpa using h
   exact⟨rfl,rfl⟩
  |succ j=>
   have:=ih (by simpa using h);rw[show(j+1)*2=j*2+1+1 by omega];exact this
theorem RowSt.steps {w:World}{tl:List (Stp×Value)}(h:RowSt B w v tl):zM w v (tl.map (·.1)):=by
 obtain⟨ho,hi⟩:=h;rcases id ho.2 with ⟨rfl,hn⟩|⟨r,cap,cur,rfl,hr,hh,hcap,hmax,hsz,hcur⟩
 . exact⟨none,0,by rw[bbI,hn],fun j x hx=>by have:=(bbF.1 hx).1;rw[bbI]at this;omega⟩
 . refine⟨_,cap,by rw[bbI],fun j x hx=> ?_⟩
   rw[bb6]at hx;rcases hj:tl[j]? with _|t
   . rw[hj]at hx;cases hx
   . rw[hj]at hx
     obtain rfl:t.1=x:=by simpa using hx
     have hlt:=(bbF.1 hj).1;obtain⟨q1,q2⟩:=zN hj;exact⟨r,t.2,rfl,(ho.cellAt (j*2) (by omega)).trans q1,(ho.cellAt (j*2+1) (by omega)).trans q2,(hi t (bbK hj)).1⟩
theorem RowSt.below {w:World}{tl:List (Stp×Value)}(h:RowSt B w v tl)(hb:Below w.heap.size w w'):RowSt B w' v tl:=by
 refine⟨h.1.kept (aH (row:=none) hb) ?_,fun t ht=> ?_⟩
 . rcases hv:v.ownBlock with _|b
   . exact Or.inl rfl
   . exact Or.inr (by simp)
 . obtain⟨q1,q2⟩:=h.2 t ht
   exact⟨q1.below hb,fun b hb'=>⟨(q2 b hb').1,(q2 b hb').2.1,bb4 (q2 b hb').2.2 hb.size⟩⟩
theorem RowSt.snoc {r cap:Nat}{w:World}{u:Value}{tl:List (Stp×Value)}{x:Stp}(h:RowSt B w v tl)(hu:IntS w u x.2)(hf:∀b,u.ownBlock=some b->v.ownBlock≠some b/\B<=b/\b<w.heap.size)
 (ho:w'.ownsRow B 27 2 (.slice (some ⟨r,0,none⟩) (tl.length+1) cap) (tl.length+1) (eQ tl++[.string x.1,u])) (hg:w.grownBy w' v.ownBlock) (hat:v.ownBlock=some r\/r=w.heap.size):RowSt B w' (.slice (some ⟨r,0,none⟩) (tl.length+1) cap) (tl++[(x,u)]):=by
 have key:∀{y:Value} {ys:List Int},IntS w y ys->(∀b,y.ownBlock=some b->v.ownBlock≠some b/\B<=b/\b<w.heap.size)->IntS w' y ys/\∀b,y.ownBlock=some b->(Value.slice (some ⟨r,0,none⟩) (tl.length+1) cap).ownBlock≠some b/\B<=b/\b<w'.heap.size:=by
  intro y ys hy hfy;refine⟨?_,fun b hb=> ?_⟩
  . obtain⟨p,c,rfl,h1,h2,h3⟩:=hy
    refine⟨p,c,rfl,h1,h2,fun j z hz=> ?_⟩;obtain⟨b,o,rfl,hc⟩:=h3 j z hz;obtain⟨q1,-,q3⟩:=hfy b rfl;exact⟨b,o,rfl,(bbW (a:=⟨b,o+j,none⟩) (hg.block b q3 (fun e=>q1 e.symm))).trans hc⟩
  . obtain⟨q1,q2,q3⟩:=hfy b hb
    refine⟨fun e=> ?_,q2,bb4 q3 hg.size⟩;have e2:r=b:=bbL e;rcases hat with hat|hat
    . exact q1 (by rw[hat,e2])
    . omega
 refine⟨?_,fun t ht=> ?_⟩
 . rw[bbJ,bbU]
   have e:eQ (tl++[(x,u)])=eQ tl++[.string x.1,u]:=by simp[eQ]
   rw[e];exact ho
 . rcases List.mem_append.1 ht with ht|ht
   . obtain⟨q1,q2⟩:=h.2 t ht
     exact key q1 q2
   . obtain rfl:=bbN.1 ht
     exact key hu hf
section
variable{P:Program}{w:World}{b off:Nat}{T:TypeId}{cs:List Value}
theorem gH{k:Nat}(h:w.heap[b]? =some (.cells cs.toArray T (0,0)))(hv:cs[k]? =some v):w.cell? ⟨b,k,none⟩=some v:=by
 simp[World.cell?,h,hv]
theorem zO{k:Nat}(h:w.heap[b]? =some (.cells cs.toArray T (0,0))):(w.setCell ⟨b,k,none⟩ v).heap[b]? =some (.cells (cs.set k v).toArray T (0,0)):=by
 have hg:b<w.heap.size:=(Array.getElem?_eq_some_iff.1 h).1;have h':w.heap[b]=.cells cs.toArray T (0,0):=(Array.getElem?_eq_some_iff.1 h).2;simp[bbR,hg,Array.getElem_modify,h']
def splice(cs:List Value)(k:Nat)(vs:List Value):List Value:=cs.take k++vs++cs.drop (k+vs.length)
theorem pY(w:World)(row:Option Nat):w.grownBy w row:=⟨rfl,rfl,rfl,bbY _,fun _ _ _=>rfl⟩
end
theorem vK(sep:ByteArray):∀(k:Nat) (s y:ByteArray),y∈bbV sep 0 k s->y.size<=s.size
 |0,s,y,h=>by
  rw[Lib.splitB_zero]at h;obtain rfl:=bbN.1 h;exact bbY _
 |k+1,s,y,h=>by
  unfold bbV at h
  split at h
  . obtain rfl:=bbN.1 h
    exact bbY _
  . rcases List.mem_cons.1 h with rfl|h
    . rw[bbH];omega
    . have:=vK sep k _ y h
      rw[bbH]at this;omega
theorem agV(sep:ByteArray)(h1:1<=sep.size):∀(k:Nat) (s:ByteArray),s.size<=k->(bbV sep 0 (bbQ s sep) s).length=bbQ s sep+1:=by
 intro k
 induction k with
 |zero=>
  intro s hs;rcases bb8 s sep with h|⟨i,h,hi⟩
  . rw[bb9 _ _ h];rfl
  . omega
 |succ k ih=>
  intro s hs;rcases bb8 s sep with h|⟨i,h,hi⟩
  . rw[bb9 _ _ h];rfl
  . rw[Lib.countB_hit _ _ i h1 h,bcB 1,Lib.splitB_hit _ _ _ _ i h,bbS,ih _ (by rw[bbH];omega)]
theorem akB(s:ByteArray)(w:World):Calls Tryz.prog 31 #[.string s,.string ⟨#[35]⟩] w (fun e w'=>e=.returned (.bool (bbZ s.data.toList [35]))/\w=w'):=
 (Tryz.strings_HasPrefix s ⟨#[35]⟩ w).mono fun e w' h=>⟨h.1,h.2.symm⟩
theorem agW(s:ByteArray)(w:World)(hs:s.size<=20000):Calls Tryz.prog 32 #[.string s,.string ⟨#[32]⟩] w (fun e w'=>∃T:ByteArray,T.toList=bcC s.data.toList 32/\e=.returned (.string T)/\Below w.heap.size w w'):=
 (Tryz.strings_Trim_one s 32 (by decide) w (by omega)).mono fun e w' h=>⟨_,by rw[ByteArray.toList_mk],h.1,by
   rcases h.2 with rfl|rfl
   . exact Below.refl _ _
   . exact(Below.refl _ _).drew⟩
def PaSt(L:List ByteArray)(R:List Stp ⊕ (Nat×Int))(w1:World)(m:Nat)(v:Value)(tl:List (Stp×Value))(wr:World):Prop:=runL (L.drop m) m (tl.map (·.1))=R/\RowSt w1.heap.size wr v tl/\Below w1.heap.size w1 wr/\tl.length<=200
theorem RowSt.slice {w:World}{tl:List (Stp×Value)}(h:RowSt B w v tl):∃p c,v=.slice p tl.length c:=by
 rcases id h.1.2 with ⟨rfl,hn⟩|⟨r,cap,cur,rfl,-⟩
 . exact⟨none,0,by rw[hn]⟩
 . exact⟨_,cap,rfl⟩
theorem adW{l:List ByteArray}{x:ByteArray}(h:l[m]? =some x):l.drop m=x::l.drop (m+1):=by
 obtain⟨h1,h2⟩:=bbF.1 h;rw[List.drop_eq_getElem_cons h1,h2]
theorem abT{s:ByteArray}{t:List ByteArray}{acc:List Stp}(h:jR s=true):runL (s::t) i acc=runL t (i+1) acc:=if_pos h
theorem amT{s:ByteArray}{t:List ByteArray}{acc:List Stp}(h:jR s=false)(hp:gX s=none):runL (s::t) i acc=.inr (i+1,6):=by
 unfold runL;rw[if_neg (by rw[h];simp),hp]
theorem akC{s:ByteArray}{t:List ByteArray}{acc:List Stp}{x:Stp}(h:jR s=false)(hp:gX s=some x)(ha:acc.length=200):runL (s::t) i acc=.inr (i+1,7):=by
 unfold runL;rw[if_neg (by rw[h];simp),hp];exact if_pos ha
theorem akD{s:ByteArray}{t:List ByteArray}{acc:List Stp}{x:Stp}(h:jR s=false)(hp:gX s=some x)(ha:¬acc.length=200):runL (s::t) i acc=runL t (i+1) (acc++[x]):=by
 rw[runL,if_neg (by rw[h];simp),hp];exact if_neg ha
theorem RetPr.bad {w:World}{e:Ending}(h:RetPr w none e w'):e=.returned (.tuple #[.agg #[.string ⟨#[]⟩,.slice none 0 0],.bool false])/\Below w.heap.size w w':=by
 obtain⟨hb,h|⟨x,xs,v,h,-⟩⟩:=h
 . exact⟨h.2,hb⟩
 . cases h
theorem RetPr.good {w:World}{e:Ending}{x:Stp}(h:RetPr w (some x) e w'):∃p c,e=.returned (.tuple #[.agg #[.string x.1,.slice p x.2.length c],.bool true])/\IntS w' (.slice p x.2.length c) x.2/\(∀b,(Value.slice p x.2.length c).ownBlock=some b->w.heap.size<=b/\b<w'.heap.size)/\Below w.heap.size w w':=by
 obtain⟨hb,h|⟨y,ys,v,h,he,hi,hf⟩⟩:=h
 . cases h.1
 . obtain rfl:=bbL h
   obtain⟨p,c,rfl,-⟩:=id hi;exact⟨p,c,he,hi,hf,hb⟩
theorem ae3{w:World}{e:Ending}(h:zL w ((m:Int)+1) k e w'):e=.returned (.iface 93 (.pointer (some ⟨w.heap.size,0,none⟩)))/\w'.heap[w.heap.size]? =some (.cells #[.int .i64 ((m+1:Nat):Int),.iface 57 (.int .i64 k)] 95 (0,0))/\Below w.heap.size w w':=h
theorem agX:Tryz.prog.underlying 22=some (.slice 27):=by kernel_rfl
theorem agY:(Tryz.prog.info? 27).map (fun i=>(i.zero,i.size,i.bytes))=some (some (.agg #[.string ⟨#[]⟩,.slice none 0 0]),2,40):=by kernel_rfl
theorem oG{s:ByteArray}{w:World}{mx:Int}(hm:w.cell? ⟨1,0,none⟩=some (.int .i64 mx)):Calls Tryz.prog 12 #[.string s] w (pX w (lX s)):=by
 have HLM:=fun w'=>hdd (ae2 (w:=w'));have HSC:=fun w'=>hdd (vJ (w:=w'));rcases bb7 20000 s.size with hs|hs
 . have hR:lX s=.inr (0,7):=if_pos hs
   have hsI:(20000:Int)<(s.size:Int):=by omega
   rw[hR];clear hR hs;go_enter Tryz.func12,Tryz.ntmps12
   go_wp2_with fail
   refine(HLM _).out.mono ?_;rintro e w2⟨rfl,hw⟩;obtain rfl:=hw;go_wp2
   go_ret2
   exact⟨Below.refl _ _,rfl⟩
 . have hsI:(s.size:Int)<=20000:=by omega
   have HSP:=hdd (Tryz.strings_Split s ⟨#[10]⟩ mx w (by omega) hm (by decide));have hR:lX s=runL (oF s) 0 []:=if_neg (by omega);obtain⟨R,hRR⟩:∃R,lX s=R:=⟨_,rfl⟩;rw[hRR]at hR|-;have hL:bbV ⟨#[10]⟩ 0 (bbQ s ⟨#[10]⟩) s=oF s:=rfl;have hN:(oF s).length=bbQ s ⟨#[10]⟩+1:=agV _ (by decide) _ s nlr;rw[hL]at HSP;have HY:Hid (∀(m:Nat) y,(oF s)[m]? =some y->y.size<=20000):=hdd fun m y hy=>bbM (vK _ _ _ _ (bbK hy)) hs;obtain⟨n,hn⟩:∃n,bbQ s ⟨#[10]⟩+1=n:=⟨_,rfl⟩;have hcI:(n:Int)<=30000:=by have:=Lib.countB_le ⟨#[10]⟩ (by decide) _ s nlr;omega
   rw[hn]at hN HSP;obtain⟨L,hLL⟩:∃L,oF s=L:=⟨_,rfl⟩;rw[hLL]at hR HSP HY hN;obtain⟨w1,hw1,hb1,hs1,b1⟩:=pro1 w (.cells (L.map Value.string).toArray 9);have HC:Hid (∀(m:Nat) y,L[m]? =some y->w1.cell? ⟨w.heap.size,m,none⟩=some (.string y)):=hdd fun m y hy=>gH (cs:=L.map Value.string) (by simpa using b1) (by rw[bb6,hy];rfl);have HB:=hdd hb1;have HN:=hdd hN;have HS0:Hid (PaSt L R w1 0 (.slice none 0 0) [] w1):=hdd ⟨hR.symm,⟨bb5 _ _ _ _,fun t ht=>by cases ht⟩,Below.refl _ _,bbX _⟩;have HSZ:Hid (w1.heap.size=w.heap.size+1):=hdd hs1;clear hm hs hRR hL hLL hn hb1 hs1 b1 hR hN;go_enter Tryz.func12,Tryz.ntmps12
   go_wp2_with fail
   refine HSP.out.mono ?_;rintro e w2⟨rfl,hw2⟩;rw[hw1]at hw2;obtain rfl:=hw2;clear hw1 HSP;go_wp2_with fail
   go_loopw [4,16] (fun v i wr=>∃(m:Nat) (tl:List (Stp×Value)),m<=n/\i=.int .i64 (m:Int)/\Hid (PaSt L R w2 m v tl wr)) (fun _ i _=>((n:Int)-intOf i).toNat)
   case atStart=>exact⟨0,[],bbX _,rfl,HS0⟩
   case round=>
    obtain⟨m,tl,hm,rfl,HG⟩:=hrel;obtain⟨hrun,hrow,hbl,h200⟩:=HG.out;obtain⟨p,c,rfl⟩:=hrow.slice;rcases bb7 m n with hlt|hge
    . obtain⟨y,hy⟩:∃y,L[m]? =some y:=⟨_,bbP (by rw[HN.out];exact hlt)⟩
      have ca:=cell_below (HC.out m y hy) (hbl.mono nlr) nlr;rw[adW hy]at hrun;have hmI:(m:Int)<(n:Int):=Int.ofNat_lt.2 hlt;have hm0:(0:Int)<=(m:Int):=Int.natCast_nonneg _;have HHP:=hdd (akB y wr);have HLT:=hdd hlt;have HYS:=hdd (HY.out m y hy);have HTR:=hdd (agW y wr HYS.out);have H5:=hdd (And.intro hrow (And.intro hbl h200));have HRN:=hdd hrun;clear hrun hrow hbl h200 HG hm hlt hy HS0;rcases hp:bbZ y.data.toList [35]with _|_
      case' true=>
       have HNX:Hid (PaSt L R w2 (m+1) (.slice p tl.length c) tl wr):=hdd ⟨by rw[<-HRN.out];exact(abT (by unfold jR;rw[hp];rfl)).symm,H5.out⟩;rw[hp]at HHP;clear HTR hp;go_wp2_with fail
       refine HHP.out.mono ?_;rintro e wa⟨rfl,hw⟩;obtain rfl:=hw;go_wp2_with fail
       go_roundw
       case rel=>exact⟨m+1,tl,HLT.out,by go_num,HNX⟩
       case measure=>exact fE HLT.out
      rw[hp]at HHP;rcases ht:bcC y.data.toList 32 with _|⟨tb,tt⟩
      . have hsk:jR y=true:=by unfold jR;rw[hp,ht];rfl
        have HSK:=hdd (HRN.out.symm.trans (abT hsk));rw[ht]at HTR;clear hsk hp ht;go_wp2_with fail
        refine HHP.out.mono ?_;rintro e wa⟨rfl,hw⟩;obtain rfl:=hw;go_wp2_with fail
        refine HTR.out.mono ?_;rintro e wa⟨T,hT,rfl,hba⟩;have HNX:Hid (PaSt L R w2 (m+1) (.slice p tl.length c) tl wa):=hdd ⟨HSK.out.symm,H5.out.1.below hba,aA H5.out.2.1 hba,H5.out.2.2⟩;clear hba;go_wp2_with fail
        go_roundw
        case rel=>exact⟨m+1,tl,HLT.out,by go_num,HNX⟩
        case measure=>exact fE HLT.out
      . have hsk:jR y=false:=by unfold jR;rw[hp,ht];rfl
        have HSK:=hdd hsk;rw[ht]at HTR;clear hsk hp ht;go_wp2_with fail
        refine HHP.out.mono ?_;rintro e wa⟨rfl,hw⟩;obtain rfl:=hw;go_wp2_with fail
        refine HTR.out.mono ?_;rintro e wa⟨T,hT,rfl,hba⟩;have HPR:=hdd (agU (s:=y) (w:=wa) HYS.out);have HBA:=hdd hba;clear hba;rcases hps:gX y with _|x
        . rw[hps]at HPR
          have HR:=hdd (HRN.out.symm.trans (amT HSK.out hps));clear hps;go_wp2_with fail
          refine HPR.out.mono ?_;intro e wb hr;obtain⟨rfl,hbb⟩:=hr.bad;obtain⟨wc,hwc,hbc,hsc,bc⟩:=pro1 wb (.cells #[.string ⟨#[]⟩,.slice none 0 0] 27);obtain⟨q0,q1,q2,q3⟩:=aB bc;obtain⟨wd,hwd⟩:∃W,(wc.setCell ⟨wb.heap.size,0,none⟩ (.string ⟨#[]⟩)).setCell ⟨wb.heap.size,1,none⟩ (.slice none 0 0)=W:=⟨_,rfl⟩;have HBD:=hdd (show Below wr.heap.size wr wd by rw[<-hwd];exact(((aA (aA HBA.out hbb) hbc).setCell (aA HBA.out hbb).size _).setCell (aA HBA.out hbb).size _));clear hr hbb hbc hsc bc;go_wp2_with fail
          refine(HSC _).out.mono ?_;rintro e we⟨rfl,hw⟩;obtain rfl:=hw;simp only[hwd];go_wp2_with fail
          refine(yD (i:=(m:Int)+1) (k:=6)).mono ?_;intro e wf hr;obtain⟨rfl,hbk,hbf⟩:=ae3 hr;have HFIN:Hid (pX w R (.returned (.tuple #[.slice none 0 0,.iface 93 (.pointer (some ⟨wd.heap.size,0,none⟩))])) wf):=hdd (by
           rw[HR.out];have h1:=aA HB.out (aA (aA H5.out.2.1 HBD.out) hbf);refine⟨h1,wd.heap.size,rfl,?_,hbk⟩;exact bbM HB.out.size (aA H5.out.2.1 HBD.out).size)
          clear hr hbk hbf hwd hwc q0 q1 q2 q3;go_wp2
          go_ret2
          exact HFIN.out
        . rw[hps]at HPR
          have hlI:(tl.length:Int)<=200:=by have:=H5.out.2.2;omega
          rcases Decidable.em (tl.length=200)with h2|h2
          . have HR:=hdd (HRN.out.symm.trans (akC HSK.out hps (by rw[bbI];exact h2)))
            have h2I:((tl.length:Int)==200)=true:=beq_iff_eq.2 (by omega);clear hps h2;go_wp2_with fail
            refine HPR.out.mono ?_;intro e wb hr;obtain⟨p',c',rfl,hI,hfr,hbb⟩:=hr.good;obtain⟨wc,hwc,hbc,hsc,bc⟩:=pro1 wb (.cells #[.string x.1,.slice p' x.2.length c'] 27);have HBD:=hdd (aA (aA HBA.out hbb) hbc);clear hr hbb hbc hsc bc hI hfr;go_wp2_with fail
            refine(HLM _).out.mono ?_;rintro e we⟨rfl,hw⟩;obtain rfl:=hw;go_wp2_with fail
            refine(yD (i:=(m:Int)+1) (k:=7)).mono ?_;intro e wf hr;obtain⟨rfl,hbk,hbf⟩:=ae3 hr;have HFIN:Hid (pX w R (.returned (.tuple #[.slice none 0 0,.iface 93 (.pointer (some ⟨wc.heap.size,0,none⟩))])) wf):=hdd (by
             rw[HR.out];have h1:=aA HB.out (aA (aA H5.out.2.1 HBD.out) hbf);refine⟨h1,wc.heap.size,rfl,?_,hbk⟩;exact bbM HB.out.size (aA H5.out.2.1 HBD.out).size)
            clear hr hbk hbf hwc;go_wp2
            go_ret2
            exact HFIN.out
          . have HR:=hdd (HRN.out.symm.trans (akD HSK.out hps (by rw[bbI];exact h2)))
            have h2I:((tl.length:Int)==200)=false:=beq_eq_false_iff_ne.2 (by omega);have h3:tl.length<200:=by have:=H5.out.2.2;omega
            have H3:=hdd h3;clear hps h2 h3;go_wp2_with fail
            refine HPR.out.mono ?_;intro e wb hr;obtain⟨p',c',rfl,hI,hfr,hbb⟩:=hr.good;obtain⟨wc,hwc,hbc,hsc,bc⟩:=pro1 wb (.cells #[.string x.1,.slice p' x.2.length c'] 27);obtain⟨y0,y1,-,-⟩:=aB bc;obtain⟨wd,hwd,hbd,hsd,bd⟩:=pro1 wc (.cells #[.string x.1,.slice p' x.2.length c'] 27);have hab:=HBA.out;have h1:=aA (aA hab hbb) (aA hbc hbd);have HRW:=hdd (H5.out.1.below h1);have HBD:=hdd (aA H5.out.2.1 h1);have HI:=hdd (hI.below (aA hbc hbd));have HNW:=hdd (World.news_of_block bd);have HF:Hid (∀b,(Value.slice p' x.2.length c').ownBlock=some b->(Value.slice p tl.length c).ownBlock≠some b/\w2.heap.size<=b/\b<wd.heap.size):=hdd fun b hb=>by
             obtain⟨q1,q2⟩:=hfr b hb;have:=(aA H5.out.2.1 hab).size;have:=(aA hbc hbd).size;refine⟨fun e=> ?_,by omega,by omega⟩;have:=fT H5.out.1.1 b e;have:=hab.size;omega
            have HSZ:Hid (w2.heap.size<=wd.heap.size):=hdd HBD.out.size;obtain⟨i0,hi0,hz0,hz1,hz2⟩:=info_parts agY;have HI0:=hdd hi0;have HZ0:=hdd hz0;have HZ1:=hdd hz1;have HZ2:=hdd hz2;clear hr hbb hbc hsc bc hI hfr hab h1 hbd hsd bd hi0 hz0 hz1 hz2;go_wp2_with (first
             |(at_builtin
               go_loud (
               refine wpList_append_lies _ rfl _ _ 22 rfl w2.heap.size 27 i0 (.agg #[.string ⟨#[]⟩,.slice none 0 0]) 2 40 agX HI0.out HZ0.out HZ1.out HZ2.out rfl (by decide) _ tl.length (eQ tl) rfl HRW.out.1 ⟨wc.heap.size,0,none⟩ 1 1 [.string x.1,.slice p' x.2.length c'] rfl rfl HNW.out (by simp[Value.oneCell']) (by decide) (by have:=H3.out;unfold maxLen;omega) (by have:=H3.out;omega) HSZ.out wd.heap.size rfl ?_;intro r2 cap2 w8 hown8 hgrow8 hat8 hlt8;have HO8:=hdd hown8;have HG8:=hdd hgrow8;have HA8:=hdd hat8;clear hown8 hgrow8 hat8 hlt8)))
            have HNX:Hid (PaSt L R w2 (m+1) (.slice (some ⟨r2,0,none⟩) (tl.length+1) cap2) (tl++[(x,.slice p' x.2.length c')]) w8):=hdd (by
             refine⟨by rw[HR.out,List.map_append];rfl,HRW.out.snoc HI.out HF.out HO8.out HG8.out HA8.out,HBD.out.trans ((below_grown HG8.out HSZ.out fun b hb=>(HRW.out.1.lt b hb).1)),by rw[bbJ];have:=H3.out;simp;omega⟩)
            clear HO8 HG8 HA8 HRW HI HF HNW y0 y1 hwd hwc
            go_roundw
            case rel=>exact⟨m+1,_,HLT.out,by go_num,HNX⟩
            case measure=>exact fE HLT.out
    . obtain rfl:m=n:=Nat.le_antisymm hm hge
      rw[List.drop_of_length_le (by rw[HN.out];exact bbY _)]at hrun;have HFIN:Hid (pX w R (.returned (.tuple #[.slice p tl.length c,.nilIface])) wr):=hdd (by
       subst hrun;exact⟨aA HB.out hbl,_,rfl,by have:=hrow.steps;exact this⟩)
      clear hrun hrow hbl h200 HG hm hge HS0;go_wp2
      go_ret2
      exact HFIN.out
end Go.Proofs.YtigoiiekebccnaaGreatDoor
